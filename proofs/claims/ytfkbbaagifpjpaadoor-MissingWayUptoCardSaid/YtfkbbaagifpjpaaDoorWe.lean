/- A walk engine over abstract states, and the contracts of the functions that the statement reaches: part 5. -/
import Derived.Test.YtfkbbaagifpjpaaDoorWd
set_option linter.unusedVariables false
set_option linter.unusedSimpArgs false
set_option linter.unnecessarySimpa false
namespace Go.Ab
open Go.RowKit Go.Proofs
set_option maxHeartbeats 8000000
set_option maxRecDepth 20000
attribute [local irreducible] WalkL Walk
def orderM (F:Mat) (S:List SpotT):Nat→Nat→Nat→MemB→List Int × MemB
 | 0,_,_,m=>([],m)
 | f + 1,p,s,m=>if s=0 then ([],m) else
  ((bestM F S 5 p s m).1.2::(orderM F S f (nextP S (bestM F S 5 p s m).1.2.toNat) (s - 2 ^ (bestM F S 5 p s m).1.2.toNat) (bestM F S 5 p s m).2).1,
    (orderM F S f (nextP S (bestM F S 5 p s m).1.2.toNat) (s - 2 ^ (bestM F S 5 p s m).1.2.toNat) (bestM F S 5 p s m).2).2)
def OrdOk (F:Mat) (S:List SpotT):Nat→Nat→Nat→MemB→Prop
 | 0,_,s,_=>s=0
 | f + 1,p,s,m=>s=0∨∃ i:Nat,i ∈ elems s∧(bestM F S 5 p s m).1.2=(i:Int)∧OrdOk F S f (nextP S i) (s - 2 ^ i) (bestM F S 5 p s m).2
theorem z1097 (F:Mat) (S:List SpotT) (f p:Nat) (m:MemB):orderM F S f p 0 m=([],m):=by
 cases f
 ·rfl
 ·rw [orderM,if_pos rfl]
theorem zf57 (A B C:DV) (m:Nat) (F:Mat) (S:List SpotT) (hS:SpotsOk m S) (zf0 s0 p0:Nat) (M0:MemB) (hs0:s0<32) (hi0:∀ i ∈ elems s0,i<S.length) (hp0:p0<m) (hok0:OrdOk F S zf0 p0 s0 M0) (hf0:zf0≤8) :
  FnG Tryd.prog 57 [.mp (some [.i64,.u64]) (memB M0.1) M0.2] [0] [.agg [.d (.ptr (rescC A B C m F S) 0),.mp 0],.d (.i (p0:Int)),.d (uD s0)] (.own 1)
   [.mp (some [.i64,.u64]) (memB (orderM F S zf0 p0 s0 M0).2.1) (orderM F S zf0 p0 s0 M0).2.2,.arr 3 1 (intRows (orderM F S zf0 p0 s0 M0).1)]:=by
 have h55:=zf55 A B C m F S hS 5
 obtain ⟨L,hL⟩:∃ L,L=orderM F S zf0 p0 s0 M0:=⟨_,rfl⟩
 rw [← hL]
 simp only [uD,rescC] at h55 ⊢
 refine z45 38 Tryd.call57 Tryd.func57 rfl (by decide) [36] [(0,0)] (by simp only [List.length_cons,List.length_nil];decide) (by kernel_rfl) fun J=>?_
 simp only [go_sem,St.startG,Tryd.ntmps57,Tryd.results57,List.map_cons,List.map_nil,List.range_succ,  ]
 repeat (first | refine nx ?_ | (refine z3 fun K hK=>?_;simp only [go_sem];apply hK;clear hK K))
 refine z15 (fun (a:(Nat × Nat × Nat) × List Int × MemB)=>[(1,.d (.i (a.1.2.1:Int))),(2,.d (.int .u64 (a.1.2.2:Int))),(6,.own 36)])
  (fun a=>[(36,some (.arr 3 1 (intRows a.2.1))),(38,some (.mp (some [.i64,.u64]) (memB a.2.2.1) a.2.2.2))])
  (fun a=>a.1.1≤zf0∧a.2.1.length + a.1.1=zf0∧a.1.2.2<32∧(∀ i ∈ elems a.1.2.2,i<S.length)∧a.1.2.1<m∧OrdOk F S a.1.1 a.1.2.1 a.1.2.2 a.2.2∧L=(a.2.1++(orderM F S a.1.1 a.1.2.1 a.1.2.2 a.2.2).1,(orderM F S a.1.1 a.1.2.1 a.1.2.2 a.2.2).2))
  (fun a=>a.1.1) ((zf0,p0,s0),[],M0) ?_ ⟨Nat.le_refl _,by simp,hs0,hi0,hp0,hok0,by rw [hL];rfl⟩ ?_
 ·simp only [go_sem]
  refine z66 [36] ?_ ?_ ?_ ?_
  ·simp [lessT,z128,AV.less]
  ·simp [lessM,lessB,lessT,z128,AV.less,intRows]
  ·first | rfl | simp [liveB,AV.refs,AV.refs.AV.refss,intRows]
  ·first | rfl | simp [liveM,liveB,AV.refs,AV.refs.AV.refss,intRows]
 ·rintro ⟨⟨f,p,s⟩,out,es,c⟩ ⟨hf,hlen,hs,hi,hp,hok,hLL⟩
  dsimp only at hf hlen hs hi hp hok hLL
  by_cases h0:s=0
  ·subst h0
   simp only [go_sem]
   repeat (first | refine nx ?_ | (refine z3 fun K hK=>?_;simp only [go_sem];apply hK;clear hK K))
   refine z6 (by rfl) ?_
   repeat (first | refine nx ?_ | (refine z3 fun K hK=>?_;simp only [go_sem];apply hK;clear hK K))
   rw [z1097,List.append_nil] at hLL
   rw [hLL]
   simp only [go_sem]
  ·have q0:((s:Int) != 0)=true:=by simp;omega
   cases f with
   | zero=>exact absurd hok h0
   | succ f =>
    rw [OrdOk] at hok
    obtain ⟨i,hie,hib,hok'⟩:=hok.resolve_left h0
    rw [orderM,if_neg h0,hib,Int.toNat_natCast] at hLL
    have hil:=hi i hie
    have hs5:∀ s:Nat,s<32→(elems s).length≤5:=by decide +kernel
    have h55i:=h55 s p (es,c) hs (hs5 s hs) hi hp
    obtain ⟨R,hR⟩:∃ R,R=bestM F S 5 p s (es,c):=⟨_,rfl⟩
    rw [← hR] at h55i hok' hLL hib
    obtain ⟨⟨r1,r2⟩,es2,c2⟩:=R
    dsimp only at h55i hok' hLL hib
    subst hib
    obtain ⟨u1,u2,u3⟩:=z686 hs hie
    have hpl:=hS.pl (spotAt S i) (List.mem_of_getElem? (z226 hil))
    have hqe:(spotAt S i).pl=(nextP S i:Int):=by rw [nextP];omega
    have hqm:nextP S i<m:=by omega
    have g0:(S.map SpotT.row)[i]?=some [.i (nextP S i:Int),.i (spotAt S i).wt,.i (spotAt S i).se]:=by rw [← hqe,List.getElem?_map,z226 hil];rfl
    have l3:i<(S.map SpotT.row).length:=by simpa using hil
    have n3:¬ ((i:Int)<0):=by omega
    have hsh:=z875 s hs i (z514 hie) hie
    have hol:out.length≤8:=by omega
    have hr39:(intRows out).length≤549755813887:=by rw [z16];omega
    have hpush:intRows out++[[.i (i:Int)]]=intRows (out++[(i:Int)]):=by simp [intRows]
    simp only [go_sem]
    repeat (first | refine nx ?_ | (refine z3 fun K hK=>?_;simp only [go_sem,q0];apply hK;clear hK K))
    refine z9 rfl ?_
    repeat (first | refine nx ?_ | (refine z3 fun K hK=>?_;simp only [go_sem];apply hK;clear hK K))
    refine z3 fun K hK=>?_
    simp only [go_sem]
    refine ⟨_,.inPlace (n:=38) (hf:=h55i) (hn:=rfl) (hb:=rfl) (hla:=rfl) (ha:=z73 (by repeat (first | exact trivial | refine And.intro ?_ ?_ | exact z87 rfl | exact z55 rfl rfl))),?_⟩
    simp only [go_sem]
    apply hK
    clear hK K
    repeat (first | refine nx ?_ | (refine z3 fun K hK=>?_;simp only [go_sem,hr39];apply hK;clear hK K))
    refine z8 (by kernel_rfl) (by kernel_rfl) fun K hK=>?_
    simp only [go_sem,g0,l3,n3,hsh]
    refine ⟨by kernel_rfl,hK _ ?_⟩
    clear hK K
    repeat (first | refine nx ?_ | (refine z3 fun K hK=>?_;simp only [go_sem];apply hK;clear hK K))
    refine ⟨rfl,((f,nextP S i,s - 2 ^ i),out++[(i:Int)],(es2,c2)),?_,⟨by dsimp only;omega,by simp only [List.length_append,List.length_singleton];omega,u1,fun j hj=>hi j (u3 j hj),hqm,hok',by rw [hLL,List.append_assoc];rfl⟩,by dsimp only;omega⟩
    simp only [go_sem,hpush]
    refine weA ?_ ?_ <;> simp
end Go.Ab
/- A function that writes a map and makes arrays of its own: what it makes is told as a deep value. -/
namespace Go.Ab
open Go.RowKit
theorem FnG.deepMp {P:Program} {f:FuncId} {b0:Blk} {args:List AV} {r:AV} {kk:KK} {es:List (MK × DV × Nat)} {c:Nat} {rest:List Blk} {d:DV} (h:FnG P f [b0] [0] args r (.mp kk es c::rest)) (hr:reify ((.mp kk es c::rest:List Blk).map some) Ab.deep r=some d)
  (h0:∀ n ∈ r.refs,n≠0) (ha:∀ n ∈ r.refs,∃ e z rows,((.mp kk es c::rest:List Blk).map some)[n]?=some (some (.arr e z rows))):FnG P f [b0] [0] args (.d d) [.mp kk es c] :=
 ⟨h.enters,fun base w own μ0 vs h1 h2 h3 h4 h5 h6=>(h.calls base w own μ0 vs h1 h2 h3 h4 h5 h6).mono fun en w' hq=>by
  obtain ⟨v,μ1,he,hv,hm,hk,hp⟩:=hq
  obtain ⟨μ2,hμ2⟩:∃ μ2:Pl,μ2=fun i=>if i=0 then μ1 0 else none:=⟨_,rfl⟩
  have e0:μ2 0=μ1 0:=by rw [hμ2];rfl
  have hs:∀ i L,μ2 i=some L→i=0∧μ1 0=some L:=fun i L hi=>by
   rw [hμ2] at hi
   dsimp only at hi
   split at hi
   ·exact ⟨by assumption,hi⟩
   ·cases hi
  have hsub:∀ q,ownOf own μ2 q→ownOf own μ1 q:=by
   rintro q (h | ⟨i,z,l,c,h⟩)
   ·exact .inl h
   ·exact .inr ⟨0,z,l,c,(hs i _ h).2⟩
  have hg:Goes w' (ownOf own μ1) w' (ownOf own μ2):=fun q o u h1 h2=>⟨fun hc=>h1 (hsub q hc),h2⟩
  refine ⟨v,μ2,he,.d (z37 hm (ownOf own μ2) hsub (fun n=>n≠0) (fun n b z l c hn hb hc=>?_) Ab.deep r v d hv hr h0 (.inr ha)),⟨fun n b hb=>?_,fun n hn=>?_,fun n k b z l c z' l' c' q1 q2=>?_,fun n b z l c hn=>?_⟩,⟨hk.keep,fun b hb hno=>?_⟩,fun i hi=>?_⟩
  ·rcases hc with hc | ⟨i,z',l',c',hc⟩
   ·exact (hm.base n b z l c hb).2.2 hc
   ·exact hn (hm.inj n 0 b z l c z' l' c' hb (hs i _ hc).2)
  ·cases n with
   | zero =>
    have e:Blk.mp kk es c=b:=by simpa using hb
    subst e
    exact BlkRel.mapN (μ':=μ2) (n':=0) (h:=fun _=>none) (.inl hg) e0 (fun k _ j hj=>by cases hj) (fun _ _ _ _ _=>rfl) (hm.blk 0 (.mp kk es c) rfl)
   | succ n=>simp at hb
  ·obtain ⟨L,hL⟩:=Option.isSome_iff_exists.1 hn
   obtain ⟨rfl,_⟩:=hs n L hL
   exact ⟨_,rfl⟩
  ·obtain ⟨rfl,_⟩:=hs n _ q1
   obtain ⟨rfl,_⟩:=hs k _ q2
   rfl
  ·obtain ⟨rfl,h⟩:=hs n _ hn
   exact hm.base 0 b z l c h
  ·obtain ⟨p1,p2⟩:=hk.stays b hb hno
   exact ⟨p1,fun hc=>p2 (hsub b hc)⟩
  ·have:i=0:=by simpa using hi
   subst this
   rw [e0]
   exact hp 0 (by simp)⟩
end Go.Ab
namespace Go.Ab
open Go.RowKit Go.Proofs
set_option maxHeartbeats 8000000
set_option maxRecDepth 20000
attribute [local irreducible] WalkL Walk
def fullN (S:List SpotT):Nat:=2 ^ S.length - 1
def bestP (F:Mat) (S:List SpotT) (b:Nat):(Int × Int) × MemB:=bestM F S 5 b (fullN S) ([],0)
def orderP (F:Mat) (S:List SpotT) (b:Nat):List Int:=(orderM F S 5 b (fullN S) (bestP F S b).2).1
def planC (n:Net) (p:Party) (F:Mat) (base:Int) (S:List SpotT):List Int × Int × Int :=
 if readyE n p [base] S≠0 then ([],0,readyE n p [base] S) else if (bestP F S base.toNat).1.1 ≥ farW then ([],0,3) else (orderP F S base.toNat,(bestP F S base.toNat).1.1,0)
def planD (r:List Int × Int × Int):DV:=.tup [.sl (intRows r.1),.i r.2.1,.i r.2.2]
def OrdP (F:Mat) (S:List SpotT) (b:Nat):Prop:=(bestP F S b).1.1<farW→OrdOk F S 5 b (fullN S) (bestP F S b).2
theorem z1177 {S:List SpotT} (h:S.length≤5):fullN S<32:=by
 have:∀ k:Nat,k≤5→2 ^ k - 1<32:=by decide
 exact this _ h
theorem z1124:∀ k:Nat,k≤5→∀ i ∈ elems (2 ^ k - 1),i<k:=by decide +kernel
theorem z1125:∀ s:Nat,s<32→(elems s).length≤5:=by decide +kernel
theorem z1090 {n:Net} {p:Party} {bases:List Int} {S:List SpotT} (h:readyE n p bases S=0):n.Good∧p.Good∧(1≤S.length∧S.length≤8)∧(∀ s ∈ S,(0≤s.pl∧s.pl<n.places)∧(0≤s.wt∧s.wt≤100)∧(0≤s.se∧s.se≤600))∧(1≤bases.length∧bases.length≤3)∧∀ b ∈ bases,0≤b∧b<n.places:=by
 rw [readyE] at h
 split at h
 ·rename_i hc;exact absurd h hc
 ·rename_i hc
  have hc:=Classical.not_not.1 hc
  obtain ⟨g1,g2⟩:=z85.1 hc
  split at h
  ·cases h
  ·rename_i hb
   have hb:badTeams n bases S=false:=by simpa using hb
   simp only [badTeams,Bool.or_eq_false_iff,Bool.not_eq_false',z17,List.any_eq_false] at hb
   obtain ⟨h1,h2,h3,h4⟩:=hb
   refine ⟨g1,g2,by omega,fun s hs=>?_,by omega,fun b hb=>?_⟩
   ·have h5:badSpot n s=false:=by simpa using h2 s hs
    simp only [badSpot,Bool.or_eq_false_iff,Bool.not_eq_false',z17] at h5
    omega
   ·have h5:badBase n b=false:=by simpa using h4 b hb
    simp only [badBase,Bool.not_eq_false',z17] at h5
    omega
theorem zf21 (n:Net) (p:Party) (F:Mat) (base:Int) (S:List SpotT) (hs:n.Small) (hl:S.length≤5∨readyE n p [base] S≠0) (hl2:S.length<2 ^ 30) (hF:readyE n p [base] S=0→matM n.places.toNat (allM n p)=matM n.places.toNat F)
  (ho:readyE n p [base] S=0→OrdP F S base.toNat):Fn Tryd.prog 21 [.agg n.cells,.agg p.cells,.i base,.sl (S.map SpotT.row)] (planD (planC n p F base S)):=by
 have h53:=zf53 n p [base] S hs (by simp) hl2
 rw [planC,planD]
 by_cases he:readyE n p [base] S=0
 ·obtain ⟨hg,hp,hlen,hsp,_,hbase⟩:=z1090 he
  have hb:=hbase base (by simp)
  have hpl:=hg.places
  have hl5:S.length≤5:=hl.resolve_right fun h=>h he
  obtain ⟨b,rfl⟩:∃ b:Nat,base=b:=⟨base.toNat,by omega⟩
  have hbm:b<n.places.toNat:=by omega
  have hS:SpotsOk n.places.toNat S:=⟨hl5,fun s hs=>by have:=(hsp s hs).1;omega⟩
  have hf32:=z1177 hl5
  have hfi:∀ i ∈ elems (fullN S),i<S.length:=z1124 _ hl5
  have ho':=ho he
  rw [readyD,he,if_pos rfl,rescN,rescC,hF he] at h53
  rw [if_neg (fun h=>h he)]
  rw [Int.toNat_natCast] at ho' ⊢
  have h54:=zf54 (rescC (.i n.places) (.sl (n.paths.map Path.row)) (timesD n p) n.places.toNat F S)
  have h56:=zf56 (.i n.places) (.sl (n.paths.map Path.row)) (timesD n p) n.places.toNat F S hl5
  have h55:=zf55 (.i n.places) (.sl (n.paths.map Path.row)) (timesD n p) n.places.toNat F S hS 5 (fullN S) b ([],0) hf32 (z1125 _ hf32) hfi hbm
  have h57:=zf57 (.i n.places) (.sl (n.paths.map Path.row)) (timesD n p) n.places.toNat F S hS 5 (fullN S) b (bestP F S b).2 hf32 hfi hbm
  rw [orderP]
  unfold OrdP at ho'
  unfold bestP at ho' h57 ⊢
  obtain ⟨R,hR⟩:∃ R,R=bestM F S 5 b (fullN S) ([],0):=⟨_,rfl⟩
  rw [← hR] at h55 ho' h57 ⊢
  obtain ⟨⟨cost,r2⟩,es,c⟩:=R
  dsimp only at h55 ho' h57 ⊢
  rw [fullN] at h55 h57
  simp only [rescC,timesD,mapD,uD] at h53 h54 h55 h56 h57
  change FnG Tryd.prog 55 [.mp (some [.i64,.u64]) [] 0] [0] _ _ _ at h55
  refine z10 43 Tryd.call21 Tryd.func21 rfl (by decide) fun J=>?_
  simp only [go_sem,St.start,Tryd.ntmps21,Tryd.results21,Net.cells,Party.cells]
  repeat (first | refine nx ?_ | (refine z3 fun K hK=>?_;simp only [go_sem];(repeat (first | (refine ⟨_,.lent (hf:=h53) (hd:=rfl) (hr:=rfl),?_⟩;simp only [go_sem]) | (refine ⟨_,.given (hf:=h53) (hd:=rfl) (ha:=rfl),?_⟩;simp only [go_sem])));apply hK;clear hK K))
  refine z6 (by rfl) ?_
  repeat (first | refine nx ?_ | (refine z3 fun K hK=>?_;simp only [go_sem];apply hK;clear hK K))
  refine z3 fun K hK=>?_
  simp only [go_sem]
  refine ⟨_,.made (news:=[26]) (hf:=h54) (hd:=rfl) (hn:=by decide) (hl:=rfl) (hnew:=rfl) (hx:=rfl),?_⟩
  simp only [go_sem,List.map_cons,List.map_nil]
  apply hK
  clear hK K
  repeat (first | refine nx ?_ | (refine z3 fun K hK=>?_;simp only [go_sem];apply hK;clear hK K))
  refine z8 (by kernel_rfl) (by kernel_rfl) fun K hK=>?_
  simp only [go_sem]
  refine ⟨_,.fn (hf:=h56) (hd:=rfl) (hr:=.inl rfl),?_⟩
  simp only [go_sem]
  refine ⟨_,.inPlace (n:=26) (hf:=h55) (hn:=rfl) (hb:=rfl) (hla:=rfl) (ha:=z73 (by repeat (first | exact trivial | refine And.intro ?_ ?_ | exact z87 rfl | exact z55 rfl rfl))) (hx:=by first | decide | simp [AV.refsAll,AV.refs,AV.refs.AV.refss]),?_⟩
  simp only [go_sem]
  refine ⟨by kernel_rfl,hK _ ?_⟩
  clear hK K
  by_cases hc:cost ≥ farW
  ·have hd:decide (cost ≥ 1099511627776)=true:=by simpa [farW] using hc
   rw [if_pos hc]
   repeat (first | refine nx ?_ | (refine z3 fun K hK=>?_;simp only [go_sem,hd];apply hK;clear hK K))
   refine z9 rfl ?_
   repeat (first | refine nx ?_ | (refine z3 fun K hK=>?_;simp only [go_sem];apply hK;clear hK K))
   simp only [go_sem,intRows,List.map_nil]
  ·have hd:decide (cost ≥ 1099511627776)=false:=by simpa [farW] using hc
   rw [if_neg hc]
   have h57o:=h57 (by have:=ho' (by omega);rwa [fullN] at this) (by decide)
   obtain ⟨O,hO⟩:∃ O,O=orderM F S 5 b (2 ^ S.length - 1) (es,c):=⟨_,rfl⟩
   rw [fullN,← hO]
   rw [← hO] at h57o
   obtain ⟨ol,es2,c2⟩:=O
   dsimp only at h57o ⊢
   have h57d:=h57o.deepMp (d:=.sl (intRows ol)) rfl (by simp [AV.refs]) (by simp [AV.refs])
   repeat (first | refine nx ?_ | (refine z3 fun K hK=>?_;simp only [go_sem,hd];apply hK;clear hK K))
   refine z6 rfl ?_
   repeat (first | refine nx ?_ | (refine z3 fun K hK=>?_;simp only [go_sem];apply hK;clear hK K))
   refine z8 (by kernel_rfl) (by kernel_rfl) fun K hK=>?_
   simp only [go_sem]
   refine ⟨_,.fn (hf:=h56) (hd:=rfl) (hr:=.inl rfl),?_⟩
   simp only [go_sem]
   refine ⟨_,.inPlace (n:=26) (hf:=h57d) (hn:=rfl) (hb:=rfl) (hla:=rfl) (ha:=z73 (by repeat (first | exact trivial | refine And.intro ?_ ?_ | exact z87 rfl | exact z55 rfl rfl))) (hx:=by first | decide | simp [AV.refsAll,AV.refs,AV.refs.AV.refss]),?_⟩
   simp only [go_sem]
   refine ⟨by kernel_rfl,hK _ ?_⟩
   clear hK K
   repeat (first | refine nx ?_ | (refine z3 fun K hK=>?_;simp only [go_sem];apply hK;clear hK K))
   simp only [go_sem]
 ·have hne:(readyE n p [base] S != 0)=true:=by simpa using he
  rw [if_pos he]
  rw [readyD,if_neg he] at h53
  change Fn Tryd.prog 53 [_,_,.sl [[.i base]],_] _ at h53
  refine z10 43 Tryd.call21 Tryd.func21 rfl (by decide) fun J=>?_
  simp only [go_sem,St.start,Tryd.ntmps21,Tryd.results21,Net.cells,Party.cells]
  rw [Net.cells,Party.cells] at h53
  repeat (first | refine nx ?_ | (refine z3 fun K hK=>?_;simp only [go_sem];(repeat (first | (refine ⟨_,.lent (hf:=h53) (hd:=rfl) (hr:=rfl),?_⟩;simp only [go_sem]) | (refine ⟨_,.given (hf:=h53) (hd:=rfl) (ha:=rfl),?_⟩;simp only [go_sem])));apply hK;clear hK K))
  refine z5 rfl (fun _=>?_) (fun hc=>by rw [hne] at hc;cases hc)
  repeat (first | refine nx ?_ | (refine z3 fun K hK=>?_;simp only [go_sem];apply hK;clear hK K))
  simp only [go_sem,intRows,List.map_nil]
end Go.Ab
namespace Go.Ab
open Go.RowKit Go.Proofs
set_option maxRecDepth 100000
def getL (W:List (List Int)) (a b:Nat):Int:=(W.getD a []).getD b 0
def setLL (W:List (List Int)) (a b:Nat) (v:Int):List (List Int):=W.set a ((W.getD a []).set b v)
def relaxLL (p:Party) (W:List (List Int)) (w:Nat × Path):List (List Int):=setLL W w.2.frm.toNat w.2.to.toNat (min (getL W w.2.frm.toNat w.2.to.toNat) (spanW w.2 p).hi)
def viaLL (v:Nat) (W:List (List Int)) (a b:Nat):List (List Int):=setLL W a b (min (getL W a b) (wr (getL W a v + getL W v b)))
def allLL (n:Net) (p:Party):List (List Int) :=
 let m:=n.places.toNat
 (List.range m).foldl (fun F v=>(List.range m).foldl (fun F a=>(List.range m).foldl (fun F b=>viaLL v F a b) F) F) ((canL n p).foldl (relaxLL p) (matM m zeroM))
theorem z275 {m:Nat} {F:Mat} {a b:Nat} (ha:a<m) (hb:b<m):getL (matM m F) a b=F a b:=by
 simp only [getL,List.getD_eq_getElem?_getD,z82 ha,Option.getD_some,z68 hb]
theorem z630 {m:Nat} {F:Mat} {a b:Nat} (ha:a<m) (v:Int):setLL (matM m F) a b v=matM m (updM F a b v):=by
 simp only [setLL,List.getD_eq_getElem?_getD,z82 ha,Option.getD_some,z503]
theorem z1010 {m:Nat} {p:Party} {F:Mat} {w:Nat × Path} (ha:w.2.frm.toNat<m) (hb:w.2.to.toNat<m):relaxLL p (matM m F) w=matM m (relaxM p F w):=by
 rw [relaxLL,z275 ha hb,z630 ha,relaxM]
theorem z1147 {m v a b:Nat} {F:Mat} (hv:v<m) (ha:a<m) (hb:b<m):viaLL v (matM m F) a b=matM m (viaM v F a b):=by
 rw [viaLL,z275 ha hb,z275 ha hv,z275 hv hb,z630 ha,viaM]
theorem z213 {α:Type} {m:Nat} (f:List (List Int)→α→List (List Int)) (g:Mat→α→Mat):∀ (l:List α) (F:Mat),(∀ F,∀ x ∈ l,f (matM m F) x=matM m (g F x))→l.foldl f (matM m F)=matM m (l.foldl g F)
 | [],F,_=>rfl
 | x::l,F,h=>by
  rw [List.foldl_cons,h F x (by simp),List.foldl_cons]
  exact z213 f g l _ fun F y hy=>h F y (by simp [hy])
theorem z1186 {n:Net} (p:Party) (hg:n.Good):allLL n p=matM n.places.toNat (allM n p):=by
 rw [allLL,allM]
 rw [z213 (relaxLL p) (relaxM p) _ _ (fun F w hw=>by
  obtain ⟨_,h2,_⟩:=z86 hw
  have:=hg.path w.2 (List.mem_of_getElem? h2)
  exact z1010 (by have:=this.frm;omega) (by have:=this.to;omega))]
 refine z213 _ _ _ _ fun F v hv=>?_
 refine z213 _ _ _ _ fun F a ha=>?_
 refine z213 _ _ _ _ fun F b hb=>?_
 exact z1147 (List.mem_range.1 hv) (List.mem_range.1 ha) (List.mem_range.1 hb)
def exM:Missed:=⟨exP,0,300,600,30,[⟨420,2,true⟩,⟨500,4,false⟩,⟨560,9,true⟩]⟩
end Go.Ab
namespace Go.Ab
open Go.RowKit Go.Proofs
set_option maxHeartbeats 8000000
set_option maxRecDepth 20000
attribute [local irreducible] WalkL Walk
def exSpots:List (List DV):=[[.i 3,.i 50,.i 60],[.i 1,.i 30,.i 20],[.i 2,.i 20,.i 40]]
theorem zf46:Fn Tryd.prog 46 [] (.tup [.agg exN.cells,.agg exM.row,.sl exSpots]):=by
 have h49:=zf80
 refine z10 20 Tryd.call46 Tryd.func46 rfl (by decide) fun J=>?_
 simp only [go_sem,St.start,Tryd.ntmps46,Tryd.results46,]
 repeat (first | refine nx ?_ | (refine z3 fun K hK=>?_;simp only [go_sem,exN,exP,Net.cells,Party.cells,Path.row,Span.row];(repeat (first | (refine ⟨_,.lent (hf:=h49) (hd:=rfl) (hr:=rfl),?_⟩;simp only [go_sem,exN,exP,Net.cells,Party.cells,Path.row,Span.row]) | (refine ⟨_,.given (hf:=h49) (hd:=rfl) (ha:=rfl),?_⟩;simp only [go_sem,exN,exP,Net.cells,Party.cells,Path.row,Span.row])));apply hK;clear hK K))
 refine z8 (by kernel_rfl) (by kernel_rfl) fun K hK=>?_
 simp only [go_sem,exN,exP,Net.cells,Party.cells,Path.row,Span.row]
 refine ⟨by kernel_rfl,hK _ ?_⟩
 clear hK K
 repeat (first | refine nx ?_ | (refine z3 fun K hK=>?_;simp only [go_sem];apply hK;clear hK K))
 simp only [go_sem]
 rfl
end Go.Ab
namespace Go.Ab
open Go.RowKit Go.Proofs
set_option maxHeartbeats 4000000
set_option maxRecDepth 20000
attribute [local irreducible] WalkL Walk
def staysF (cl:List Clue) (place top:Int):Nat→Int→List Int
 | 0,_=>[]
 | f + 1,m=>if m≤top∧atB cl place m=true then m::staysF cl place top f (m + 1) else []
def staysL (x:Missed) (place m most:Int):List Int:=staysF x.clues place (min most x.now) (min most x.now - m + 1).toNat m
theorem z324 {α:Type} {l:List α} {j:Nat} {x:α} {r:List α} (h:l.drop j=x::r):l[j]?=some x∧l.drop (j + 1)=r∧j<l.length:=by
 have h1:l[j]?=some x:=by
  have:=congrArg (fun l=>l[0]?) h
  simpa using this
 refine ⟨h1,?_,(List.getElem?_eq_some_iff.1 h1).1⟩
 have:=congrArg (List.drop 1) h
 simpa [Nat.add_comm] using this
theorem z131 {α:Type} {l:List α} {j:Nat} (h:l.drop j=[]) (hj:j≤l.length):j=l.length:=by
 have:=List.drop_eq_nil_iff.1 h
 omega
def minRows (l:List Int):List (List DV):=l.map fun m=>[.i m]
theorem z306 {l:List Int} {j:Nat} {m:Int} (h:l[j]?=some m):(minRows l)[j]?=some [.i m]:=by simp [minRows,h]
def trkB (n:Net) (x:Missed):List DV:=[.ptr (huntC n x) 0]
theorem z1173 (n:Net) (x:Missed) (place m0 most:Int) (hp:0≤place) (hm:0≤m0∧m0≤2 ^ 40) (hn:x.now≤2 ^ 40) (hl:x.clues.length<2 ^ 62) :
  IterB Tryd.prog 102 (fun b=>[.ptr [.i place,.i m0] 0,.ptr [.i most] 0,.ptr [.raw b 0] 0]) ((trkB n x).map some) (minRows (staysL x place m0 most)):=by
 refine z424 40 Tryd.call102 Tryd.func102 rfl rfl fun l J B pb hS hG hP=>?_
 simp only [go_sem,St.start,Tryd.ntmps102]
 repeat (first | refine nx ?_ | (refine z3 fun K hK=>?_;simp only [go_sem];apply hK;clear hK K))
 obtain ⟨L,hL⟩:∃ L,L=staysL x place m0 most:=⟨_,rfl⟩
 obtain ⟨top,htop⟩:∃ top,top=min most x.now:=⟨_,rfl⟩
 rw [← hL]
 have hL0:L=staysF x.clues place top (top - m0 + 1).toNat m0:=by rw [hL,staysL,htop]
 refine z57 (fun (j:Nat)=>[(5,.d (.i (m0 + j)))]) (fun _=>[]) (fun k j=>k=some j∧j≤L.length∧L.drop j=staysF x.clues place top ((top - m0 + 1).toNat - j) (m0 + j)) (fun j=>(top - m0 + 1).toNat + 1 - j) 0 ?_ ⟨rfl,Nat.zero_le _,by simpa using hL0⟩ ?_
 ·simp only [go_sem]
  refine weA ?_ ?_ <;> simp
 ·rintro k j ⟨rfl,hj,hd⟩
  simp only [go_sem]
  have hc9:(huntC n x)[9]?=some (.i x.now):=rfl
  repeat refine nx ?_
  have h74:=z1145 n x place (m0 + j) hp hl
  by_cases h1:m0 + (j:Int)≤min most x.now
  ·have hb1:decide (m0 + (j:Int)≤min most x.now)=true:=by simpa using h1
   have hf1:(top - m0 + 1).toNat - j=((top - m0 + 1).toNat - (j + 1)) + 1:=by omega
   have hw:IntKind.i64.wrap (m0 + (j:Int) + 1)=m0 + ((j + 1:Nat):Int):=by rw [z12 (by omega)];omega
   rw [hf1,staysF] at hd
   by_cases h2:atB x.clues place (m0 + j)=true
   ·rw [if_pos ⟨by omega,h2⟩] at hd
    obtain ⟨hg,hd2,hlt⟩:=z324 hd
    refine z157 hS hG hP 25 (by kernel_rfl) (by kernel_rfl) (by kernel_rfl) (by decide) rfl fun K hK=>?_
    simp only [go_sem,trkB,hc9,hb1]
    refine ⟨_,.fn (hf:=h74) (hd:=rfl) (hr:=.inl rfl),?_⟩
    simp only [go_sem,hb1,h2]
    refine ⟨by kernel_rfl,?_⟩
    refine ⟨rfl,j,[.i (m0 + j)],rfl,rfl,by rw [← hL];exact z306 hg,?_,?_⟩
    ·simp only [go_sem]
     refine hK _ _ ?_
     clear hK K
     refine z9 rfl ?_
     repeat (first | refine nx ?_ | (refine z3 fun K hK=>?_;simp only [go_sem,hw];apply hK;clear hK K))
     refine ⟨j + 1,?_,⟨rfl,hlt,by rw [hd2];congr 1;omega⟩,by omega⟩
     refine weA ?_ ?_ <;> simp
    ·simp only [go_sem]
     refine hK _ _ ?_
     clear hK K
     refine z6 rfl ?_
     repeat (first | refine nx ?_ | (refine z3 fun K hK=>?_;simp only [go_sem];apply hK;clear hK K))
     exact ⟨trivial,.inr rfl⟩
   ·rw [if_neg (fun hc=>h2 hc.2)] at hd
    have h2:atB x.clues place (m0 + j)=false:=by simpa using h2
    have he:=z131 hd hj
    refine z157 hS hG hP 25 (by kernel_rfl) (by kernel_rfl) (by kernel_rfl) (by decide) rfl fun K hK=>?_
    simp only [go_sem,trkB,hc9,hb1]
    refine ⟨_,.fn (hf:=h74) (hd:=rfl) (hr:=.inl rfl),?_⟩
    simp only [go_sem,hb1,h2]
    refine ⟨by kernel_rfl,?_⟩
    refine hK _ _ ?_
    clear hK K
    refine z6 rfl ?_
    repeat (first | refine nx ?_ | (refine z3 fun K hK=>?_;simp only [go_sem];apply hK;clear hK K))
    exact ⟨trivial,.inl (by rw [he,minRows,List.length_map])⟩
  ·have hb1:decide (m0 + (j:Int)≤min most x.now)=false:=by simpa using h1
   have he:j=L.length:=by
    refine z131 ?_ hj
    rw [hd]
    cases hf:(top - m0 + 1).toNat - j with
    | zero=>rfl
    | succ f=>rw [staysF,if_neg (fun hc=>h1 (by rw [← htop];exact hc.1))]
   refine z157 hS hG hP 25 (by kernel_rfl) (by kernel_rfl) (by kernel_rfl) (by decide) rfl fun K hK=>?_
   simp only [go_sem,trkB,hc9,hb1]
   refine ⟨by kernel_rfl,?_⟩
   refine hK _ _ ?_
   clear hK K
   refine z6 rfl ?_
   repeat (first | refine nx ?_ | (refine z3 fun K hK=>?_;simp only [go_sem];apply hK;clear hK K))
   exact ⟨trivial,.inl (by rw [he,minRows,List.length_map])⟩
theorem z1034 (n:Net) (x:Missed) (a b:DV) (place m0 most:Int) (hp:0≤place) (hm:0≤m0∧m0≤2 ^ 40) (hn:x.now≤2 ^ 40) (hl:x.clues.length<2 ^ 62) :
  IterE Tryd.prog 102 [] (fun l=>[.d (.yld l),.d (.ptr [.i place,.i m0] 0),.d (.ptr [.i most] 0),.d (.ptr [.ptr [.ptr (huntC n x) 0,a,b] 0] 0)]) (minRows (staysL x place m0 most)):=by
 refine z237 40 Tryd.call102 Tryd.func102 rfl rfl fun l J hG=>?_
 simp only [go_sem,St.startG,Tryd.ntmps102,Tryd.results102,List.map_cons,List.map_nil,List.range_succ,  ]
 repeat (first | refine nx ?_ | (refine z3 fun K hK=>?_;simp only [go_sem];apply hK;clear hK K))
 obtain ⟨L,hL⟩:∃ L,L=staysL x place m0 most:=⟨_,rfl⟩
 obtain ⟨top,htop⟩:∃ top,top=min most x.now:=⟨_,rfl⟩
 rw [← hL]
 have hL0:L=staysF x.clues place top (top - m0 + 1).toNat m0:=by rw [hL,staysL,htop]
 refine z57 (fun (j:Nat)=>[(5,.d (.i (m0 + j)))]) (fun _=>[]) (fun k j=>k=some j∧j≤L.length∧L.drop j=staysF x.clues place top ((top - m0 + 1).toNat - j) (m0 + j)) (fun j=>(top - m0 + 1).toNat + 1 - j) 0 ?_ ⟨rfl,Nat.zero_le _,by simpa using hL0⟩ ?_
 ·simp only [go_sem]
  refine weA ?_ ?_ <;> simp
 ·rintro k j ⟨rfl,hj,hd⟩
  simp only [go_sem]
  have hc9:(huntC n x)[9]?=some (.i x.now):=rfl
  repeat refine nx ?_
  have h74:=z1145 n x place (m0 + j) hp hl
  by_cases h1:m0 + (j:Int)≤min most x.now
  ·have hb1:decide (m0 + (j:Int)≤min most x.now)=true:=by simpa using h1
   have hf1:(top - m0 + 1).toNat - j=((top - m0 + 1).toNat - (j + 1)) + 1:=by omega
   have hw:IntKind.i64.wrap (m0 + (j:Int) + 1)=m0 + ((j + 1:Nat):Int):=by rw [z12 (by omega)];omega
   rw [hf1,staysF] at hd
   by_cases h2:atB x.clues place (m0 + j)=true
   ·rw [if_pos ⟨by omega,h2⟩] at hd
    obtain ⟨hg,hd2,hlt⟩:=z324 hd
    refine z62 hG [] 25 (by kernel_rfl) (by kernel_rfl) (by kernel_rfl) (by decide) fun K hK=>?_
    simp only [go_sem,hc9,hb1]
    refine ⟨_,.fn (hf:=h74) (hd:=rfl) (hr:=.inl rfl),?_⟩
    simp only [go_sem,hb1,h2]
    refine ⟨by kernel_rfl,?_⟩
    refine ⟨rfl,j,[.i (m0 + j)],rfl,rfl,rfl,by rw [← hL];exact z306 hg,?_,?_⟩
    ·simp only [go_sem]
     refine hK _ _ ?_
     clear hK K
     refine z9 rfl ?_
     repeat (first | refine nx ?_ | (refine z3 fun K hK=>?_;simp only [go_sem,hw];apply hK;clear hK K))
     refine ⟨j + 1,?_,⟨rfl,hlt,by rw [hd2];congr 1;omega⟩,by omega⟩
     refine weA ?_ ?_ <;> simp
    ·simp only [go_sem]
     refine hK _ _ ?_
     clear hK K
     refine z6 rfl ?_
     repeat (first | refine nx ?_ | (refine z3 fun K hK=>?_;simp only [go_sem];apply hK;clear hK K))
     exact ⟨trivial,.inr rfl⟩
   ·rw [if_neg (fun hc=>h2 hc.2)] at hd
    have h2:atB x.clues place (m0 + j)=false:=by simpa using h2
    have he:=z131 hd hj
    refine z62 hG [] 25 (by kernel_rfl) (by kernel_rfl) (by kernel_rfl) (by decide) fun K hK=>?_
    simp only [go_sem,hc9,hb1]
    refine ⟨_,.fn (hf:=h74) (hd:=rfl) (hr:=.inl rfl),?_⟩
    simp only [go_sem,hb1,h2]
    refine ⟨by kernel_rfl,?_⟩
    refine hK _ _ ?_
    clear hK K
    refine z6 rfl ?_
    repeat (first | refine nx ?_ | (refine z3 fun K hK=>?_;simp only [go_sem];apply hK;clear hK K))
    exact ⟨trivial,.inl (by rw [he,minRows,List.length_map])⟩
  ·have hb1:decide (m0 + (j:Int)≤min most x.now)=false:=by simpa using h1
   have he:j=L.length:=by
    refine z131 ?_ hj
    rw [hd]
    cases hf:(top - m0 + 1).toNat - j with
    | zero=>rfl
    | succ f=>rw [staysF,if_neg (fun hc=>h1 (by rw [← htop];exact hc.1))]
   refine z62 hG [] 25 (by kernel_rfl) (by kernel_rfl) (by kernel_rfl) (by decide) fun K hK=>?_
   simp only [go_sem,hc9,hb1]
   refine ⟨by kernel_rfl,?_⟩
   refine hK _ _ ?_
   clear hK K
   refine z6 rfl ?_
   repeat (first | refine nx ?_ | (refine z3 fun K hK=>?_;simp only [go_sem];apply hK;clear hK K))
   exact ⟨trivial,.inl (by rw [he,minRows,List.length_map])⟩
end Go.Ab
namespace Go.Ab
open Go.RowKit Go.Proofs
set_option maxHeartbeats 4000000
set_option maxRecDepth 20000
attribute [local irreducible] WalkL Walk
def walksF (cl:List Clue):Nat→Int→List (Int × Bool)
 | 0,_=>[]
 | f + 1,m=>(m,onB8 cl m)::if onB8 cl m=true then walksF cl f (m + 1) else []
def walksL (x:Missed) (leave:Int):List (Int × Bool):=walksF x.clues (x.now - leave).toNat (leave + 1)
def wkRows (l:List (Int × Bool)):List (List DV):=l.map fun m=>[.i m.1,.bool m.2]
theorem z881 {l:List (Int × Bool)} {j:Nat} {m:Int × Bool} (h:l[j]?=some m):(wkRows l)[j]?=some [.i m.1,.bool m.2]:=by simp [wkRows,h]
theorem z1172 (n:Net) (x:Missed) (leave:Int) (hm:0≤leave∧leave≤2 ^ 40) (hn:x.now≤2 ^ 40) (hl:x.clues.length<2 ^ 62) :
  IterB Tryd.prog 103 (fun b=>[.ptr [.i leave] 0,.ptr [.raw b 0] 0]) ((trkB n x).map some) (wkRows (walksL x leave)):=by
 refine z424 40 Tryd.call103 Tryd.func103 rfl rfl fun l J B pb hS hG hP=>?_
 have hw0:IntKind.i64.wrap (leave + 1)=leave + 1 + ((0:Nat):Int):=by rw [z12 (by omega)];omega
 simp only [go_sem,St.start,Tryd.ntmps103]
 repeat (first | refine nx ?_ | (refine z3 fun K hK=>?_;simp only [go_sem,hw0];apply hK;clear hK K))
 obtain ⟨L,hL⟩:∃ L,L=walksL x leave:=⟨_,rfl⟩
 rw [← hL]
 have hL0:L=walksF x.clues (x.now - leave).toNat (leave + 1):=by rw [hL,walksL]
 refine z57 (fun (j:Nat)=>[(4,.d (.i (leave + 1 + j)))]) (fun _=>[]) (fun k j=>k=some j∧j≤L.length∧L.drop j=walksF x.clues ((x.now - leave).toNat - j) (leave + 1 + j)) (fun j=>(x.now - leave).toNat + 1 - j) 0 ?_ ⟨rfl,Nat.zero_le _,by simpa using hL0⟩ ?_
 ·simp only [go_sem]
  refine weA ?_ ?_ <;> simp
 ·rintro k j ⟨rfl,hj,hd⟩
  have hc9:(huntC n x)[9]?=some (.i x.now):=rfl
  have h77:=zf104 n x (leave + 1 + j) hl
  have tr:trkB n x=[.ptr (huntC n x) 0]:=rfl
  simp only [go_sem]
  repeat refine nx ?_
  refine z135 hS hG hP fun K hK=>?_
  simp only [go_sem,tr,List.map_cons,List.map_nil,hc9]
  refine hK _ _ ?_
  clear hK K
  refine z5 rfl (fun hb=>?_) (fun hb=>?_)
  ·have hb1:leave + 1 + (j:Int)≤x.now:=by simpa using hb
   have hf1:(x.now - leave).toNat - j=((x.now - leave).toNat - (j + 1)) + 1:=by omega
   have hw:IntKind.i64.wrap (leave + 1 + (j:Int) + 1)=leave + 1 + ((j + 1:Nat):Int):=by rw [z12 (by omega)];omega
   rw [hf1,walksF] at hd
   obtain ⟨hg,hd2,hlt⟩:=z324 hd
   repeat refine nx ?_
   refine z135 hS hG hP fun K hK=>?_
   simp only [go_sem,tr,List.map_cons,List.map_nil]
   refine ⟨_,.lent (hf:=h77) (hd:=rfl) (hr:=rfl),?_⟩
   simp only [go_sem]
   refine hK _ _ ?_
   clear hK K
   repeat refine nx ?_
   refine z135 hS hG hP fun K hK=>?_
   simp only [go_sem,tr,List.map_cons,List.map_nil]
   refine ⟨rfl,j,[.i (leave + 1 + j),.bool (onB8 x.clues (leave + 1 + j))],rfl,rfl,by rw [← hL];exact z881 hg,?_,?_⟩
   ·by_cases ho:onB8 x.clues (leave + 1 + j)=true
    ·rw [if_pos ho] at hd2
     simp only [go_sem,ho]
     refine hK _ _ ?_
     clear hK K
     refine z6 rfl ?_
     repeat (first | refine nx ?_ | (refine z3 fun K hK=>?_;simp only [go_sem,hw];apply hK;clear hK K))
     refine ⟨j + 1,?_,⟨rfl,hlt,by rw [hd2];congr 1;omega⟩,by omega⟩
     refine weA ?_ ?_ <;> simp
    ·rw [if_neg ho] at hd2
     have ho:onB8 x.clues (leave + 1 + j)=false:=by simpa using ho
     have he:=z131 hd2 hlt
     simp only [go_sem,ho]
     refine hK _ _ ?_
     clear hK K
     refine z9 rfl ?_
     repeat (first | refine nx ?_ | (refine z3 fun K hK=>?_;simp only [go_sem];apply hK;clear hK K))
     exact ⟨trivial,.inl (by rw [he,wkRows,List.length_map])⟩
   ·simp only [go_sem]
    refine hK _ _ ?_
    clear hK K
    refine z9 rfl ?_
    repeat (first | refine nx ?_ | (refine z3 fun K hK=>?_;simp only [go_sem];apply hK;clear hK K))
    exact ⟨trivial,.inr rfl⟩
  ·have he:j=L.length:=by
    have hb1:¬ leave + 1 + (j:Int)≤x.now:=by simpa using hb
    refine z131 ?_ hj
    rw [hd,show (x.now - leave).toNat - j=0 by omega]
    rfl
   repeat (first | refine nx ?_ | (refine z3 fun K hK=>?_;simp only [go_sem];apply hK;clear hK K))
   exact ⟨trivial,.inl (by rw [he,wkRows,List.length_map])⟩
end Go.Ab
namespace Go.Ab
open Go.RowKit Go.Proofs
set_option maxHeartbeats 4000000
set_option maxRecDepth 20000
attribute [local irreducible] WalkL Walk
structure Arv where
 pl:Int
 mi:Int
 fp:Int
 fm:Int
 pa:Int
 lv:Int
def Arv.spot (a:Arv):List DV:=[.i a.pl,.i a.mi]
def Arv.leg (a:Arv):List DV:=[.i a.fp,.i a.fm,.i a.pa,.i a.lv]
def keyS (p m:Int):MK:=.s [(.i64,p),(.i64,m)]
def entsA:List Arv→Nat→List (MK × DV × Nat)
 | [],_=>[]
 | a::l,j=>(keyS a.pl a.mi,.agg a.leg,j)::entsA l (j + 1)
def arvRows (A:List Arv):List (List DV):=A.map Arv.spot
def legsB (A:List Arv):Blk:=.mp (some [.i64,.i64]) (entsA A 0) A.length
def trkM (h:DV) (A:List Arv):List Blk:=[.box [.d h,.mp 1,.own 2],legsB A,.arr 114 2 (arvRows A)]
def sameS (a b:Arv):Bool:=b.pl == a.pl && b.mi == a.mi
def arriveA (cl:List Clue) (A:List Arv) (a:Arv):List Arv:=if A.any (sameS a) || !atB cl a.pl a.mi then A else A++[a]
theorem z438 (a:Arv):∀ (l:List Arv) (j:Nat),entsA (l++[a]) j=entsA l j++[(keyS a.pl a.mi,.agg a.leg,j + l.length)]
 | [],j=>by simp [entsA]
 | x::l,j=>by simp [entsA,z438 a l];omega
theorem z181 {a b c d:Int}:keyS a b=keyS c d↔a=c∧b=d:=by simp [keyS]
theorem z439 (a:Arv):∀ (l:List Arv) (j i:Nat),l.any (sameS a)=false→findE (entsA l j) (keyS a.pl a.mi) i=none
 | [],_,_,_=>rfl
 | b::l,j,i,h=>by
  simp only [List.any_cons,Bool.or_eq_false_iff] at h
  rw [entsA,findE,if_neg (by rw [z181];intro hc;simp [sameS,hc.1,hc.2] at h)]
  exact z439 a l _ _ h.2
theorem z437 (a:Arv):∀ (l:List Arv) (j i:Nat),l.any (sameS a)=true→∃ q b s,b ∈ l∧sameS a b=true∧findE (entsA l j) (keyS a.pl a.mi) i=some (q,.agg b.leg,s)
 | [],_,_,h=>by simp at h
 | b::l,j,i,h=>by
  by_cases hb:sameS a b=true
  ·refine ⟨i,b,j,by simp,hb,?_⟩
   rw [entsA,findE,if_pos (by rw [z181];simp [sameS] at hb;exact ⟨hb.1.symm,hb.2.symm⟩)]
  ·have hb:sameS a b=false:=by simpa using hb
   simp only [List.any_cons,hb,Bool.false_or] at h
   obtain ⟨q,c,s,h1,h2,h3⟩:=z437 a l (j + 1) (i + 1) h
   refine ⟨q,c,s,by simp [h1],h2,?_⟩
   rw [entsA,findE,if_neg (by rw [z181];intro hc;simp [sameS,hc.1,hc.2] at hb)]
   exact h3
theorem zf84 (T:List DV) (place m0 most:Int):Fn Tryd.prog 84 [.ptr T 0,.agg [.i place,.i m0],.i most] (.fn 102 [.ptr [.i place,.i m0] 0,.ptr [.i most] 0,.ptr [.ptr T 0] 0]):=by
 refine z10 8 Tryd.call84 Tryd.func84 rfl (by decide) fun J=>?_
 simp only [go_sem,St.start,Tryd.ntmps84,Tryd.results84]
 repeat (first | refine nx ?_ | (refine z3 fun K hK=>?_;simp only [go_sem];apply hK;clear hK K))
 simp only [go_sem]
theorem zf84m (h:DV) (A:List Arv) (place m0 most:Int):FnG Tryd.prog 84 (trkM h A) [0] [.box 0 0,.d (.agg [.i place,.i m0]),.d (.i most)] (.fn 102 [.box 3 0,.box 4 0,.box 5 0]) (trkM h A++[.box [.d (.i place),.d (.i m0)],.box [.d (.i most)],.box [.box 0 0]]):=by
 simp only [trkM,legsB]
 refine z45 8 Tryd.call84 Tryd.func84 rfl (by decide) [4,5,3] [(0,0)] (by simp only [List.length_cons,List.length_nil];decide) (by kernel_rfl) fun J=>?_
 simp only [go_sem,St.startG,Tryd.ntmps84,Tryd.results84,List.map_cons,List.map_nil,List.range_succ,  ]
 repeat (first | refine nx ?_ | (refine z3 fun K hK=>?_;simp only [go_sem];apply hK;clear hK K))
 simp only [go_sem,List.cons_append,List.nil_append]
theorem zf85m (h:DV) (A:List Arv) (leave:Int):FnG Tryd.prog 85 (trkM h A) [0] [.box 0 0,.d (.i leave)] (.fn 103 [.box 3 0,.box 4 0]) (trkM h A++[.box [.d (.i leave)],.box [.box 0 0]]):=by
 simp only [trkM,legsB]
 refine z45 6 Tryd.call85 Tryd.func85 rfl (by decide) [3,2] [(0,0)] (by simp only [List.length_cons,List.length_nil];decide) (by kernel_rfl) fun J=>?_
 simp only [go_sem,St.startG,Tryd.ntmps85,Tryd.results85,List.map_cons,List.map_nil,List.range_succ,  ]
 repeat (first | refine nx ?_ | (refine z3 fun K hK=>?_;simp only [go_sem];apply hK;clear hK K))
 simp only [go_sem,List.cons_append,List.nil_append]
theorem zf83 (n:Net) (x:Missed) (A:List Arv) (a:Arv) (hp:0≤a.pl) (hl:x.clues.length<2 ^ 62) (hA:A.length<2 ^ 30) :
  FnG Tryd.prog 83 (trkM (.ptr (huntC n x) 0) A) [0] [.box 0 0,.d (.agg a.spot),.d (.agg a.leg)] (.tup []) (trkM (.ptr (huntC n x) 0) (arriveA x.clues A a)):=by
 have h74:=z1145 n x a.pl a.mi hp hl
 simp only [trkM,legsB,Arv.spot,Arv.leg]
 by_cases hk:A.any (sameS a)=true
 ·obtain ⟨q,b,s,_,_,hf⟩:=z437 a A 0 0 hk
  rw [keyS] at hf
  have e:arriveA x.clues A a=A:=by rw [arriveA,hk];rfl
  rw [e]
  refine z45 46 Tryd.call83 Tryd.func83 rfl (by decide) [] [(0,0)] (by simp only [List.length_cons,List.length_nil];decide) (by kernel_rfl) fun J=>?_
  simp only [go_sem,St.startG,Tryd.ntmps83,Tryd.results83,List.map_cons,List.map_nil,List.range_succ,  ]
  repeat (first | refine nx ?_ | (refine z3 fun K hK=>?_;simp only [go_sem,hf,Arv.leg];apply hK;clear hK K) | (refine z8 (by kernel_rfl) (by kernel_rfl) fun K hK=>?_;simp only [go_sem,hf,Arv.leg];refine ⟨by kernel_rfl,hK _ ?_⟩;clear hK K))
  refine z6 rfl ?_
  repeat (first | refine nx ?_ | (refine z3 fun K hK=>?_;simp only [go_sem];apply hK;clear hK K))
  simp only [go_sem]
 ·have hk:A.any (sameS a)=false:=by simpa using hk
  have hf:=z439 a A 0 0 hk
  rw [keyS] at hf
  by_cases ha:atB x.clues a.pl a.mi=true
  ·have e:arriveA x.clues A a=A++[a]:=by rw [arriveA,hk,ha];rfl
   rw [e]
   refine z45 46 Tryd.call83 Tryd.func83 rfl (by decide) [] [(0,0)] (by simp only [List.length_cons,List.length_nil];decide) (by kernel_rfl) fun J=>?_
   simp only [go_sem,St.startG,Tryd.ntmps83,Tryd.results83,List.map_cons,List.map_nil,List.range_succ,  ]
   repeat (first | refine nx ?_ | (refine z3 fun K hK=>?_;simp only [go_sem,hf,ha];(repeat (first | (refine ⟨_,.lent (hf:=h74) (hd:=rfl) (hr:=rfl),?_⟩;simp only [go_sem,hf,ha]) | (refine ⟨_,.given (hf:=h74) (hd:=rfl) (ha:=rfl),?_⟩;simp only [go_sem,hf,ha])));apply hK;clear hK K) | (refine z8 (by kernel_rfl) (by kernel_rfl) fun K hK=>?_;simp only [go_sem,hf,ha];(repeat (first | (refine ⟨_,.fn (hf:=h74) (hd:=rfl) (hr:=.inl rfl),?_⟩;simp only [go_sem,hf,ha])));refine ⟨by kernel_rfl,hK _ ?_⟩;clear hK K))
   refine z9 rfl ?_
   refine z29 ?_
   refine z158 6 (by kernel_rfl) (by kernel_rfl) (by kernel_rfl) (by decide) fun K hK=>?_
   simp only [go_sem,hf]
   refine ⟨by kernel_rfl,?_⟩
   refine hK _ _ ?_
   clear hK K
   have hrl:(arvRows A).length≤549755813887:=by rw [arvRows,List.length_map];omega
   have hpush:=z438 a A 0
   refine z535 (by kernel_rfl) (by kernel_rfl) fun K hK=>?_
   simp only [go_sem,hrl]
   refine ⟨by kernel_rfl,hK _ ?_⟩
   clear hK K
   repeat (first | refine nx ?_ | (refine z3 fun K hK=>?_;simp only [go_sem];apply hK;clear hK K))
   simp only [go_sem,hpush,arvRows,List.map_append,List.map_cons,List.map_nil,Arv.spot,Arv.leg,keyS,List.length_append,List.length_cons,List.length_nil,Nat.zero_add]
  ·have ha:atB x.clues a.pl a.mi=false:=by simpa using ha
   have e:arriveA x.clues A a=A:=by rw [arriveA,hk,ha];rfl
   rw [e]
   refine z45 46 Tryd.call83 Tryd.func83 rfl (by decide) [] [(0,0)] (by simp only [List.length_cons,List.length_nil];decide) (by kernel_rfl) fun J=>?_
   simp only [go_sem,St.startG,Tryd.ntmps83,Tryd.results83,List.map_cons,List.map_nil,List.range_succ,  ]
   repeat (first | refine nx ?_ | (refine z3 fun K hK=>?_;simp only [go_sem,hf,ha];(repeat (first | (refine ⟨_,.lent (hf:=h74) (hd:=rfl) (hr:=rfl),?_⟩;simp only [go_sem,hf,ha]) | (refine ⟨_,.given (hf:=h74) (hd:=rfl) (ha:=rfl),?_⟩;simp only [go_sem,hf,ha])));apply hK;clear hK K) | (refine z8 (by kernel_rfl) (by kernel_rfl) fun K hK=>?_;simp only [go_sem,hf,ha];(repeat (first | (refine ⟨_,.fn (hf:=h74) (hd:=rfl) (hr:=.inl rfl),?_⟩;simp only [go_sem,hf,ha])));refine ⟨by kernel_rfl,hK _ ?_⟩;clear hK K))
   refine z6 rfl ?_
   repeat (first | refine nx ?_ | (refine z3 fun K hK=>?_;simp only [go_sem];apply hK;clear hK K))
   simp only [go_sem]
end Go.Ab
namespace Go.Ab
open Go.RowKit Go.Proofs
set_option maxHeartbeats 4000000
set_option maxRecDepth 20000
attribute [local irreducible] WalkL Walk
structure Cnt where
 pl:Int
 mi:Int
 c:Int
def entsL:List Cnt→Nat→List (MK × DV × Nat)
 | [],_=>[]
 | a::l,j=>(keyS a.pl a.mi,.i a.c,j)::entsL l (j + 1)
def leftB (L:List Cnt):Blk:=.mp (some [.i64,.i64]) (entsL L 0) L.length
def cntL:List Cnt→Int→Int→Int
 | [],_,_=>0
 | a::l,p,m=>if a.pl=p∧a.mi=m then a.c else cntL l p m
def bumpL:List Cnt→Int→Int→List Cnt
 | [],p,m=>[⟨p,m,wr (0 + 1)⟩]
 | a::l,p,m=>if a.pl=p∧a.mi=m then ⟨a.pl,a.mi,wr (a.c + 1)⟩::l else a::bumpL l p m
def hasL (l:List Cnt) (p m:Int):Bool:=l.any fun a=>decide (a.pl=p∧a.mi=m)
theorem z244 {p m:Int}:∀ (l:List Cnt) (j i:Nat),hasL l p m=true→∃ q,findE (entsL l j) (keyS p m) i=some (i + q,.i (cntL l p m),j + q) ∧
  setBorn (entsL l j) ((j + q:Nat):Int) (.i (wr (cntL l p m + 1)))=some (entsL (bumpL l p m) j)∧(bumpL l p m).length=l.length
 | [],_,_,h=>by simp [hasL] at h
 | a::l,j,i,h=>by
  by_cases ha:a.pl=p∧a.mi=m
  ·refine ⟨0,?_,?_,?_⟩
   ·rw [entsL,findE,if_pos (by rw [z181];exact ⟨ha.1.symm,ha.2.symm⟩),cntL,if_pos ha];rfl
   ·rw [entsL,setBorn,if_pos (by simp),bumpL,if_pos ha,cntL,if_pos ha];rfl
   ·rw [bumpL,if_pos ha];rfl
  ·have h':hasL l p m=true:=by simpa [hasL,ha] using h
   obtain ⟨q,h1,h2,h3⟩:=z244 l (j + 1) (i + 1) h'
   refine ⟨q + 1,?_,?_,?_⟩
   ·rw [entsL,findE,if_neg (by rw [z181];exact fun hc=>ha ⟨hc.1.symm,hc.2.symm⟩),h1,cntL,if_neg ha,show i + 1 + q=i + (q + 1) by omega,show j + 1 + q=j + (q + 1) by omega]
   ·rw [entsL,setBorn,if_neg (by simp;omega),bumpL,if_neg ha,cntL,if_neg ha]
    rw [show ((j + (q + 1):Nat):Int)=((j + 1 + q:Nat):Int) by omega,h2]
    rfl
   ·rw [bumpL,if_neg ha];simp [h3]
theorem z259 {d:DV} {k:MK} {z:DV}:∀ (l:List Cnt) (j:Nat),setBorn (entsL l j++[(k,z,j + l.length)]) ((j + l.length:Nat):Int) d=some (entsL l j++[(k,d,j + l.length)])
 | [],j=>by simp [entsL,setBorn]
 | a::l,j=>by
  rw [entsL,List.cons_append,setBorn,if_neg (by simp only [List.length_cons];omega),List.length_cons]
  have:=z259 (d:=d) (k:=k) (z:=z) l (j + 1)
  rw [show j + 1 + l.length=j + (l.length + 1) by omega] at this
  rw [this]
  rfl
theorem z434 {p m:Int}:∀ (l:List Cnt) (j i:Nat),hasL l p m=false→findE (entsL l j) (keyS p m) i=none∧cntL l p m=0 ∧
  entsL (bumpL l p m) j=entsL l j++[(keyS p m,.i (wr (0 + 1)),j + l.length)]∧(bumpL l p m).length=l.length + 1
 | [],j,_,_=>by simp [entsL,findE,cntL,bumpL]
 | a::l,j,i,h=>by
  have ha:¬ (a.pl=p∧a.mi=m):=fun hc=>by simp [hasL,hc] at h
  have h':hasL l p m=false:=by
   rw [hasL,List.any_cons,Bool.or_eq_false_iff] at h
   exact h.2
  obtain ⟨h1,h2,h3,h4⟩:=z434 l (j + 1) (i + 1) h'
  refine ⟨?_,?_,?_,?_⟩
  ·rw [entsL,findE,if_neg (by rw [z181];exact fun hc=>ha ⟨hc.1.symm,hc.2.symm⟩),h1]
  ·rw [cntL,if_neg ha,h2]
  ·rw [bumpL,if_neg ha,entsL,h3,entsL,List.length_cons,List.cons_append]
   congr 3
   congr 2
   omega
  ·rw [bumpL,if_neg ha];simp [h4]
theorem z693 {p m:Int}:∀ (l:List Cnt),cntL (bumpL l p m) p m=wr (cntL l p m + 1)
 | []=>by simp [bumpL,cntL]
 | a::l=>by
  by_cases ha:a.pl=p∧a.mi=m
  ·rw [bumpL,if_pos ha,cntL,if_pos ha,cntL,if_pos ha]
  ·rw [bumpL,if_neg ha,cntL,if_neg ha,cntL,if_neg ha,z693 l]
theorem z660 {p m:Int}:∀ (l:List Cnt),hasL (bumpL l p m) p m=true
 | []=>by simp [bumpL,hasL]
 | a::l=>by
  by_cases ha:a.pl=p∧a.mi=m
  ·rw [bumpL,if_pos ha];simp [hasL,ha]
  ·rw [bumpL,if_neg ha]
   have:=z660 (p:=p) (m:=m) l
   simp [hasL] at this ⊢
   exact .inr this
def walkA (cl:List Clue) (lo hi:Int) (mk:Int→Arv):List (Int × Bool)→List Arv→List Arv
 | [],A=>A
 | w::ws,A=>if w.1 > hi then A else walkA cl lo hi mk ws (if w.1 ≥ lo then arriveA cl A (mk w.1) else A)
def pathA (n:Net) (x:Missed) (p m leave:Int) (A:List Arv) (k:Nat):List Arv:=match n.paths[k]? with
 | some y=>if y.frm=p∧y.grade≤x.party.grade then walkA x.clues (wr (leave + (spanW y x.party).lo)) (wr (leave + (spanW y x.party).hi)) (fun t=>⟨y.to,t,p,m,k,leave⟩) (walksL x leave) A else A
 | none=>A
def pathsA (n:Net) (x:Missed) (p m leave:Int) (k:Nat) (A:List Arv):List Arv:=(List.range k).foldl (pathA n x p m leave) A
def leaveA (n:Net) (x:Missed) (p m:Int) (a:List Arv × List Cnt) (leave:Int):List Arv × List Cnt :=
 if cntL (bumpL a.2 p leave) p leave > 1 then (a.1,bumpL a.2 p leave) else (pathsA n x p m leave n.paths.length a.1,bumpL a.2 p leave)
def spotA (n:Net) (x:Missed) (s:Arv) (a:List Arv × List Cnt):List Arv × List Cnt:=(staysL x s.pl s.mi (wr (s.mi + x.rest))).foldl (leaveA n x s.pl s.mi) a
def followF (n:Net) (x:Missed):Nat→Nat→List Arv × List Cnt→List Arv × List Cnt
 | 0,_,a=>a
 | f + 1,i,a=>match a.1[i]? with
  | some s=>followF n x f (i + 1) (spotA n x s a)
  | none=>a
def startA (x:Missed):List Arv:=arriveA x.clues [] ⟨x.place,x.start,0,0,-1,0⟩
end Go.Ab
namespace Go.Ab
open Go.RowKit Go.Proofs
set_option maxHeartbeats 16000000
set_option maxRecDepth 20000
attribute [local irreducible] WalkL Walk
structure Hunted (n:Net) (x:Missed):Prop where
 net:n.Good
 party:x.party.Good
 place:0≤x.place∧x.place<n.places
 start:0≤x.start∧x.start≤x.now
 now:x.now≤2880
 rest:0≤x.rest∧x.rest≤600
 clues:x.clues.length<2 ^ 30
def goodA (n:Net) (x:Missed) (A:List Arv):Prop:=(∀ a ∈ A,(0≤a.pl∧a.pl<n.places)∧x.start≤a.mi∧a.mi≤x.now)∧(A.map fun a=>(a.pl,a.mi)).Nodup
def boundN (n:Net) (x:Missed):Nat:=n.places.toNat * (x.now - x.start + 1).toNat
theorem z317 {n:Net} {x:Missed} {A:List Arv} (h:goodA n x A):A.length≤boundN n x:=by
 have h1:(A.map fun a=>(a.pl,a.mi)).length≤((List.range n.places.toNat).flatMap fun (i:Nat)=>(List.range (x.now - x.start + 1).toNat).map fun (j:Nat)=>((i:Int),x.start + (j:Int))).length:=by
  refine List.Nodup.length_le_of_subset h.2 fun q hq=>?_
  obtain ⟨a,ha,rfl⟩:=List.mem_map.1 hq
  obtain ⟨⟨h1,h2⟩,h3,h4⟩:=h.1 a ha
  refine List.mem_flatMap.2 ⟨a.pl.toNat,List.mem_range.2 (by omega),List.mem_map.2 ⟨(a.mi - x.start).toNat,List.mem_range.2 (by omega),?_⟩⟩
  simp;omega
 simp only [List.length_map,List.length_flatMap,List.length_range] at h1
 have:(List.map (fun _=>(x.now - x.start + 1).toNat) (List.range n.places.toNat)).sum=n.places.toNat * (x.now - x.start + 1).toNat:=by
  rw [List.map_const',List.sum_replicate_nat,List.length_range]
 rw [boundN];omega
theorem z698 {n:Net} {x:Missed} (h:Hunted n x):boundN n x≤40000:=by
 have h1:=h.net.places
 have h2:=h.start
 have h3:=h.now
 rw [boundN]
 have a1:n.places.toNat≤12:=by omega
 have a2:(x.now - x.start + 1).toNat≤2881:=by omega
 have:=Nat.mul_le_mul a1 a2
 omega
theorem z116 {n:Net} {x:Missed} {A:List Arv} {a:Arv} (h:goodA n x A) (ha:(0≤a.pl∧a.pl<n.places)∧x.start≤a.mi∧a.mi≤x.now):goodA n x (arriveA x.clues A a):=by
 rw [arriveA]
 split
 ·exact h
 ·rename_i hc
  have hc:A.any (sameS a)=false:=by
   rw [Bool.or_eq_true] at hc
   simpa using fun hh=>hc (.inl hh)
  refine ⟨fun b hb=>?_,?_⟩
  ·rcases List.mem_append.1 hb with hb | hb
   ·exact h.1 b hb
   ·simp at hb;subst hb;exact ha
  ·rw [List.map_append,List.nodup_append]
   refine ⟨h.2,by simp,fun u hu v hv e=>?_⟩
   simp at hv
   subst hv;subst e
   obtain ⟨b,hb,he⟩:=List.mem_map.1 hu
   have:=List.any_eq_false.1 hc b hb
   simp [sameS] at this
   simp at he
   exact this he.1 he.2
theorem z249 {cl:List Clue}:∀ {f:Nat} {m:Int} {w:Int × Bool},w ∈ walksF cl f m→m≤w.1∧w.1<m + f
 | 0,m,w,h=>by simp [walksF] at h
 | f + 1,m,w,h=>by
  rw [walksF] at h
  rcases List.mem_cons.1 h with rfl | h
  ·exact ⟨Int.le_refl _,by simp;omega⟩
  ·split at h
   ·have:=z249 h;omega
   ·simp at h
theorem z248 {x:Missed} {leave:Int} {w:Int × Bool} (h:w ∈ walksL x leave):leave + 1≤w.1∧w.1≤x.now:=by
 have:=z249 h
 omega
theorem z257 {cl:List Clue} {p top:Int}:∀ {f:Nat} {m w:Int},w ∈ staysF cl p top f m→m≤w∧w≤top
 | 0,m,w,h=>by simp [staysF] at h
 | f + 1,m,w,h=>by
  rw [staysF] at h
  split at h
  ·rename_i hc
   rcases List.mem_cons.1 h with rfl | h
   ·exact ⟨Int.le_refl _,hc.1⟩
   ·have:=z257 h;omega
  ·simp at h
theorem z256 {x:Missed} {p m most w:Int} (h:w ∈ staysL x p m most):m≤w∧w≤most∧w≤x.now:=by
 have:=z257 h
 omega
end Go.Ab
namespace Go.Ab
open Go.RowKit Go.Proofs
set_option maxHeartbeats 16000000
set_option maxRecDepth 20000
attribute [local irreducible] WalkL Walk
def trkL (h:DV) (A:List Arv):List Blk:=[.box [.d h,.mp 1,.own 2],.mp (some [.i64,.i64]) (entsA A 0) A.length,.arr 114 2 (arvRows A)]
theorem z329 (A:List Arv):(arvRows A).length=A.length:=by simp [arvRows]
theorem z330 {A:List Arv} {i:Nat} {s:Arv} (h:A[i]?=some s):(arvRows A)[i]?=some [.i s.pl,.i s.mi]:=by simp [arvRows,h,Arv.spot]
theorem z1165 (es:List (MK × DV × Nat)):mkE (es.map fun e=>(e.1,e.2.2)) (es.map fun e=>e.2.1)=es:=by
 induction es with
 | nil=>rfl
 | cons e es ih=>simp only [mkE,List.map_cons,List.zipWith_cons_cons] at ih ⊢;rw [ih]
theorem z405 (n:Net) (p:Party) {k:Nat} {y:Path} (hy:n.paths[k]?=some y):∃ ks vs c,timesD n p=.mp none ks vs c ∧
  ((y.grade≤p.grade∧∃ q b,findE (mkE ks vs) (.i k) 0=some (q,.agg (spanW y p).row,b))∨(¬ y.grade≤p.grade∧findE (mkE ks vs) (.i k) 0=none)):=by
 refine ⟨_,_,_,rfl,?_⟩
 rw [z1165]
 have hlt:=(List.getElem?_eq_some_iff.1 hy).1
 by_cases hg:y.grade≤p.grade
 ·obtain ⟨q,b,h⟩:=z435 p (w:=(k,y)) (canL n p) 0 0 (z327 hy hg hlt) (fun v hv e=>by
   obtain ⟨_,h2,_⟩:=z86 hv
   have e:v.1=k:=e
   rw [e,hy] at h2
   cases v
   simp at e h2
   rw [e,h2])
  exact .inl ⟨hg,q,b,h⟩
 ·refine .inr ⟨hg,z245 p _ 0 0 fun w hw e=>hg ?_⟩
  obtain ⟨_,h2,h3⟩:=z86 hw
  have:w.1=k:=by omega
  rw [this,hy] at h2
  cases h2
  exact h3
theorem z321 {k:MK} {d:DV} {b:Nat}:∀ (es:List (MK × DV × Nat)) (i:Nat),findE es k i=none→findE (es++[(k,d,b)]) k i=some (i + es.length,d,b)
 | [],i,_=>by simp [findE]
 | e::es,i,h=>by
  rw [findE] at h
  split at h
  ·cases h
  ·rename_i hk
   rw [List.cons_append,findE,if_neg hk,z321 es (i + 1) h]
   congr 2
   simp;omega
theorem z851 (cl:List Clue) (A:List Arv) (a:Arv):A.length≤(arriveA cl A a).length:=by
 rw [arriveA];split <;> simp
theorem z536 (cl:List Clue) (lo hi:Int) (mk:Int→Arv):∀ (ws:List (Int × Bool)) (A:List Arv),A.length≤(walkA cl lo hi mk ws A).length
 | [],A=>Nat.le_refl _
 | w::ws,A=>by
  rw [walkA];split
  ·exact Nat.le_refl _
  ·refine Nat.le_trans ?_ (z536 cl lo hi mk ws _)
   split
   ·exact z851 _ _ _
   ·exact Nat.le_refl _
theorem z1015 (n:Net) (x:Missed) (p m leave:Int) (A:List Arv) (k:Nat):A.length≤(pathA n x p m leave A k).length:=by
 rw [pathA];split
 ·split
  ·exact z536 _ _ _ _ _ _
  ·exact Nat.le_refl _
 ·exact Nat.le_refl _
theorem z677 {α β:Type} (f:List α→β→List α) (h:∀ a b,a.length≤(f a b).length):∀ (l:List β) (a:List α),a.length≤(l.foldl f a).length
 | [],a=>Nat.le_refl _
 | b::l,a=>Nat.le_trans (h a b) (z677 f h l _)
theorem z951 (n:Net) (x:Missed) (p m:Int) (a:List Arv × List Cnt) (lv:Int):a.1.length≤(leaveA n x p m a lv).1.length:=by
 rw [leaveA];split
 ·exact Nat.le_refl _
 ·exact z677 _ (fun A k=>z1015 n x p m lv A k) _ _
theorem z431 (n:Net) (x:Missed) (p m:Int):∀ (l:List Int) (a:List Arv × List Cnt),a.1.length≤(l.foldl (leaveA n x p m) a).1.length
 | [],a=>Nat.le_refl _
 | b::l,a=>Nat.le_trans (z951 n x p m a b) (z431 n x p m l _)
theorem z1000 (n:Net) (x:Missed) (s:Arv) (a:List Arv × List Cnt):a.1.length≤(spotA n x s a).1.length:=z431 _ _ _ _ _ _
theorem zf49 (n:Net) (x:Missed) (hx:Hunted n x):FnG Tryd.prog 49 [] [] [.d (.ptr (huntC n x) 0)] (.box 0 0) (trkM (.ptr (huntC n x) 0) (followF n x (boundN n x + 1) 0 (startA x,[])).1):=by
 have c7:(huntC n x)[7]?=some (.i x.place):=rfl
 have c8:(huntC n x)[8]?=some (.i x.start):=rfl
 have c10:(huntC n x)[10]?=some (.i x.rest):=rfl
 have c1:(huntC n x)[1]?=some (.sl (n.paths.map Path.row)):=rfl
 have h63:FnG Tryd.prog 83 [.box [.d (.ptr (huntC n x) 0),.mp 1,.own 2],.mp (some [.i64,.i64]) [] 0,.arr 114 2 []] [0] [.box 0 0,.d (.agg [.i x.place,.i x.start]),.d (.agg [.i 0,.i 0,.i (-1),.i 0])] (.tup [])
   [.box [.d (.ptr (huntC n x) 0),.mp 1,.own 2],.mp (some [.i64,.i64]) (entsA (startA x) 0) (startA x).length,.arr 114 2 (arvRows (startA x))] :=
  zf83 n x [] ⟨x.place,x.start,0,0,-1,0⟩ hx.place.1 (by have:=hx.clues;omega) (by simp)
 have hN:=z698 hx
 have hst:=hx.start
 have hno:=hx.now
 have hre:=hx.rest
 have hcl:=hx.clues
 have hpl:=hx.net.paths
 refine z45 160 Tryd.call49 Tryd.func49 rfl (by decide) [16,14,150] [] (by simp only [List.length_cons,List.length_nil];decide) (by kernel_rfl) fun J=>?_
 simp only [go_sem,St.startG,Tryd.ntmps49,Tryd.results49,List.map_cons,List.map_nil,List.range_succ,  ]
 repeat (first | refine nx ?_ | (refine z3 fun K hK=>?_;simp only [go_sem];apply hK;clear hK K))
 refine z404 [] [] [(16,some (.box [.d (.ptr (huntC n x) 0),.mp 14,.own 150])),(150,some (.arr 114 2 []))] ?_ ?_
 ·simp only [go_sem]
  refine z66 [150] ?_ ?_ rfl rfl <;> simp [lessT,lessM,lessB,AV.less]
 simp only [go_sem]
 refine z158 13 (by kernel_rfl) (by kernel_rfl) (by kernel_rfl) (by decide) fun K hK=>?_
 simp only [go_sem,c7,c8]
 refine ⟨by kernel_rfl,?_⟩
 refine ⟨_,.own (ns:=[16,14,150]) (news:=[]) (bads:=[14,150]) (rd:=[]) (hf:=h63) (hnd:=by decide) (hl0:=rfl) (hl1:=rfl) (hm:=by repeat (first | exact trivial | refine And.intro ?_ ?_ | rfl)) (hnew:=rfl) (hla:=rfl) (ha:=z73 (by repeat (first | exact trivial | refine And.intro ?_ ?_ | exact z87 rfl | exact z55 rfl rfl))) (hrd:=rfl) (hsh:=z202 _) (hb:=rfl) (hfl:=.inl rfl),?_⟩
 simp only [go_sem,List.map_cons,List.map_nil]
 refine hK _ _ ?_
 clear hK K
 repeat (first | refine nx ?_ | (refine z3 fun K hK=>?_;simp only [go_sem];apply hK;clear hK K))
 obtain ⟨R,hR⟩:∃ R,R=followF n x (boundN n x + 1) 0 (startA x,[]):=⟨_,rfl⟩
 rw [← hR]
 refine z15 (fun (a:Nat × List Arv × List Cnt)=>[(5,.d (.i a.1))]) (fun a=>[(14,some (.mp (some [.i64,.i64]) (entsA a.2.1 0) a.2.1.length)),(150,some (.arr 114 2 (arvRows a.2.1))),(31,some (.mp (some [.i64,.i64]) (entsL a.2.2 0) a.2.2.length))])
  (fun a=>a.1≤a.2.1.length∧goodA n x a.2.1∧R=followF n x (boundN n x + 1 - a.1) a.1 a.2) (fun a=>boundN n x + 1 - a.1) (0,startA x,[]) ?_ ⟨Nat.zero_le _,?_,hR⟩ ?_
 ·simp only [go_sem,entsL,List.length_nil]
  refine weA ?_ ?_ <;> simp
 ·exact z116 ⟨fun a ha=>(by simp at ha),by simp⟩ ⟨hx.place,Int.le_refl _,hst.2⟩
 ·rintro ⟨i,A,L⟩ ⟨hi,hgA,hRi⟩
  dsimp only at hi hgA hRi
  have hAl:=z317 hgA
  have hrl:=z329 A
  simp only [go_sem]
  repeat (first | refine nx ?_ | (refine z3 fun K hK=>?_;simp only [go_sem,hrl];apply hK;clear hK K))
  refine z5 rfl (fun hb=>?_) (fun hb=>?_)
  ·have hlt:i<A.length:=by simpa using hb
   have hw:IntKind.i64.wrap ((i:Int) + 1)=((i + 1:Nat):Int):=by rw [z12 (by omega)];simp
   obtain ⟨s,hs⟩:∃ s,A[i]?=some s:=⟨_,List.getElem?_eq_getElem hlt⟩
   have hrow:=z330 hs
   have hil:i<(arvRows A).length:=by omega
   have hgs:=hgA.1 s (List.mem_of_getElem? hs)
   have h64:FnG Tryd.prog 84 [.box [.d (.ptr (huntC n x) 0),.mp 1,.own 2],.mp (some [.i64,.i64]) (entsA A 0) A.length,.arr 114 2 (arvRows A)] [0] [.box 0 0,.d (.agg [.i s.pl,.i s.mi]),.d (.i (wr (s.mi + x.rest)))] (.fn 102 [.box 3 0,.box 4 0,.box 5 0])
    [.box [.d (.ptr (huntC n x) 0),.mp 1,.own 2],.mp (some [.i64,.i64]) (entsA A 0) A.length,.arr 114 2 (arvRows A),.box [.d (.i s.pl),.d (.i s.mi)],.box [.d (.i (wr (s.mi + x.rest)))],.box [.box 0 0]]:=zf84m _ A s.pl s.mi _
   repeat (first | refine nx ?_ | (refine z3 fun K hK=>?_;simp only [go_sem,hrow,hil];apply hK;clear hK K))
   refine z158 10 (by kernel_rfl) (by kernel_rfl) (by kernel_rfl) (by decide) fun K hK=>?_
   simp only [go_sem,c10]
   refine ⟨by kernel_rfl,?_⟩
   refine ⟨_,.own (ns:=[16,14,150]) (news:=[151,152,153]) (bads:=[14,150]) (rd:=[]) (hf:=h64) (hnd:=by decide) (hl0:=rfl) (hl1:=rfl) (hm:=by repeat (first | exact trivial | refine And.intro ?_ ?_ | rfl)) (hnew:=rfl) (hla:=rfl) (ha:=z73 (by repeat (first | exact trivial | refine And.intro ?_ ?_ | exact z87 rfl | exact z55 rfl rfl))) (hrd:=rfl) (hsh:=z202 _) (hb:=rfl) (hfl:=.inl rfl),?_⟩
   simp only [go_sem,List.map_cons,List.map_nil]
   refine hK _ _ ?_
   clear hK K
   refine z33 ?_
   have hsp:0≤s.pl:=hgs.1.1
   obtain ⟨Ls,hLs⟩:∃ Ls,Ls=staysL x s.pl s.mi (wr (s.mi + x.rest)):=⟨_,rfl⟩
   have hit:=z1173 n x s.pl s.mi (wr (s.mi + x.rest)) hsp (by omega) (by omega) (by omega)
   rw [← hLs] at hit
   refine z201 (fun _ h=>by cases h) 16 16 ((trkB n x).map some) [151,152,153] rfl hit (fun b=>rfl) (by intro row hr;obtain ⟨w,_,rfl⟩:=List.mem_map.1 hr;rfl)
    (fun _=>[(58,.undef)]) (fun (a:List Arv × List Cnt)=>[(151,none),(152,none),(153,none),(14,some (.mp (some [.i64,.i64]) (entsA a.1 0) a.1.length)),(150,some (.arr 114 2 (arvRows a.1))),(31,some (.mp (some [.i64,.i64]) (entsL a.2 0) a.2.length))])
    (fun i a=>a=(Ls.take i).foldl (leaveA n x s.pl s.mi) (A,L)∧goodA n x a.1) (fun _ _=>False) (A,L) ?_ ?_ ⟨by simp,hgA⟩ ?_ ?_ ?_ (fun _ _ h=>h.elim)
   ·exact ⟨rfl,rfl,trivial⟩
   ·simp only [go_sem]
    refine weA ?_ ?_ <;> simp
   ·intro a
    simp only [go_sem]
    exact ⟨rfl,rfl,trivial⟩
   ·rintro j ⟨A1,L1⟩ row hj ⟨hA1,hgA1⟩ l m
    dsimp only at hA1 hgA1
    obtain ⟨lv,hlv,rfl⟩:∃ lv,Ls[j]?=some lv∧row=[.i lv]:=by
     simp only [minRows,List.getElem?_map,Option.map_eq_some_iff] at hj
     obtain ⟨lv,h1,h2⟩:=hj
     exact ⟨lv,h1,h2.symm⟩
    have hlr:=z256 (hLs ▸ List.mem_of_getElem? hlv)
    have hnext:(Ls.take (j + 1)).foldl (leaveA n x s.pl s.mi) (A,L)=leaveA n x s.pl s.mi (A1,L1) lv:=by
     rw [List.take_add_one,hlv,List.foldl_append,← hA1];rfl
    simp only [go_sem]
    repeat (first | refine nx ?_ | (refine z3 fun K hK=>?_;simp only [go_sem];apply hK;clear hK K))
    intro J2 hJ2
    refine z33 ?_
    obtain ⟨c,hc⟩:∃ c,c=wr (cntL L1 s.pl lv + 1):=⟨_,rfl⟩
    obtain ⟨L2,hL2⟩:∃ L2,L2=bumpL L1 s.pl lv:=⟨_,rfl⟩
    have hcb:cntL L2 s.pl lv=c:=by rw [hL2,hc,z693]
    obtain ⟨q2,hq2,_⟩:=z244 (p:=s.pl) (m:=lv) L2 0 0 (by rw [hL2];exact z660 L1)
    rw [keyS,hcb,Nat.zero_add] at hq2
    have hc':IntKind.i64.wrap (cntL L1 s.pl lv + 1)=c:=hc.symm
    have hlv:leaveA n x s.pl s.mi (A1,L1) lv=if c > 1 then (A1,L2) else (pathsA n x s.pl s.mi lv n.paths.length A1,L2):=by
     rw [leaveA];dsimp only;rw [← hL2,hcb]
    repeat refine z29 ?_
    refine z21 [] [(31,some (.mp (some [.i64,.i64]) (entsL L2 0) L2.length))] ?_ ?_
    ·by_cases hin:hasL L1 s.pl lv=true
     ·obtain ⟨q1,hq1,hb1,hl1⟩:=z244 (p:=s.pl) (m:=lv) L1 0 0 hin
      rw [keyS,Nat.zero_add] at hq1
      rw [Nat.zero_add,← hc,← hL2] at hb1
      rw [← hL2] at hl1
      refine z253 (fun b=>[(60,bif b 0 then .undef else .mp 31),(61,bif b 1 then .undef else .box 6 0),(62,bif b 2 then .undef else .d (.i s.pl)),(63,bif b 3 then .undef else .d (.i lv)),(64,bif b 4 then .undef else .agg [.d (.i s.pl),.d (.i lv)]),
       (65,bif b 5 then .undef else .d (.i (cntL L1 s.pl lv))),(66,bif b 6 then .undef else .d (.i c)),(67,bif b 7 then .undef else .tup [.d (.i (cntL L1 s.pl lv)),.d (.i ((q1:Nat):Int))]),(68,bif b 8 then .undef else .d (.i ((q1:Nat):Int)))])
       (fun _=>[]) 9 (by kernel_rfl) (by kernel_rfl) (by kernel_rfl) (by decide) ?_ ?_ (Weak.refl _) ?_
      ·simp only [go_sem]
      ·refine ⟨?_,?_,?_,?_,?_,?_,?_,?_,?_,trivial⟩
       all_goals
        intro b hbm hdm _
        simp only [depsM,Region.binds,true_and,and_true,Nat.zero_add,Nat.reduceAdd,reduceCtorEq,forall_const] at hdm
        refine ⟨rfl,rfl,?_⟩
        cases hb7:b 7
        all_goals
         first | (exfalso;rw [hb7] at hbm;exact Bool.noConfusion hbm) | (exfalso;rw [hb7] at hdm;simp at hdm;done) | simp only [go_sem,hbm,hdm,hb7,hq1,hc']
      ·intro K hK
       simp only [go_sem,hb1]
       refine hK _ _ ?_
       clear hK K
       refine z7 ?_
       refine z4 ?_
       refine ⟨rfl,?_⟩
       simp only [go_sem,hl1]
       refine weA ?_ ?_ <;> simp
     ·have hin:hasL L1 s.pl lv=false:=by simpa using hin
      obtain ⟨hq1,hcz,hb1,hl1⟩:=z434 (p:=s.pl) (m:=lv) L1 0 0 hin
      have hsb:=z259 (d:=.i c) (k:=keyS s.pl lv) (z:=.i 0) L1 0
      have hc0:IntKind.i64.wrap (0 + 1)=c:=by rw [hc,hcz]
      rw [← hL2,show wr (0 + 1)=c from hc0] at hb1
      rw [← hb1] at hsb
      rw [← hL2] at hl1
      rw [keyS] at hq1 hsb
      simp only [Nat.zero_add] at hsb
      have hq1p:=z321 (d:=.i 0) (b:=L1.length) _ 0 hq1
      rw [Nat.zero_add] at hq1p
      refine z253 (fun b=>[(60,bif b 0 then .undef else .mp 31),(61,bif b 1 then .undef else .box 6 0),(62,bif b 2 then .undef else .d (.i s.pl)),(63,bif b 3 then .undef else .d (.i lv)),(64,bif b 4 then .undef else .agg [.d (.i s.pl),.d (.i lv)]),
       (65,bif b 5 then .undef else .d (.i 0)),(66,bif b 6 then .undef else .d (.i c)),(67,bif b 7 then .undef else .tup [.d (.i 0),.d (.i ((L1.length:Nat):Int))]),(68,bif b 8 then .undef else .d (.i ((L1.length:Nat):Int)))])
       (fun b=>[(31,bif b 7 then some (.mp (some [.i64,.i64]) (entsL L1 0) L1.length) else some (.mp (some [.i64,.i64]) (entsL L1 0++[(.s [(.i64,s.pl),(.i64,lv)],.i 0,L1.length)]) (L1.length + 1)))]) 9 (by kernel_rfl) (by kernel_rfl) (by kernel_rfl) (by decide) ?_ ?_ (Weak.refl _) ?_
      ·simp only [go_sem]
      ·refine ⟨?_,?_,?_,?_,?_,?_,?_,?_,?_,trivial⟩
       all_goals
        intro b hbm hdm _
        simp only [depsM,Region.binds,true_and,and_true,Nat.zero_add,Nat.reduceAdd,reduceCtorEq,forall_const] at hdm
        refine ⟨rfl,rfl,?_⟩
        cases hb7:b 7
        all_goals
         first | (exfalso;rw [hb7] at hbm;exact Bool.noConfusion hbm) | (exfalso;rw [hb7] at hdm;simp at hdm;done) | simp only [go_sem,hbm,hdm,hb7,hq1,hq1p,hc0]
      ·intro K hK
       simp only [go_sem,hsb]
       refine hK _ _ ?_
       clear hK K
       refine z7 ?_
       refine z4 ?_
       refine ⟨rfl,?_⟩
       simp only [go_sem,hl1]
       refine weA ?_ ?_ <;> simp
    simp only [go_sem]
    repeat (first | refine nx ?_ | (refine z3 fun K hK=>?_;simp only [go_sem,hq2];apply hK;clear hK K))
    refine z5 rfl (fun hcc=>?_) (fun hcc=>?_)
    ·have hcc':c > 1:=by simpa using hcc
     rw [if_pos hcc'] at hlv
     repeat (first | refine nx ?_ | (refine z3 fun K hK=>?_;simp only [go_sem];apply hK;clear hK K))
     refine ⟨rfl,(A1,L2),?_,by rw [hnext,hlv],hgA1⟩
     simp only [go_sem]
     refine weA ?_ ?_ <;> simp
    ·have hcc':¬ c > 1:=by simpa using hcc
     rw [if_neg hcc'] at hlv
     repeat (first | refine nx ?_ | (refine z3 fun K hK=>?_;simp only [go_sem,c1];apply hK;clear hK K))
     refine z15 (fun (a:Nat × List Arv)=>[(83,.d (.i a.1))]) (fun a=>[(14,some (.mp (some [.i64,.i64]) (entsA a.2 0) a.2.length)),(150,some (.arr 114 2 (arvRows a.2)))])
      (fun a=>a.1≤n.paths.length∧goodA n x a.2∧a.2=pathsA n x s.pl s.mi lv a.1 A1) (fun a=>n.paths.length - a.1) (0,A1) ?_ ⟨Nat.zero_le _,hgA1,rfl⟩ ?_
     ·simp only [go_sem]
      refine weA ?_ ?_ <;> simp
     ·rintro ⟨k,A2⟩ ⟨hk,hgA2,hA2⟩
      dsimp only at hk hgA2 hA2
      simp only [go_sem]
      repeat (first | refine nx ?_ | (refine z3 fun K hK=>?_;simp only [go_sem];apply hK;clear hK K))
      refine z5 rfl (fun hkb=>?_) (fun hkb=>?_)
      ·have hkl:k<n.paths.length:=by simpa using hkb
       have hkw:IntKind.i64.wrap ((k:Int) + 1)=((k + 1:Nat):Int):=by rw [z12 (by omega)];simp
       obtain ⟨y,hy⟩:∃ y,n.paths[k]?=some y:=⟨_,List.getElem?_eq_getElem hkl⟩
       obtain ⟨ks,vs,cc,hT,hlook⟩:=z405 n x.party hy
       have c2:(huntC n x)[2]?=some (.mp none ks vs cc):=by rw [← hT];rfl
       have hyg:=hx.net.path y (List.mem_of_getElem? hy)
       have hpk:pathsA n x s.pl s.mi lv (k + 1) A1=pathA n x s.pl s.mi lv A2 k:=by rw [pathsA,List.range_succ,List.foldl_append,hA2];rfl
       rw [pathA,hy] at hpk
       dsimp only at hpk
       rcases hlook with ⟨hg,q,b,hf⟩ | ⟨hg,hf⟩
       ·repeat (first | refine nx ?_ | (refine z3 fun K hK=>?_;simp only [go_sem,hy,List.getElem?_map,Path.row];apply hK;clear hK K))
        refine z8 (by kernel_rfl) (by kernel_rfl) fun K hK=>?_
        simp only [go_sem,c2,hf,Span.row]
        refine ⟨by kernel_rfl,hK _ ?_⟩
        clear hK K
        by_cases hfr:y.frm=s.pl
        ·have hne:(y.frm != s.pl)=false:=by simp [hfr]
         rw [if_pos ⟨hfr,hg⟩] at hpk
         have h65:FnG Tryd.prog 85 [.box [.d (.ptr (huntC n x) 0),.mp 1,.own 2],.mp (some [.i64,.i64]) (entsA A2 0) A2.length,.arr 114 2 (arvRows A2)] [0] [.box 0 0,.d (.i lv)] (.fn 103 [.box 3 0,.box 4 0])
          [.box [.d (.ptr (huntC n x) 0),.mp 1,.own 2],.mp (some [.i64,.i64]) (entsA A2 0) A2.length,.arr 114 2 (arvRows A2),.box [.d (.i lv)],.box [.box 0 0]]:=zf85m _ A2 lv
         obtain ⟨Ws,hWs⟩:∃ Ws,Ws=walksL x lv:=⟨_,rfl⟩
         have hit2:=z1172 n x lv (by omega) (by omega) (by omega)
         rw [← hWs] at hit2 hpk
         obtain ⟨lo,hlo⟩:∃ lo,lo=wr (lv + (spanW y x.party).lo):=⟨_,rfl⟩
         obtain ⟨hi,hhi⟩:∃ hi,hi=wr (lv + (spanW y x.party).hi):=⟨_,rfl⟩
         rw [← hlo,← hhi] at hpk
         have hlo':IntKind.i64.wrap (lv + (spanW y x.party).lo)=lo:=hlo.symm
         have hhi':IntKind.i64.wrap (lv + (spanW y x.party).hi)=hi:=hhi.symm
         repeat (first | refine nx ?_ | (refine z3 fun K hK=>?_;simp only [go_sem,hne];apply hK;clear hK K))
         refine z6 rfl ?_
         repeat (first | refine z29 ?_ | refine z40 ?_ | refine z7 ?_ | refine z4 ?_)
         refine z3 fun K hK=>?_
         simp only [go_sem]
         refine ⟨_,.own (ns:=[16,14,150]) (news:=[154,155]) (bads:=[14,150]) (rd:=[]) (hf:=h65) (hnd:=by decide) (hl0:=rfl) (hl1:=rfl) (hm:=by repeat (first | exact trivial | refine And.intro ?_ ?_ | rfl)) (hnew:=rfl) (hla:=rfl) (ha:=z73 (by repeat (first | exact trivial | refine And.intro ?_ ?_ | exact z87 rfl | exact z55 rfl rfl))) (hrd:=rfl) (hsh:=z202 _) (hb:=rfl) (hfl:=.inl rfl),?_⟩
         simp only [go_sem,List.map_cons,List.map_nil]
         apply hK
         clear hK K
         repeat (first | refine z29 ?_ | refine z40 ?_ | refine z7 ?_ | refine z4 ?_)
         refine z33 ?_
         have fin:∀ A3,walkA x.clues lo hi (fun t=>⟨y.to,t,s.pl,s.mi,k,lv⟩) Ws A2=A3→pathsA n x s.pl s.mi lv (k + 1) A1=A3:=fun A3 h=>by rw [hpk,h]
         refine z201 (fun _ h=>by cases h;exact hJ2) 16 16 ((trkB n x).map some) [154,155] rfl hit2 (fun b=>rfl) (by intro row hr;obtain ⟨w,_,rfl⟩:=List.mem_map.1 hr;rfl)
          (fun _=>[(109,.undef)]) (fun (a:List Arv)=>[(154,none),(155,none),(14,some (.mp (some [.i64,.i64]) (entsA a 0) a.length)),(150,some (.arr 114 2 (arvRows a)))])
          (fun i a=>walkA x.clues lo hi (fun t=>⟨y.to,t,s.pl,s.mi,k,lv⟩) Ws A2=walkA x.clues lo hi (fun t=>⟨y.to,t,s.pl,s.mi,k,lv⟩) (Ws.drop i) a∧goodA n x a)
          (fun e a=>e=.exit 6∧walkA x.clues lo hi (fun t=>⟨y.to,t,s.pl,s.mi,k,lv⟩) Ws A2=a∧goodA n x a) A2 ?_ ?_ ⟨rfl,hgA2⟩ ?_ ?_ ?_ ?_
         ·exact ⟨rfl,rfl,trivial⟩
         ·simp only [go_sem]
          refine weA ?_ ?_ <;> simp
         ·intro a
          simp only [go_sem]
          exact ⟨rfl,rfl,trivial⟩
         ·rintro i2 A3 row hj2 ⟨hA3,hgA3⟩ l2 m2
          obtain ⟨w,hw2,rfl⟩:∃ w,Ws[i2]?=some w∧row=[.i w.1,.bool w.2]:=by
           simp only [wkRows,List.getElem?_map,Option.map_eq_some_iff] at hj2
           obtain ⟨w,h1,h2⟩:=hj2
           exact ⟨w,h1,h2.symm⟩
          have hwr:=z248 (hWs ▸ List.mem_of_getElem? hw2)
          rw [z84 hw2,walkA] at hA3
          have hA3l:=z317 hgA3
          simp only [go_sem]
          repeat (first | refine nx ?_ | (refine z3 fun K hK=>?_;simp only [go_sem];apply hK;clear hK K))
          intro J3 hJ3
          refine z33 ?_
          repeat (first | refine nx ?_ | (refine z3 fun K hK=>?_;simp only [go_sem,hhi'];apply hK;clear hK K))
          refine z5 rfl (fun hc1=>?_) (fun hc1=>?_)
          ·have hc1':w.1 > hi:=by simpa using hc1
           rw [if_pos hc1'] at hA3
           repeat (first | refine nx ?_ | (refine z3 fun K hK=>?_;simp only [go_sem];apply hK;clear hK K))
           refine ⟨rfl,rfl,A3,?_,rfl,hA3,hgA3⟩
           simp only [go_sem]
           refine weA ?_ ?_ <;> simp
          ·have hc1':¬ w.1 > hi:=by simpa using hc1
           rw [if_neg hc1'] at hA3
           repeat (first | refine nx ?_ | (refine z3 fun K hK=>?_;simp only [go_sem,hlo'];apply hK;clear hK K))
           refine z5 rfl (fun hc2=>?_) (fun hc2=>?_)
           ·have hc2':w.1 ≥ lo:=by simpa using hc2
            rw [if_pos hc2'] at hA3
            have h63':FnG Tryd.prog 83 [.box [.d (.ptr (huntC n x) 0),.mp 1,.own 2],.mp (some [.i64,.i64]) (entsA A3 0) A3.length,.arr 114 2 (arvRows A3)] [0] [.box 0 0,.d (.agg [.i y.to,.i w.1]),.d (.agg [.i s.pl,.i s.mi,.i k,.i lv])] (.tup [])
             [.box [.d (.ptr (huntC n x) 0),.mp 1,.own 2],.mp (some [.i64,.i64]) (entsA (arriveA x.clues A3 ⟨y.to,w.1,s.pl,s.mi,k,lv⟩) 0) (arriveA x.clues A3 ⟨y.to,w.1,s.pl,s.mi,k,lv⟩).length,.arr 114 2 (arvRows (arriveA x.clues A3 ⟨y.to,w.1,s.pl,s.mi,k,lv⟩))] :=
             zf83 n x A3 ⟨y.to,w.1,s.pl,s.mi,k,lv⟩ hyg.to.1 (by omega) (by omega)
            repeat (first | refine z29 ?_ | refine z40 ?_)
            refine z3 fun K hK=>?_
            simp only [go_sem]
            refine ⟨_,.own (ns:=[16,14,150]) (news:=[]) (bads:=[14,150]) (rd:=[]) (hf:=h63') (hnd:=by decide) (hl0:=rfl) (hl1:=rfl) (hm:=by repeat (first | exact trivial | refine And.intro ?_ ?_ | rfl)) (hnew:=rfl) (hla:=rfl) (ha:=z73 (by repeat (first | exact trivial | refine And.intro ?_ ?_ | exact z87 rfl | exact z55 rfl rfl))) (hrd:=rfl) (hsh:=z202 _) (hb:=rfl) (hfl:=.inl rfl),?_⟩
            simp only [go_sem,List.map_cons,List.map_nil]
            apply hK
            clear hK K
            repeat (first | refine nx ?_ | (refine z3 fun K hK=>?_;simp only [go_sem];apply hK;clear hK K))
            refine ⟨rfl,arriveA x.clues A3 ⟨y.to,w.1,s.pl,s.mi,k,lv⟩,?_,hA3,z116 hgA3 ⟨hyg.to,by dsimp only;omega⟩⟩
            simp only [go_sem]
            refine weA ?_ ?_ <;> simp
           ·have hc2':¬ w.1 ≥ lo:=by simpa using hc2
            rw [if_neg hc2'] at hA3
            repeat (first | refine nx ?_ | (refine z3 fun K hK=>?_;simp only [go_sem];apply hK;clear hK K))
            refine ⟨rfl,A3,?_,hA3,hgA3⟩
            simp only [go_sem]
            refine weA ?_ ?_ <;> simp
         ·rintro A3 ⟨hA3,hgA3⟩
          rw [wkRows,List.length_map,List.drop_length,walkA] at hA3
          simp only [go_sem]
          repeat (first | refine nx ?_ | (refine z3 fun K hK=>?_;simp only [go_sem,hkw];apply hK;clear hK K))
          refine ⟨rfl,(k + 1,A3),?_,⟨hkl,hgA3,(fin A3 hA3).symm⟩,by dsimp only;omega⟩
          simp only [go_sem]
          refine weA ?_ ?_ <;> simp
         ·rintro e A3 ⟨rfl,hA3,hgA3⟩ _
          refine z60 ?_
          refine z4 ?_
          simp only [go_sem]
          repeat (first | refine nx ?_ | (refine z3 fun K hK=>?_;simp only [go_sem,hkw];apply hK;clear hK K))
          refine ⟨rfl,(k + 1,A3),?_,⟨hkl,hgA3,(fin A3 hA3).symm⟩,by dsimp only;omega⟩
          simp only [go_sem]
          refine weA ?_ ?_ <;> simp
        ·have hne:(y.frm != s.pl)=true:=by simpa using hfr
         rw [if_neg (fun hc=>hfr hc.1)] at hpk
         repeat (first | refine nx ?_ | (refine z3 fun K hK=>?_;simp only [go_sem,hne];apply hK;clear hK K))
         refine z9 rfl ?_
         repeat (first | refine nx ?_ | (refine z3 fun K hK=>?_;simp only [go_sem,hkw];apply hK;clear hK K))
         refine ⟨rfl,(k + 1,A2),?_,⟨hkl,hgA2,hpk.symm⟩,by dsimp only;omega⟩
         simp only [go_sem]
         refine weA ?_ ?_ <;> simp
       ·rw [if_neg (fun hc=>hg hc.2)] at hpk
        repeat (first | refine nx ?_ | (refine z3 fun K hK=>?_;simp only [go_sem,hy,List.getElem?_map,Path.row];apply hK;clear hK K))
        refine z8 (by kernel_rfl) (by kernel_rfl) fun K hK=>?_
        simp only [go_sem,c2,hf]
        refine ⟨by kernel_rfl,hK _ ?_⟩
        clear hK K
        by_cases hfr:y.frm=s.pl
        all_goals
         first | (have hne:(y.frm != s.pl)=false:=by simp [hfr]) | (have hne:(y.frm != s.pl)=true:=by simpa using hfr)
         repeat (first | refine nx ?_ | (refine z3 fun K hK=>?_;simp only [go_sem,hne];apply hK;clear hK K))
         refine z9 rfl ?_
         repeat (first | refine nx ?_ | (refine z3 fun K hK=>?_;simp only [go_sem,hkw];apply hK;clear hK K))
         refine ⟨rfl,(k + 1,A2),?_,⟨hkl,hgA2,hpk.symm⟩,by dsimp only;omega⟩
         simp only [go_sem]
         refine weA ?_ ?_ <;> simp
      ·have he:k=n.paths.length:=by (have:¬ k<n.paths.length:=by simpa using hkb);omega
       subst he
       repeat (first | refine nx ?_ | (refine z3 fun K hK=>?_;simp only [go_sem];apply hK;clear hK K))
       refine ⟨rfl,(A2,L2),?_,by rw [hnext,hlv,hA2],hgA2⟩
       simp only [go_sem]
       refine weA ?_ ?_ <;> simp
   ·rintro ⟨A1,L1⟩ ⟨hA1,hgA1⟩
    rw [minRows,List.length_map,List.take_length,hLs] at hA1
    have hA1:(A1,L1)=spotA n x s (A,L):=hA1
    have hln:A.length≤A1.length:=by
     have:=z1000 n x s (A,L)
     rw [← hA1] at this
     exact this
    rw [show boundN n x + 1 - i=(boundN n x - i) + 1 by omega,followF] at hRi
    dsimp only at hRi
    rw [hs] at hRi
    dsimp only at hRi
    rw [← hA1] at hRi
    simp only [go_sem]
    repeat (first | refine nx ?_ | (refine z3 fun K hK=>?_;simp only [go_sem,hw];apply hK;clear hK K))
    refine ⟨rfl,(i + 1,A1,L1),?_,⟨?_,hgA1,?_⟩,by dsimp only;omega⟩
    ·simp only [go_sem]
     refine weA ?_ ?_ <;> simp
    ·dsimp only at hgA1 ⊢;omega
    ·dsimp only
     rw [show boundN n x + 1 - (i + 1)=boundN n x - i by omega]
     exact hRi
  ·have he:i=A.length:=by (have:¬ i<A.length:=by simpa using hb);omega
   have hRe:R=(A,L):=by
    rw [hRi]
    cases hf:boundN n x + 1 - i with
    | zero=>rfl
    | succ f=>rw [followF];dsimp only;rw [List.getElem?_eq_none (by omega)]
   rw [hRe]
   repeat (first | refine nx ?_ | (refine z3 fun K hK=>?_;simp only [go_sem];apply hK;clear hK K))
   simp only [go_sem,trkM,legsB]
end Go.Ab
namespace Go.Ab
open Go.RowKit Go.Proofs
set_option maxHeartbeats 16000000
set_option maxRecDepth 20000
attribute [local irreducible] WalkL Walk
structure EndT where
 pl:Int
 mi:Int
 pa:Int
 lv:Int
def EndT.row (e:EndT):List DV:=[.i e.pl,.i e.mi,.i e.pa,.i e.lv]
def endRows (l:List EndT):List (List DV):=l.map fun e=>[.agg e.row]
def seenF (l:List Clue):Int:=l.foldl (fun a c=>if c.seen then max a c.minute else a) 0
def endIn (x:Missed) (s:Arv) (m:Int):Option EndT:=if m=x.now then some ⟨s.pl,s.mi,-1,x.now⟩ else none
def endOn (n:Net) (x:Missed) (s:Arv) (lv:Int) (k:Nat):Option EndT:=match n.paths[k]? with
 | some y=>if y.grade≤x.party.grade∧y.frm=s.pl then some ⟨s.pl,s.mi,k,lv⟩ else none
 | none=>none
def endLv (n:Net) (x:Missed) (s:Arv) (lv:Int):List EndT:=if lv=x.now∨lv<seenF x.clues then [] else (List.range n.paths.length).filterMap (endOn n x s lv)
def endOf8 (n:Net) (x:Missed) (s:Arv):List EndT:=(staysL x s.pl s.mi x.now).filterMap (endIn x s)++(staysL x s.pl s.mi (wr (s.mi + x.rest))).flatMap (endLv n x s)
def endsL (n:Net) (x:Missed) (A:List Arv):List EndT:=A.flatMap (endOf8 n x)
theorem z440 {I X Y:List EndT} {e:EndT} (h:I=X++e::Y):(endRows I)[X.length]?=some [.agg e.row]:=by
 rw [h];simp [endRows]
theorem iter50 (n:Net) (x:Missed) (hx:Hunted n x) (A:List Arv) (b:DV) (hgA:goodA n x A) :
  IterE Tryd.prog 50 [] (fun l=>[.d (.ptr [.ptr (huntC n x) 0,b,.sl (arvRows A)] 0),.d (.yld l)]) (endRows (endsL n x A)):=by
 have c11:(huntC n x)[11]?=some (.sl (x.clues.map Clue.row)):=rfl
 have c9:(huntC n x)[9]?=some (.i x.now):=rfl
 have c10:(huntC n x)[10]?=some (.i x.rest):=rfl
 have c1:(huntC n x)[1]?=some (.sl (n.paths.map Path.row)):=rfl
 have hst:=hx.start
 have hno:=hx.now
 have hre:=hx.rest
 have hcl:=hx.clues
 have hpl:=hx.net.paths
 have hAl:=z317 hgA
 have hN:=z698 hx
 obtain ⟨H,hH⟩:∃ H,H=huntC n x:=⟨_,rfl⟩
 refine z237 160 Tryd.call50 Tryd.func50 rfl rfl fun l J hG=>?_
 simp only [go_sem,St.startG,Tryd.ntmps50,Tryd.results50,List.map_cons,List.map_nil,List.range_succ,  ]
 repeat (first | refine nx ?_ | (refine z3 fun K hK=>?_;simp only [go_sem,c11];apply hK;clear hK K))
 refine z15 (fun (i:Nat)=>[(24,.d (.i i))]) (fun i=>[(4,some (.box [.d (.i (seenF (x.clues.take i)))]))]) (fun i=>i≤x.clues.length) (fun i=>x.clues.length - i) 0 ?_ (Nat.zero_le _) ?_
 ·simp only [go_sem,seenF,List.take_zero,List.foldl_nil]
  refine weA ?_ ?_ <;> simp
 ·intro i hi
  simp only [go_sem]
  repeat (first | refine nx ?_ | (refine z3 fun K hK=>?_;simp only [go_sem];apply hK;clear hK K))
  refine z5 rfl (fun hb=>?_) (fun hb=>?_)
  ·have hlt:i<x.clues.length:=by simpa using hb
   have hw:IntKind.i64.wrap ((i:Int) + 1)=((i + 1:Nat):Int):=by rw [z12 (by omega)];simp
   obtain ⟨c,hc⟩:∃ c,x.clues[i]?=some c:=⟨_,List.getElem?_eq_getElem hlt⟩
   have hs1:seenF (x.clues.take (i + 1))=if c.seen then max (seenF (x.clues.take i)) c.minute else seenF (x.clues.take i):=by
    rw [seenF,z35 _ _ _ _ _ hc];rfl
   repeat (first | refine nx ?_ | (refine z3 fun K hK=>?_;simp only [go_sem,hc,List.getElem?_map,Clue.row];apply hK;clear hK K))
   cases hcs:c.seen
   ·rw [hcs] at hs1
    refine z6 rfl ?_
    repeat (first | refine nx ?_ | (refine z3 fun K hK=>?_;simp only [go_sem,hw];apply hK;clear hK K))
    refine ⟨rfl,i + 1,?_,hlt,by omega⟩
    simp only [go_sem,hs1,Bool.false_eq_true,if_false]
    refine weA ?_ ?_ <;> simp
   ·rw [hcs] at hs1
    refine z9 rfl ?_
    repeat (first | refine nx ?_ | (refine z3 fun K hK=>?_;simp only [go_sem,hw];apply hK;clear hK K))
    refine ⟨rfl,i + 1,?_,hlt,by omega⟩
    simp only [go_sem,hs1,if_true]
    refine weA ?_ ?_ <;> simp
  ·have he:i=x.clues.length:=by (have:¬ i<x.clues.length:=by simpa using hb);omega
   subst he
   rw [List.take_length]
   have hrl:=z329 A
   repeat (first | refine nx ?_ | (refine z3 fun K hK=>?_;simp only [go_sem,hrl];apply hK;clear hK K))
   obtain ⟨I,hI⟩:∃ I,I=endsL n x A:=⟨_,rfl⟩
   rw [← hI] at hG ⊢
   refine z57 (fun (i:Nat)=>[(40,.d (.i i))]) (fun _=>[]) (fun k i=>i≤A.length∧∃ X,k=some X.length∧I=X++(A.drop i).flatMap (endOf8 n x)) (fun i=>A.length - i) 0 ?_ ⟨Nat.zero_le _,[],rfl,by rw [hI];rfl⟩ ?_
   ·simp only [go_sem]
    refine weA ?_ ?_ <;> simp
   ·rintro k i ⟨hi,X,rfl,hX⟩
    simp only [go_sem]
    repeat (first | refine nx ?_ | (refine z3 fun K hK=>?_;simp only [go_sem];apply hK;clear hK K))
    refine z5 rfl (fun hb=>?_) (fun hb=>?_)
    ·have hlt:i<A.length:=by simpa using hb
     have hw:IntKind.i64.wrap ((i:Int) + 1)=((i + 1:Nat):Int):=by rw [z12 (by omega)];simp
     obtain ⟨s,hs⟩:∃ s,A[i]?=some s:=⟨_,List.getElem?_eq_getElem hlt⟩
     have hrow:=z330 hs
     have hgs:=hgA.1 s (List.mem_of_getElem? hs)
     rw [z84 hs,List.flatMap_cons,endOf8] at hX
     have h64a:=zf84 [.ptr (huntC n x) 0,b,.sl (arvRows A)] s.pl s.mi x.now
     have h64b:=zf84 [.ptr (huntC n x) 0,b,.sl (arvRows A)] s.pl s.mi (wr (s.mi + x.rest))
     have hit1:=z1034 n x b (.sl (arvRows A)) s.pl s.mi x.now hgs.1.1 (by omega) (by omega) (by omega)
     have hit2:=z1034 n x b (.sl (arvRows A)) s.pl s.mi (wr (s.mi + x.rest)) hgs.1.1 (by omega) (by omega) (by omega)
     obtain ⟨L1,hL1⟩:∃ L,L=staysL x s.pl s.mi x.now:=⟨_,rfl⟩
     obtain ⟨L2,hL2⟩:∃ L,L=staysL x s.pl s.mi (wr (s.mi + x.rest)):=⟨_,rfl⟩
     rw [← hL1] at hit1 hX
     rw [← hL2] at hit2 hX
     obtain ⟨Z,hZ⟩:∃ Z,Z=(A.drop (i + 1)).flatMap (endOf8 n x):=⟨_,rfl⟩
     rw [← hZ] at hX
     repeat (first | refine nx ?_ | (refine z3 fun K hK=>?_;simp only [go_sem,hrow];apply hK;clear hK K))
     refine z8 (by kernel_rfl) (by kernel_rfl) fun K hK=>?_
     simp only [go_sem,c9]
     refine ⟨_,.fn (hf:=h64a) (hd:=rfl) (hr:=.inr rfl),?_⟩
     simp only [go_sem]
     refine ⟨by kernel_rfl,hK _ ?_⟩
     clear hK K
     refine z33 ?_
     refine z156 rfl hit1 (by intro row hr;obtain ⟨w,_,rfl⟩:=List.mem_map.1 hr;rfl) (fun (_:Unit)=>[]) (fun _=>[]) (fun k' j _=>∃ Y,k'=some Y.length∧I=Y++((L1.drop j).filterMap (endIn x s)++(L2.flatMap (endLv n x s)++Z)))
      (fun e k' _=>e=.ret∧k'=none) () ?_ ⟨X,rfl,by simpa using hX⟩ ?_ ?_ ?_
     ·simp only [go_sem]
      refine weA ?_ ?_ <;> simp
     ·rintro X0 W0 k' j _ row hj ⟨Y,rfl,hY⟩ l1 m1
      obtain ⟨m,hm,rfl⟩:∃ m,L1[j]?=some m∧row=[.i m]:=by
       simp only [minRows,List.getElem?_map,Option.map_eq_some_iff] at hj
       obtain ⟨lv,h1,h2⟩:=hj
       exact ⟨lv,h1,h2.symm⟩
      have hG1:=z240 hG X0 W0
      rw [z84 hm,List.filterMap_cons] at hY
      simp only [go_sem]
      repeat (first | refine nx ?_ | (refine z3 fun K hK=>?_;simp only [go_sem];apply hK;clear hK K))
      by_cases hmn:m=x.now
      ·have hme:(m == x.now)=true:=by simpa using hmn
       have hei:endIn x s m=some ⟨s.pl,s.mi,-1,x.now⟩:=by rw [endIn,if_pos hmn]
       rw [hei] at hY
       dsimp only at hY
       rw [List.cons_append] at hY
       refine z62 hG1 [] 22 (by kernel_rfl) (by kernel_rfl) (by kernel_rfl) (by decide) fun K hK=>?_
       simp only [go_sem,c9,hme]
       refine ⟨by kernel_rfl,?_⟩
       refine ⟨rfl,Y.length,_,rfl,rfl,rfl,z440 hY,?_,?_⟩
       ·simp only [go_sem]
        refine hK _ _ ?_
        clear hK K
        refine z6 rfl ?_
        repeat (first | refine nx ?_ | (refine z3 fun K hK=>?_;simp only [go_sem];apply hK;clear hK K))
        refine ⟨(),?_,Y++[⟨s.pl,s.mi,-1,x.now⟩],by simp,by rw [hY];simp⟩
        simp only [go_sem]
        refine weA ?_ ?_ <;> simp
       ·simp only [go_sem]
        refine hK _ _ ?_
        clear hK K
        refine z9 rfl ?_
        repeat (first | refine nx ?_ | (refine z3 fun K hK=>?_;simp only [go_sem];apply hK;clear hK K))
        refine ⟨rfl,(),?_,rfl,rfl⟩
        simp only [go_sem]
        refine weA ?_ ?_ <;> simp
      ·have hme:(m == x.now)=false:=by simpa using hmn
       have hei:endIn x s m=none:=by rw [endIn,if_neg hmn]
       rw [hei] at hY
       dsimp only at hY
       refine z62 hG1 [] 22 (by kernel_rfl) (by kernel_rfl) (by kernel_rfl) (by decide) fun K hK=>?_
       simp only [go_sem,c9,hme]
       refine ⟨by kernel_rfl,?_⟩
       refine hK _ _ ?_
       clear hK K
       refine z6 rfl ?_
       repeat (first | refine nx ?_ | (refine z3 fun K hK=>?_;simp only [go_sem];apply hK;clear hK K))
       refine ⟨(),?_,Y,rfl,hY⟩
       simp only [go_sem]
       refine weA ?_ ?_ <;> simp
     ·rintro k' _ ⟨Y,rfl,hY⟩
      rw [minRows,List.length_map,List.drop_length,List.filterMap_nil,List.nil_append] at hY
      simp only [go_sem]
      repeat (first | refine nx ?_ | (refine z3 fun K hK=>?_;simp only [go_sem];apply hK;clear hK K))
      refine z8 (by kernel_rfl) (by kernel_rfl) fun K hK=>?_
      simp only [go_sem,c10]
      refine ⟨_,.fn (hf:=h64b) (hd:=rfl) (hr:=.inr rfl),?_⟩
      simp only [go_sem]
      refine ⟨by kernel_rfl,hK _ ?_⟩
      clear hK K
      refine z33 ?_
      refine z156 rfl hit2 (by intro row hr;obtain ⟨w,_,rfl⟩:=List.mem_map.1 hr;rfl) (fun (_:Unit)=>[]) (fun _=>[]) (fun k' j _=>∃ Y,k'=some Y.length∧I=Y++((L2.drop j).flatMap (endLv n x s)++Z))
       (fun e k' _=>e=.ret∧k'=none) () ?_ ⟨Y,rfl,by simpa using hY⟩ ?_ ?_ ?_
      ·simp only [go_sem]
       refine weA ?_ ?_ <;> simp
      ·rintro X0 W0 k' j _ row hj ⟨Y,rfl,hY⟩ l1 m1
       obtain ⟨lv,hlv,rfl⟩:∃ m,L2[j]?=some m∧row=[.i m]:=by
        simp only [minRows,List.getElem?_map,Option.map_eq_some_iff] at hj
        obtain ⟨lv,h1,h2⟩:=hj
        exact ⟨lv,h1,h2.symm⟩
       have hG1:=z240 hG X0 W0
       rw [z84 hlv,List.flatMap_cons] at hY
       simp only [go_sem]
       repeat (first | refine nx ?_ | (refine z3 fun K hK=>?_;simp only [go_sem];apply hK;clear hK K))
       by_cases hmn:lv=x.now
       ·have hme:(lv == x.now)=true:=by simpa using hmn
        rw [endLv,if_pos (.inl hmn),List.nil_append] at hY
        repeat (first | refine nx ?_ | (refine z3 fun K hK=>?_;simp only [go_sem,c9,hme];apply hK;clear hK K))
        refine z9 rfl ?_
        repeat (first | refine nx ?_ | (refine z3 fun K hK=>?_;simp only [go_sem];apply hK;clear hK K))
        refine ⟨(),?_,Y,rfl,hY⟩
        simp only [go_sem]
        refine weA ?_ ?_ <;> simp
       ·have hme:(lv == x.now)=false:=by simpa using hmn
        by_cases hls:lv<seenF x.clues
        ·have hle:decide (lv<seenF x.clues)=true:=by simpa using hls
         rw [endLv,if_pos (.inr hls),List.nil_append] at hY
         repeat (first | refine nx ?_ | (refine z3 fun K hK=>?_;simp only [go_sem,c9,hme,hle];apply hK;clear hK K))
         refine z9 rfl ?_
         repeat (first | refine nx ?_ | (refine z3 fun K hK=>?_;simp only [go_sem];apply hK;clear hK K))
         refine ⟨(),?_,Y,rfl,hY⟩
         simp only [go_sem]
         refine weA ?_ ?_ <;> simp
        ·have hle:decide (lv<seenF x.clues)=false:=by simpa using hls
         rw [endLv,if_neg (fun hc=>hc.elim hmn hls)] at hY
         repeat (first | refine nx ?_ | (refine z3 fun K hK=>?_;simp only [go_sem,c9,hme,hle];apply hK;clear hK K))
         refine z6 rfl ?_
         repeat (first | refine nx ?_ | (refine z3 fun K hK=>?_;simp only [go_sem,c1];apply hK;clear hK K))
         obtain ⟨V,hV⟩:∃ V,V=(L2.drop (j + 1)).flatMap (endLv n x s)++Z:=⟨_,rfl⟩
         rw [List.append_assoc,← hV] at hY
         refine z57 (fun (q:Nat)=>[(121,.d (.i q))]) (fun _=>[]) (fun k q=>q≤n.paths.length∧∃ Y,k=some Y.length∧I=Y++((List.range' q (n.paths.length - q)).filterMap (endOn n x s lv)++V)) (fun q=>n.paths.length - q) 0 ?_ ⟨Nat.zero_le _,Y,rfl,by rw [Nat.sub_zero,← List.range_eq_range'];exact hY⟩ ?_
         ·try simp only [go_sem]
          refine weA ?_ ?_ <;> simp
         ·rintro k q ⟨hq,Y,rfl,hY⟩
          simp only [go_sem]
          repeat (first | refine nx ?_ | (refine z3 fun K hK=>?_;simp only [go_sem];apply hK;clear hK K))
          refine z5 rfl (fun hkb=>?_) (fun hkb=>?_)
          ·have hkl:q<n.paths.length:=by simpa using hkb
           have hkw:IntKind.i64.wrap ((q:Int) + 1)=((q + 1:Nat):Int):=by rw [z12 (by omega)];simp
           obtain ⟨y,hy⟩:∃ y,n.paths[q]?=some y:=⟨_,List.getElem?_eq_getElem hkl⟩
           obtain ⟨ks,vs,cc,hT,hlook⟩:=z405 n x.party hy
           have c2:(huntC n x)[2]?=some (.mp none ks vs cc):=by rw [← hT];rfl
           rw [show n.paths.length - q=(n.paths.length - (q + 1)) + 1 by omega,List.range'_succ,List.filterMap_cons] at hY
           rcases hlook with ⟨hg,fq,fb,hf⟩ | ⟨hg,hf⟩
           ·by_cases hfr:y.frm=s.pl
            ·have hne:(y.frm == s.pl)=true:=by simpa using hfr
             have heo:endOn n x s lv q=some ⟨s.pl,s.mi,q,lv⟩:=by rw [endOn,hy];dsimp only;rw [if_pos ⟨hg,hfr⟩]
             rw [heo] at hY
             dsimp only at hY
             rw [List.cons_append] at hY
             repeat (first | refine nx ?_ | (refine z3 fun K hK=>?_;simp only [go_sem,hy,List.getElem?_map,Path.row,c2,hf,Span.row];apply hK;clear hK K))
             refine z136 hG1 [] fun K hK=>?_
             simp only [go_sem,hne]
             refine ⟨rfl,Y.length,_,rfl,rfl,rfl,z440 hY,?_,?_⟩
             ·simp only [go_sem]
              refine hK _ _ ?_
              clear hK K
              refine z6 rfl ?_
              repeat (first | refine nx ?_ | (refine z3 fun K hK=>?_;simp only [go_sem,hkw];apply hK;clear hK K))
              refine ⟨q + 1,?_,⟨hkl,Y++[⟨s.pl,s.mi,q,lv⟩],by simp,by rw [hY];simp⟩,by omega⟩
              try simp only [go_sem]
              refine weA ?_ ?_ <;> simp
             ·simp only [go_sem]
              refine hK _ _ ?_
              clear hK K
              refine z9 rfl ?_
              repeat (first | refine nx ?_ | (refine z3 fun K hK=>?_;simp only [go_sem];apply hK;clear hK K))
              refine ⟨rfl,(),?_,rfl,rfl⟩
              try simp only [go_sem]
              refine weA ?_ ?_ <;> simp
            ·have hne:(y.frm == s.pl)=false:=by simpa using hfr
             have heo:endOn n x s lv q=none:=by rw [endOn,hy];dsimp only;rw [if_neg (fun hc=>hfr hc.2)]
             rw [heo] at hY
             dsimp only at hY
             repeat (first | refine nx ?_ | (refine z3 fun K hK=>?_;simp only [go_sem,hy,List.getElem?_map,Path.row,c2,hf,Span.row];apply hK;clear hK K))
             refine z136 hG1 [] fun K hK=>?_
             simp only [go_sem,hne]
             refine hK _ _ ?_
             clear hK K
             refine z6 rfl ?_
             repeat (first | refine nx ?_ | (refine z3 fun K hK=>?_;simp only [go_sem,hkw];apply hK;clear hK K))
             refine ⟨q + 1,?_,⟨hkl,Y,rfl,hY⟩,by omega⟩
             try simp only [go_sem]
             refine weA ?_ ?_ <;> simp
           ·have heo:endOn n x s lv q=none:=by rw [endOn,hy];dsimp only;rw [if_neg (fun hc=>hg hc.1)]
            rw [heo] at hY
            dsimp only at hY
            repeat (first | refine nx ?_ | (refine z3 fun K hK=>?_;simp only [go_sem,hy,List.getElem?_map,Path.row,c2,hf];apply hK;clear hK K))
            refine z6 rfl ?_
            repeat (first | refine nx ?_ | (refine z3 fun K hK=>?_;simp only [go_sem,hkw];apply hK;clear hK K))
            refine ⟨q + 1,?_,⟨hkl,Y,rfl,hY⟩,by omega⟩
            try simp only [go_sem]
            refine weA ?_ ?_ <;> simp
          ·have he:q=n.paths.length:=by (have:¬ q<n.paths.length:=by simpa using hkb);omega
           subst he
           rw [Nat.sub_self,List.range'_zero,List.filterMap_nil,List.nil_append] at hY
           repeat (first | refine nx ?_ | (refine z3 fun K hK=>?_;simp only [go_sem];apply hK;clear hK K))
           refine ⟨(),?_,Y,rfl,by rw [hY,hV]⟩
           try simp only [go_sem]
           refine weA ?_ ?_ <;> simp
      ·rintro k' _ ⟨Y,rfl,hY⟩
       rw [minRows,List.length_map,List.drop_length,List.flatMap_nil,List.nil_append] at hY
       simp only [go_sem]
       repeat (first | refine nx ?_ | (refine z3 fun K hK=>?_;simp only [go_sem,hw];apply hK;clear hK K))
       refine ⟨i + 1,?_,⟨hlt,Y,rfl,by rw [hY,hZ]⟩,by omega⟩
       try simp only [go_sem]
       refine weA ?_ ?_ <;> simp
      ·rintro e k' _ ⟨rfl,rfl⟩ _
       repeat (first | refine z106 ?_ | refine z124 ?_)
       exact ⟨trivial,.inr rfl⟩
     ·rintro e k' _ ⟨rfl,rfl⟩ _
      repeat (first | refine z106 ?_ | refine z124 ?_)
      exact ⟨trivial,.inr rfl⟩
    ·have he:i=A.length:=by (have:¬ i<A.length:=by simpa using hb);omega
     subst he
     rw [List.drop_length,List.flatMap_nil,List.append_nil] at hX
     repeat (first | refine nx ?_ | (refine z3 fun K hK=>?_;simp only [go_sem];apply hK;clear hK K))
     exact ⟨trivial,.inl (by rw [hX,endRows,List.length_map])⟩
end Go.Ab
namespace Go.Ab
open Go.RowKit Go.Proofs
set_option maxHeartbeats 16000000
set_option maxRecDepth 20000
attribute [local irreducible] WalkL Walk
def posL (l:List Int):List Int:=selL (fun i=>decide (getI l i > 0)) l.length
theorem z1079 {q:Nat→Bool} {k:Nat} (h:selL q k=[]) {i:Nat} (hi:i<k):q i=false:=by
 cases hq:q i
 ·rfl
 ·exfalso
  have:(i:Int) ∈ selL q k:=List.mem_map.2 ⟨i,List.mem_filter.2 ⟨List.mem_range.2 hi,hq⟩,rfl⟩
  rw [h] at this
  simp at this
theorem z1144 (l:List Int) (hl:l.length<2 ^ 30) (hp:posL l=[]):Fn Tryd.prog 51 [.sl (intRows l)] .nilsl:=by
 have hrl:=z16 l
 refine z1126 20 Tryd.call51 Tryd.func51 rfl (by decide) fun J=>?_
 simp only [go_sem,St.start,Tryd.ntmps51,Tryd.results51]
 repeat (first | refine nx ?_ | (refine z3 fun K hK=>?_;simp only [go_sem,hrl];apply hK;clear hK K))
 refine z15 (fun (i:Nat)=>[(7,.d (.i i)),(2,.nil)]) (fun _=>[]) (fun i=>i≤l.length) (fun i=>l.length - i) 0 ?_ (Nat.zero_le _) ?_
 ·simp only [go_sem]
  refine weA ?_ ?_ <;> simp
 ·intro i hi
  simp only [go_sem]
  repeat (first | refine nx ?_ | (refine z3 fun K hK=>?_;simp only [go_sem];apply hK;clear hK K))
  refine z5 rfl (fun hb=>?_) (fun hb=>?_)
  ·have hlt:i<l.length:=by simpa using hb
   have hw:IntKind.i64.wrap ((i:Int) + 1)=((i + 1:Nat):Int):=by rw [z12 (by omega)];simp
   have hg:(intRows l)[i]?=some [.i (getI l i)]:=by simpa using z77 (l:=l) (i:=(i:Int)) (by omega) (by simpa using hlt)
   have hil:i<(intRows l).length:=by omega
   have hq:=z1079 hp hlt
   repeat (first | refine nx ?_ | (refine z3 fun K hK=>?_;simp only [go_sem,hg,hil,hq];apply hK;clear hK K))
   refine z6 rfl ?_
   repeat (first | refine nx ?_ | (refine z3 fun K hK=>?_;simp only [go_sem,hw];apply hK;clear hK K))
   refine ⟨rfl,i + 1,?_,hlt,by omega⟩
   try simp only [go_sem]
   refine weA ?_ ?_ <;> simp
  ·have he:i=l.length:=by (have:¬ i<l.length:=by simpa using hb);omega
   subst he
   repeat (first | refine nx ?_ | (refine z3 fun K hK=>?_;simp only [go_sem];apply hK;clear hK K))
   simp only [go_sem,retN]
theorem z1143 (l:List Int) (hl:l.length<2 ^ 30):FnS Tryd.prog 51 [.sl (intRows l)] 3 1 (intRows (posL l)):=by
 have hrl:=z16 l
 refine z276 24 Tryd.call51 Tryd.func51 rfl (by decide) fun J=>?_
 simp only [go_sem,St.start,Tryd.ntmps51,Tryd.results51,]
 repeat (first | refine nx ?_ | (refine z3 fun K hK=>?_;simp only [go_sem,hrl];apply hK;clear hK K))
 refine z15 (fun (i:Nat)=>[(7,.d (.i i)),(2,.own 22)]) (fun i=>[(22,some (.arr 3 1 (intRows (selL (fun j=>decide (getI l j > 0)) i))))]) (fun i=>i≤l.length) (fun i=>l.length - i) 0 ?_ (Nat.zero_le _) ?_
 ·simp only [go_sem]
  refine z66 [22] ?_ ?_ ?_ ?_
  ·simp [lessT,z128,AV.less]
  ·simp [lessM,lessB,lessT,z128,AV.less,selL,intRows]
  ·first | rfl | simp [liveB,AV.refs,AV.refs.AV.refss,selL,intRows]
  ·first | rfl | simp [liveM,liveB,AV.refs,AV.refs.AV.refss,selL,intRows]
 ·intro i hi
  have hsl:=z1080 (fun j=>decide (getI l j > 0)) i
  have hs1:=z1002 (fun j=>decide (getI l j > 0)) i
  have hr39:(intRows (selL (fun j=>decide (getI l j > 0)) i)).length≤549755813887:=by rw [z16];omega
  simp only [go_sem]
  repeat (first | refine nx ?_ | (refine z3 fun K hK=>?_;simp only [go_sem];apply hK;clear hK K))
  refine z5 rfl (fun hb=>?_) (fun hb=>?_)
  ·have hlt:i<l.length:=by simpa using hb
   have hw:IntKind.i64.wrap ((i:Int) + 1)=((i + 1:Nat):Int):=by rw [z12 (by omega)];simp
   have hg:(intRows l)[i]?=some [.i (getI l i)]:=by simpa using z77 (l:=l) (i:=(i:Int)) (by omega) (by simpa using hlt)
   have hil:i<(intRows l).length:=by omega
   by_cases hq:getI l i > 0
   ·have hq:decide (getI l i > 0)=true:=decide_eq_true hq
    rw [hq,if_pos rfl] at hs1
    repeat (first | refine nx ?_ | (refine z3 fun K hK=>?_;simp only [go_sem,hg,hil,hq];apply hK;clear hK K))
    refine z9 rfl ?_
    repeat (first | refine nx ?_ | (refine z3 fun K hK=>?_;simp only [go_sem,hr39,hw];apply hK;clear hK K))
    refine ⟨rfl,i + 1,?_,hlt,by omega⟩
    try simp only [go_sem,hs1,intRows,List.map_append,List.map_cons,List.map_nil]
    refine weA ?_ ?_ <;> simp
   ·have hq:decide (getI l i > 0)=false:=decide_eq_false hq
    rw [hq] at hs1
    simp only [Bool.false_eq_true,if_false,List.append_nil] at hs1
    repeat (first | refine nx ?_ | (refine z3 fun K hK=>?_;simp only [go_sem,hg,hil,hq];apply hK;clear hK K))
    refine z6 rfl ?_
    repeat (first | refine nx ?_ | (refine z3 fun K hK=>?_;simp only [go_sem,hw];apply hK;clear hK K))
    refine ⟨rfl,i + 1,?_,hlt,by omega⟩
    try simp only [go_sem,hs1]
    refine weA ?_ ?_ <;> simp
  ·have he:i=l.length:=by (have:¬ i<l.length:=by simpa using hb);omega
   subst he
   repeat (first | refine nx ?_ | (refine z3 fun K hK=>?_;simp only [go_sem];apply hK;clear hK K))
   simp only [go_sem,posL]
end Go.Ab
namespace Go.Ab
open Go.RowKit Go.Proofs
set_option maxHeartbeats 16000000
set_option maxRecDepth 20000
attribute [local irreducible] WalkL Walk
def bump1 (l:List Int) (i:Int):List Int:=l.set i.toNat (wr (getI l i + 1))
def tally (a:List Int × List Int) (e:EndT):List Int × List Int:=if e.pa<0 then (bump1 a.1 e.pl,a.2) else (a.1,bump1 a.2 e.pa)
def tallyE (n:Net) (E:List EndT):List Int × List Int:=E.foldl tally (List.replicate n.places.toNat 0,List.replicate n.paths.length 0)
def huntedA (n:Net) (x:Missed):List Arv:=(followF n x (boundN n x + 1) 0 (startA x,[])).1
def whereP (n:Net) (x:Missed):List Int:=posL (tallyE n (endsL n x (huntedA n x))).1
def whereW (n:Net) (x:Missed):List Int:=posL (tallyE n (endsL n x (huntedA n x))).2
def whereC (n:Net) (x:Missed):List Int × List Int × Int :=
 if openX n x≠0 then ([],[],openX n x) else if whereP n x=[]∧whereW n x=[] then ([],[],3) else (whereP n x,whereW n x,0)
def whereD (n:Net) (x:Missed):DV:=.tup [.sl (intRows (whereC n x).1),.sl (intRows (whereC n x).2.1),.i (whereC n x).2.2]
theorem z1052 (l:List Int) (i:Int):(bump1 l i).length=l.length:=by simp [bump1]
theorem z541 (a:List Int × List Int) (e:EndT):(tally a e).1.length=a.1.length∧(tally a e).2.length=a.2.length:=by
 rw [tally];split <;> simp [z1052]
theorem z223:∀ (E:List EndT) (a:List Int × List Int),(E.foldl tally a).1.length=a.1.length∧(E.foldl tally a).2.length=a.2.length
 | [],a=>⟨rfl,rfl⟩
 | e::E,a=>by
  have h:=z223 E (tally a e)
  rw [(z541 a e).1,(z541 a e).2] at h
  exact h
theorem z824 {n:Net} {x:Missed} (hl:x.clues.length<2 ^ 30) (h:openX n x=0):Hunted n x:=by
 have hc:checkPartyF n x.party=0:=by
  rw [openX] at h
  split at h
  ·rename_i h1;exact absurd h h1
  ·rename_i h1;exact Classical.not_not.1 h1
 have hb:badHunt n x=false:=by
  cases hb:badHunt n x
  ·rfl
  ·simp [openX,hc,hb] at h
 have hn:¬ badNet n=true:=fun hb=>by rw [checkPartyF,if_pos hb] at hc;simp at hc
 have hp:¬ badParty x.party=true:=fun hb=>by rw [checkPartyF,if_neg hn,if_pos hb] at hc;simp at hc
 simp only [badHunt,Bool.or_eq_false_iff,Bool.not_eq_false',z17] at hb
 obtain ⟨h1,h2,h3,h4⟩:=hb
 exact ⟨z115.1 hn,z167.1 hp,⟨h1.1,by omega⟩,⟨h2.1,h4.1⟩,h4.2,h3,hl⟩
theorem z430 {n:Net} {x:Missed} {lo hi:Int} {mk:Int→Arv} (hmk:∀ t,(0≤(mk t).pl∧(mk t).pl<n.places)∧(mk t).mi=t):∀ {ws:List (Int × Bool)} {A:List Arv},(∀ w ∈ ws,x.start≤w.1∧w.1≤x.now)→goodA n x A→goodA n x (walkA x.clues lo hi mk ws A)
 | [],A,_,hA=>hA
 | w::ws,A,hw,hA=>by
  rw [walkA]
  split
  ·exact hA
  ·refine z430 hmk (fun v hv=>hw v (by simp [hv])) ?_
   split
   ·have:=hmk w.1
    exact z116 hA ⟨this.1,by rw [this.2];exact (hw w (by simp))⟩
   ·exact hA
theorem z961 {n:Net} {x:Missed} (hx:Hunted n x) {p m lv:Int} {A:List Arv} {k:Nat} (hlv:x.start≤lv) (hA:goodA n x A):goodA n x (pathA n x p m lv A k):=by
 rw [pathA]
 split
 ·rename_i y hy
  split
  ·refine z430 (fun t=>⟨(hx.net.path y (List.mem_of_getElem? hy)).to,rfl⟩) (fun w hw=>?_) hA
   have:=z248 hw
   omega
  ·exact hA
 ·exact hA
theorem z837 {n:Net} {x:Missed} (hx:Hunted n x) {p m lv:Int} {a:List Arv × List Cnt} (hlv:x.start≤lv) (hA:goodA n x a.1):goodA n x (leaveA n x p m a lv).1:=by
 rw [leaveA]
 split
 ·exact hA
 ·rw [pathsA]
  have:∀ (l:List Nat) (A:List Arv),goodA n x A→goodA n x (l.foldl (pathA n x p m lv) A):=fun l=>by
   induction l with
   | nil=>exact fun A h=>h
   | cons k l ih=>exact fun A h=>ih _ (z961 hx hlv h)
  exact this _ _ hA
theorem z960 {n:Net} {x:Missed} (hx:Hunted n x) {s:Arv} {a:List Arv × List Cnt} (hs:x.start≤s.mi) (hA:goodA n x a.1):goodA n x (spotA n x s a).1:=by
 rw [spotA]
 have:∀ (l:List Int) (a:List Arv × List Cnt),(∀ v ∈ l,x.start≤v)→goodA n x a.1→goodA n x (l.foldl (leaveA n x s.pl s.mi) a).1:=fun l=>by
  induction l with
  | nil=>exact fun a _ h=>h
  | cons k l ih=>exact fun a hl h=>ih _ (fun v hv=>hl v (by simp [hv])) (z837 hx (hl k (by simp)) h)
 exact this _ _ (fun v hv=>by have:=z256 hv;omega) hA
theorem z266 {n:Net} {x:Missed} (hx:Hunted n x):∀ (f i:Nat) (a:List Arv × List Cnt),goodA n x a.1→goodA n x (followF n x f i a).1
 | 0,_,a,h=>h
 | f + 1,i,a,h=>by
  rw [followF]
  split
  ·rename_i s hs
   exact z266 hx f _ _ (z960 hx (h.1 s (List.mem_of_getElem? hs)).2.1 h)
  ·exact h
theorem z838 {n:Net} {x:Missed} (hx:Hunted n x):goodA n x (huntedA n x) :=
 z266 hx _ _ _ (z116 ⟨fun a ha=>(by simp at ha),by simp⟩ ⟨hx.place,Int.le_refl _,hx.start.2⟩)
theorem z967 {n:Net} {x:Missed} {A:List Arv} (hA:goodA n x A) {e:EndT} (h:e ∈ endsL n x A):(0≤e.pl∧e.pl<n.places)∧(e.pa<0∨0≤e.pa∧e.pa.toNat<n.paths.length):=by
 rw [endsL] at h
 obtain ⟨s,hs,h⟩:=List.mem_flatMap.1 h
 have hg:=(hA.1 s hs).1
 rw [endOf8] at h
 rcases List.mem_append.1 h with h | h
 ·obtain ⟨m,_,hm⟩:=List.mem_filterMap.1 h
  rw [endIn] at hm
  split at hm
  ·cases hm;exact ⟨hg,.inl (show (-1:Int)<0 by decide)⟩
  ·cases hm
 ·obtain ⟨lv,_,hm⟩:=List.mem_flatMap.1 h
  rw [endLv] at hm
  split at hm
  ·simp at hm
  ·obtain ⟨k,hk,hm⟩:=List.mem_filterMap.1 hm
   rw [endOn] at hm
   split at hm
   ·split at hm
    ·cases hm;exact ⟨hg,.inr ⟨Int.natCast_nonneg k,by simpa using List.mem_range.1 hk⟩⟩
    ·cases hm
   ·cases hm
theorem z1012 {h:DV} {A:List Arv}:∃ b,reify ((trkM h A).map some) Ab.deep (.box 0 0)=some (.ptr [h,b,.sl (arvRows A)] 0):=by
 refine ⟨_,rfl⟩
theorem zf15 (n:Net) (x:Missed) (hs:n.Small) (hl:x.clues.length<2 ^ 30):Fn Tryd.prog 15 [.agg n.cells,.agg x.row] (whereD n x):=by
 have h38:=zf48 n x hs hl
 rw [Net.cells,Missed.row] at h38
 refine z10 61 Tryd.call15 Tryd.func15 rfl (by decide) fun J=>?_
 simp only [go_sem,St.start,Tryd.ntmps15,Tryd.results15,Net.cells,Missed.row]
 by_cases hok:openX n x=0
 ·have hx:=z824 hl hok
  rw [openD,if_pos hok,hok] at h38
  obtain ⟨A,hA⟩:∃ A,A=huntedA n x:=⟨_,rfl⟩
  have hgA:goodA n x A:=hA ▸ z838 hx
  have g39:=zf49 n x hx
  rw [← huntedA,← hA] at g39
  obtain ⟨b,hb⟩:=z1012 (h:=.ptr (huntC n x) 0) (A:=A)
  have h39:=FnG.deep (args:=[.ptr (huntC n x) 0]) g39 hb
  have hit:=iter50 n x hx A b hgA
  have hpl:=hx.net.places
  have hpt:=hx.net.paths
  repeat (first | refine nx ?_ | (refine z3 fun K hK=>?_;simp only [go_sem];(repeat (first | (refine ⟨_,.lent (hf:=h38) (hd:=rfl) (hr:=rfl),?_⟩;simp only [go_sem]) | (refine ⟨_,.given (hf:=h38) (hd:=rfl) (ha:=rfl),?_⟩;simp only [go_sem])));apply hK;clear hK K))
  refine z6 rfl ?_
  repeat (first | refine nx ?_ | (refine z3 fun K hK=>?_;simp only [go_sem];apply hK;clear hK K))
  obtain ⟨m,hm⟩:∃ m:Nat,n.places=m:=⟨n.places.toNat,by omega⟩
  obtain ⟨E,hE⟩:∃ E,E=endsL n x A:=⟨_,rfl⟩
  rw [← hE] at hit
  have hrep:∀ k,List.replicate k [DV.int .i64 0]=intRows (List.replicate k 0):=fun k=>by simp [intRows]
  have q1:(m:Int)≤1099511627776:=by omega
  have q2:(n.paths.length:Int)≤1099511627776:=by omega
  have q3:¬ ((m:Int)<0):=by omega
  refine z8 (by kernel_rfl) (by kernel_rfl) fun K hK=>?_
  simp only [go_sem,hm,q1,q2,q3,hrep,List.length_map,true_and]
  refine ⟨by kernel_rfl,hK _ ?_⟩
  clear hK K
  repeat (first | refine nx ?_ | (refine z3 fun K hK=>?_;simp only [go_sem];(repeat (first | (refine ⟨_,.lent (hf:=h39) (hd:=rfl) (hr:=rfl),?_⟩;simp only [go_sem]) | (refine ⟨_,.given (hf:=h39) (hd:=rfl) (ha:=rfl),?_⟩;simp only [go_sem])));apply hK;clear hK K))
  refine z156 rfl hit (by intro row hr;obtain ⟨w,_,rfl⟩:=List.mem_map.1 hr;rfl) (fun _=>[]) (fun (a:List Int × List Int)=>[(22,some (.arr 3 1 (intRows a.1))),(26,some (.arr 3 1 (intRows a.2)))])
   (fun k' j a=>k'=some 0∧a=(E.take j).foldl tally (List.replicate m 0,List.replicate n.paths.length 0)) (fun _ _ _=>False) (List.replicate m 0,List.replicate n.paths.length 0) ?_ ⟨rfl,by simp⟩ ?_ ?_ (fun _ _ _ h=>h.elim)
  ·simp only [go_sem]
   refine weA ?_ ?_ <;> simp
  ·rintro X0 W0 k' j a row hj ⟨rfl,ha⟩ l1 m1
   obtain ⟨e,he,rfl⟩:∃ e,E[j]?=some e∧row=[.agg e.row]:=by
    simp only [endRows,List.getElem?_map,Option.map_eq_some_iff] at hj
    obtain ⟨e,h1,h2⟩:=hj
    exact ⟨e,h1,h2.symm⟩
   have hr:=z967 hgA (hE ▸ List.mem_of_getElem? he)
   have ha':(E.take (j + 1)).foldl tally (List.replicate m 0,List.replicate n.paths.length 0)=tally a e:=by rw [z35 _ _ _ _ _ he,← ha]
   have hl:=z223 (E.take j) (List.replicate m 0,List.replicate n.paths.length 0)
   rw [← ha] at hl
   simp only [List.length_replicate] at hl
   have hil:=z16 a.1
   have hil2:=z16 a.2
   rw [hl.1] at hil
   rw [hl.2] at hil2
   simp only [go_sem,EndT.row]
   by_cases hp:e.pa<0
   ·have hpb:decide (e.pa<0)=true:=decide_eq_true hp
    have h0:0≤e.pl:=hr.1.1
    have h1:e.pl.toNat<m:=by omega
    have hg:=z77 (l:=a.1) (i:=e.pl) hr.1.1 (by omega)
    repeat (first | refine nx ?_ | (refine z3 fun K hK=>?_;simp only [go_sem,hpb];apply hK;clear hK K))
    refine z9 rfl ?_
    repeat (first | refine nx ?_ | (refine z3 fun K hK=>?_;simp only [go_sem,hil,h0,h1,hg,z49];apply hK;clear hK K))
    refine ⟨(bump1 a.1 e.pl,a.2),?_,rfl,by rw [ha',tally,if_pos hp]⟩
    rw [bump1]
    refine weA ?_ ?_ <;> simp
   ·have hpb:decide (e.pa<0)=false:=decide_eq_false hp
    have h0:0≤e.pa:=by omega
    have h1:e.pa.toNat<n.paths.length:=by rcases hr.2 with h | h <;> omega
    have hg:=z77 (l:=a.2) (i:=e.pa) (by omega) (by omega)
    repeat (first | refine nx ?_ | (refine z3 fun K hK=>?_;simp only [go_sem,hpb];apply hK;clear hK K))
    refine z6 rfl ?_
    repeat (first | refine nx ?_ | (refine z3 fun K hK=>?_;simp only [go_sem,hil2,h0,h1,hg,z49];apply hK;clear hK K))
    refine ⟨(a.1,bump1 a.2 e.pa),?_,rfl,by rw [ha',tally,if_neg hp]⟩
    rw [bump1]
    refine weA ?_ ?_ <;> simp
  ·rintro k' a ⟨rfl,ha⟩
   rw [endRows,List.length_map,List.take_length] at ha
   have ht:tallyE n (endsL n x (huntedA n x))=a:=by rw [tallyE,← hA,← hE,ha,hm];rfl
   have hl:=z223 E (List.replicate m 0,List.replicate n.paths.length 0)
   rw [← ha] at hl
   simp only [List.length_replicate] at hl
   have hP:whereP n x=posL a.1:=by rw [whereP,ht]
   have hW:whereW n x=posL a.2:=by rw [whereW,ht]
   simp only [go_sem]
   repeat (first | refine z29 ?_ | refine z40 ?_ | refine z7 ?_ | refine z200 ?_ | refine z97 ?_ | refine z60 ?_ | refine z118 rfl ?_ | refine z106 ?_ | refine z54 ?_ | refine z124 ?_ | refine z99 ?_ | refine z4 ?_)
   have nz:∀ l:List Int,l≠[]→(intRows l).isEmpty=false:=fun l h=>by cases l <;> simp_all [intRows]
   by_cases p1:posL a.1=[]
   ·have zf1:=z1144 a.1 (by omega) p1
    by_cases p2:posL a.2=[]
    ·have zf2:=z1144 a.2 (by omega) p2
     have hw:whereD n x=.tup [.sl [],.sl [],.i 3]:=by rw [whereD,whereC,if_neg (fun h=>h hok),if_pos ⟨by rw [hP,p1],by rw [hW,p2]⟩];rfl
     rw [hw]
     refine z8 (by kernel_rfl) (by kernel_rfl) fun K hK=>?_
     simp only [go_sem]
     refine ⟨_,.fn (hf:=zf1) (hd:=rfl) (hr:=.inl rfl),?_⟩
     simp only [go_sem]
     refine ⟨_,.fn (hf:=zf2) (hd:=rfl) (hr:=.inl rfl),?_⟩
     simp only [go_sem]
     refine ⟨by kernel_rfl,hK _ ?_⟩
     clear hK K
     repeat (first | refine nx ?_ | (refine z3 fun K hK=>?_;simp only [go_sem];apply hK;clear hK K))
     refine z9 rfl ?_
     repeat (first | refine nx ?_ | (refine z3 fun K hK=>?_;simp only [go_sem];apply hK;clear hK K))
     simp only [go_sem,retN]
    ·have zf2:=z1143 a.2 (by omega)
     have hw:whereD n x=.tup [.sl [],.sl (intRows (posL a.2)),.i 0]:=by rw [whereD,whereC,if_neg (fun h=>h hok),if_neg (fun h=>p2 (by rw [← hW,h.2])),hP,p1,hW];rfl
     rw [hw]
     refine z8 (by kernel_rfl) (by kernel_rfl) fun K hK=>?_
     simp only [go_sem]
     refine ⟨_,.fn (hf:=zf1) (hd:=rfl) (hr:=.inl rfl),?_⟩
     simp only [go_sem]
     refine ⟨_,.fnS (hdst:=rfl) (hf:=zf2) (hd:=rfl) (hr:=.inl (z89 _)) (hfr:=rfl),?_⟩
     simp only [go_sem]
     refine ⟨by kernel_rfl,hK _ ?_⟩
     clear hK K
     refine z134 [52] ?_
     simp only [go_sem]
     repeat (first | refine nx ?_ | (refine z3 fun K hK=>?_;simp only [go_sem,nz _ p2];apply hK;clear hK K))
     refine z6 rfl ?_
     refine z40 ?_
     refine z402 4 ?_
     simp only [go_sem]
     repeat (first | refine nx ?_ | (refine z3 fun K hK=>?_;simp only [go_sem];apply hK;clear hK K))
     simp only [go_sem,retN]
   ·have zf1:=z1143 a.1 (by omega)
    by_cases p2:posL a.2=[]
    ·have zf2:=z1144 a.2 (by omega) p2
     have hw:whereD n x=.tup [.sl (intRows (posL a.1)),.sl [],.i 0]:=by rw [whereD,whereC,if_neg (fun h=>h hok),if_neg (fun h=>p1 (by rw [← hP,h.1])),hP,hW,p2];rfl
     rw [hw]
     refine z8 (by kernel_rfl) (by kernel_rfl) fun K hK=>?_
     simp only [go_sem]
     refine ⟨_,.fnS (hdst:=rfl) (hf:=zf1) (hd:=rfl) (hr:=.inl (z89 _)) (hfr:=rfl),?_⟩
     simp only [go_sem]
     refine ⟨_,.fn (hf:=zf2) (hd:=rfl) (hr:=.inl rfl),?_⟩
     simp only [go_sem]
     refine ⟨by kernel_rfl,hK _ ?_⟩
     clear hK K
     refine z134 [50] ?_
     simp only [go_sem]
     repeat (first | refine nx ?_ | (refine z3 fun K hK=>?_;simp only [go_sem,nz _ p1];apply hK;clear hK K))
     refine z6 rfl ?_
     refine z40 ?_
     refine z402 5 ?_
     simp only [go_sem]
     repeat (first | refine nx ?_ | (refine z3 fun K hK=>?_;simp only [go_sem];apply hK;clear hK K))
     simp only [go_sem,retN]
    ·have zf2:=z1143 a.2 (by omega)
     have hw:whereD n x=.tup [.sl (intRows (posL a.1)),.sl (intRows (posL a.2)),.i 0]:=by rw [whereD,whereC,if_neg (fun h=>h hok),if_neg (fun h=>p1 (by rw [← hP,h.1])),hP,hW]
     rw [hw]
     refine z8 (by kernel_rfl) (by kernel_rfl) fun K hK=>?_
     simp only [go_sem]
     refine ⟨_,.fnS (hdst:=rfl) (hf:=zf1) (hd:=rfl) (hr:=.inl (z89 _)) (hfr:=rfl),?_⟩
     simp only [go_sem]
     refine ⟨_,.fnS (hdst:=rfl) (hf:=zf2) (hd:=rfl) (hr:=.inl (z89 _)) (hfr:=rfl),?_⟩
     simp only [go_sem]
     refine ⟨by kernel_rfl,hK _ ?_⟩
     clear hK K
     refine z134 [50,52] ?_
     simp only [go_sem]
     repeat (first | refine nx ?_ | (refine z3 fun K hK=>?_;simp only [go_sem,nz _ p1,nz _ p2];apply hK;clear hK K))
     refine z6 rfl ?_
     repeat (first | refine nx ?_ | (refine z3 fun K hK=>?_;simp only [go_sem];apply hK;clear hK K))
     simp only [go_sem,retN]
 ·rw [openD,if_neg hok] at h38
  have hne:(openX n x != 0)=true:=by simpa using hok
  have hw:whereD n x=.tup [.sl [],.sl [],.i (openX n x)]:=by rw [whereD,whereC,if_pos hok];rfl
  rw [hw]
  repeat (first | refine nx ?_ | (refine z3 fun K hK=>?_;simp only [go_sem,hne];(repeat (first | (refine ⟨_,.lent (hf:=h38) (hd:=rfl) (hr:=rfl),?_⟩;simp only [go_sem,hne]) | (refine ⟨_,.given (hf:=h38) (hd:=rfl) (ha:=rfl),?_⟩;simp only [go_sem,hne])));apply hK;clear hK K))
  refine z9 rfl ?_
  repeat (first | refine nx ?_ | (refine z3 fun K hK=>?_;simp only [go_sem];apply hK;clear hK K))
  simp only [go_sem,retN]
end Go.Ab
namespace Go.Ab
open Go.RowKit Go.Proofs
set_option maxRecDepth 100000
deriving instance DecidableEq for Arv
deriving instance DecidableEq for Cnt
def goF (n:Net) (x:Missed):Nat→Nat→List Arv × List Cnt→List Arv × List Cnt
 | 0,_,a=>a
 | k + 1,i,a=>match a.1[i]? with
  | some s=>goF n x k (i + 1) (spotA n x s a)
  | none=>a
theorem z267 {n:Net} {x:Missed} {i:Nat} {a:List Arv × List Cnt} (h:a.1[i]?=none):∀ f,followF n x f i a=a
 | 0=>rfl
 | f + 1=>by rw [followF,h]
theorem z27 {n:Net} {x:Missed}:∀ (k i f:Nat) (a:List Arv × List Cnt),followF n x (f + k) i a=followF n x f (i + k) (goF n x k i a)
 | 0,i,f,a=>rfl
 | k + 1,i,f,a=>by
  rw [show f + (k + 1)=(f + k) + 1 by omega,followF,goF]
  cases h:a.1[i]? with
  | some s=>dsimp only;rw [z27 k (i + 1) f,show i + 1 + k=i + (k + 1) by omega]
  | none=>dsimp only;rw [z267 (List.getElem?_eq_none (by have:=List.getElem?_eq_none_iff.1 h;omega))]
def ex0:List Arv × List Cnt:=([⟨0,300,0,0,-1,0⟩],[])
def ex8:List Arv × List Cnt:=([⟨0,300,0,0,-1,0⟩,⟨1,400,0,300,0,300⟩,⟨1,401,0,300,0,300⟩,⟨1,402,0,300,0,300⟩,⟨1,403,0,300,0,300⟩,⟨1,404,0,300,0,300⟩,⟨1,405,0,300,0,300⟩,⟨1,406,0,300,0,300⟩,⟨1,407,0,300,0,300⟩,⟨1,408,0,300,0,300⟩,⟨1,409,0,300,0,300⟩,⟨1,410,0,300,0,300⟩,⟨1,411,0,300,0,300⟩,⟨1,412,0,300,0,300⟩,⟨1,413,0,300,0,300⟩,⟨1,414,0,300,0,300⟩,⟨1,415,0,300,0,300⟩,⟨1,416,0,300,0,300⟩,⟨1,417,0,300,0,300⟩,⟨1,418,0,300,0,300⟩,⟨1,419,0,300,0,300⟩,⟨1,420,0,300,0,300⟩,⟨2,492,1,400,1,420⟩,⟨2,493,1,400,1,420⟩,⟨2,494,1,400,1,420⟩,⟨2,495,1,400,1,420⟩,⟨2,496,1,400,1,420⟩,⟨2,497,1,400,1,420⟩,⟨2,498,1,400,1,420⟩,⟨2,499,1,400,1,420⟩,⟨2,501,1,400,1,420⟩,⟨2,502,1,400,1,420⟩,⟨2,503,1,400,1,420⟩,⟨2,504,1,400,1,420⟩,⟨2,505,1,400,1,420⟩,⟨2,506,1,400,1,420⟩,⟨2,507,1,400,1,420⟩,⟨2,508,1,400,1,420⟩,⟨2,509,1,400,1,420⟩,⟨2,510,1,400,1,420⟩,⟨2,511,1,400,1,420⟩,⟨2,512,1,400,1,420⟩,⟨2,513,1,400,1,420⟩,⟨2,514,1,400,1,420⟩,⟨2,515,1,400,1,420⟩,⟨2,516,1,400,1,420⟩,⟨2,517,1,400,1,420⟩,⟨2,518,1,400,1,420⟩,⟨2,519,1,400,1,420⟩,⟨2,520,1,400,1,420⟩,⟨2,521,1,400,1,420⟩,⟨2,522,1,400,1,420⟩,⟨2,523,1,400,1,420⟩,⟨2,524,1,400,1,420⟩,⟨2,525,1,400,1,420⟩,⟨2,526,1,400,1,420⟩,⟨2,527,1,400,1,420⟩,⟨2,528,1,400,1,420⟩,⟨2,529,1,400,1,420⟩,⟨2,530,1,400,1,420⟩,⟨2,531,1,400,1,420⟩,⟨2,532,1,400,1,420⟩,⟨2,533,1,400,1,420⟩,⟨2,534,1,400,1,420⟩,⟨2,535,1,400,1,420⟩,⟨2,536,1,400,1,420⟩,⟨2,537,1,400,1,420⟩,⟨2,538,1,400,1,420⟩,⟨2,539,1,400,1,420⟩,⟨2,540,1,400,1,420⟩,⟨2,541,1,400,1,420⟩,⟨2,542,1,400,1,420⟩,⟨2,543,1,400,1,420⟩,⟨2,544,1,400,1,420⟩,⟨2,545,1,400,1,420⟩,⟨2,546,1,400,1,420⟩,⟨2,547,1,400,1,420⟩,⟨2,548,1,400,1,420⟩,⟨2,549,1,400,1,420⟩,⟨2,550,1,400,1,420⟩,⟨2,551,1,400,1,420⟩,⟨2,552,1,400,1,420⟩,⟨2,553,1,400,1,420⟩,⟨2,554,1,400,1,420⟩,⟨2,555,1,400,1,420⟩,⟨2,556,1,400,1,421⟩,⟨2,557,1,400,1,422⟩,⟨2,558,1,400,1,423⟩,⟨2,559,1,400,1,424⟩],[⟨0,300,1⟩,⟨0,301,1⟩,⟨0,302,1⟩,⟨0,303,1⟩,⟨0,304,1⟩,⟨0,305,1⟩,⟨0,306,1⟩,⟨0,307,1⟩,⟨0,308,1⟩,⟨0,309,1⟩,⟨0,310,1⟩,⟨0,311,1⟩,⟨0,312,1⟩,⟨0,313,1⟩,⟨0,314,1⟩,⟨0,315,1⟩,⟨0,316,1⟩,⟨0,317,1⟩,⟨0,318,1⟩,⟨0,319,1⟩,⟨0,320,1⟩,⟨0,321,1⟩,⟨0,322,1⟩,⟨0,323,1⟩,⟨0,324,1⟩,⟨0,325,1⟩,⟨0,326,1⟩,⟨0,327,1⟩,⟨0,328,1⟩,⟨0,329,1⟩,⟨0,330,1⟩,⟨1,400,1⟩,⟨1,401,2⟩,⟨1,402,3⟩,⟨1,403,4⟩,⟨1,404,5⟩,⟨1,405,6⟩,⟨1,406,7⟩,⟨1,407,7⟩,⟨1,408,7⟩,⟨1,409,7⟩,⟨1,410,7⟩,⟨1,411,7⟩,⟨1,412,7⟩,⟨1,413,7⟩,⟨1,414,7⟩,⟨1,415,7⟩,⟨1,416,7⟩,⟨1,417,7⟩,⟨1,418,7⟩,⟨1,419,7⟩,⟨1,420,7⟩,⟨1,421,7⟩,⟨1,422,7⟩,⟨1,423,7⟩,⟨1,424,7⟩,⟨1,425,7⟩,⟨1,426,7⟩,⟨1,427,7⟩,⟨1,428,7⟩,⟨1,429,7⟩,⟨1,430,7⟩,⟨1,431,6⟩,⟨1,432,5⟩,⟨1,433,4⟩,⟨1,434,3⟩,⟨1,435,2⟩,⟨1,436,1⟩])
def ex16:List Arv × List Cnt:=([⟨0,300,0,0,-1,0⟩,⟨1,400,0,300,0,300⟩,⟨1,401,0,300,0,300⟩,⟨1,402,0,300,0,300⟩,⟨1,403,0,300,0,300⟩,⟨1,404,0,300,0,300⟩,⟨1,405,0,300,0,300⟩,⟨1,406,0,300,0,300⟩,⟨1,407,0,300,0,300⟩,⟨1,408,0,300,0,300⟩,⟨1,409,0,300,0,300⟩,⟨1,410,0,300,0,300⟩,⟨1,411,0,300,0,300⟩,⟨1,412,0,300,0,300⟩,⟨1,413,0,300,0,300⟩,⟨1,414,0,300,0,300⟩,⟨1,415,0,300,0,300⟩,⟨1,416,0,300,0,300⟩,⟨1,417,0,300,0,300⟩,⟨1,418,0,300,0,300⟩,⟨1,419,0,300,0,300⟩,⟨1,420,0,300,0,300⟩,⟨2,492,1,400,1,420⟩,⟨2,493,1,400,1,420⟩,⟨2,494,1,400,1,420⟩,⟨2,495,1,400,1,420⟩,⟨2,496,1,400,1,420⟩,⟨2,497,1,400,1,420⟩,⟨2,498,1,400,1,420⟩,⟨2,499,1,400,1,420⟩,⟨2,501,1,400,1,420⟩,⟨2,502,1,400,1,420⟩,⟨2,503,1,400,1,420⟩,⟨2,504,1,400,1,420⟩,⟨2,505,1,400,1,420⟩,⟨2,506,1,400,1,420⟩,⟨2,507,1,400,1,420⟩,⟨2,508,1,400,1,420⟩,⟨2,509,1,400,1,420⟩,⟨2,510,1,400,1,420⟩,⟨2,511,1,400,1,420⟩,⟨2,512,1,400,1,420⟩,⟨2,513,1,400,1,420⟩,⟨2,514,1,400,1,420⟩,⟨2,515,1,400,1,420⟩,⟨2,516,1,400,1,420⟩,⟨2,517,1,400,1,420⟩,⟨2,518,1,400,1,420⟩,⟨2,519,1,400,1,420⟩,⟨2,520,1,400,1,420⟩,⟨2,521,1,400,1,420⟩,⟨2,522,1,400,1,420⟩,⟨2,523,1,400,1,420⟩,⟨2,524,1,400,1,420⟩,⟨2,525,1,400,1,420⟩,⟨2,526,1,400,1,420⟩,⟨2,527,1,400,1,420⟩,⟨2,528,1,400,1,420⟩,⟨2,529,1,400,1,420⟩,⟨2,530,1,400,1,420⟩,⟨2,531,1,400,1,420⟩,⟨2,532,1,400,1,420⟩,⟨2,533,1,400,1,420⟩,⟨2,534,1,400,1,420⟩,⟨2,535,1,400,1,420⟩,⟨2,536,1,400,1,420⟩,⟨2,537,1,400,1,420⟩,⟨2,538,1,400,1,420⟩,⟨2,539,1,400,1,420⟩,⟨2,540,1,400,1,420⟩,⟨2,541,1,400,1,420⟩,⟨2,542,1,400,1,420⟩,⟨2,543,1,400,1,420⟩,⟨2,544,1,400,1,420⟩,⟨2,545,1,400,1,420⟩,⟨2,546,1,400,1,420⟩,⟨2,547,1,400,1,420⟩,⟨2,548,1,400,1,420⟩,⟨2,549,1,400,1,420⟩,⟨2,550,1,400,1,420⟩,⟨2,551,1,400,1,420⟩,⟨2,552,1,400,1,420⟩,⟨2,553,1,400,1,420⟩,⟨2,554,1,400,1,420⟩,⟨2,555,1,400,1,420⟩,⟨2,556,1,400,1,421⟩,⟨2,557,1,400,1,422⟩,⟨2,558,1,400,1,423⟩,⟨2,559,1,400,1,424⟩],[⟨0,300,1⟩,⟨0,301,1⟩,⟨0,302,1⟩,⟨0,303,1⟩,⟨0,304,1⟩,⟨0,305,1⟩,⟨0,306,1⟩,⟨0,307,1⟩,⟨0,308,1⟩,⟨0,309,1⟩,⟨0,310,1⟩,⟨0,311,1⟩,⟨0,312,1⟩,⟨0,313,1⟩,⟨0,314,1⟩,⟨0,315,1⟩,⟨0,316,1⟩,⟨0,317,1⟩,⟨0,318,1⟩,⟨0,319,1⟩,⟨0,320,1⟩,⟨0,321,1⟩,⟨0,322,1⟩,⟨0,323,1⟩,⟨0,324,1⟩,⟨0,325,1⟩,⟨0,326,1⟩,⟨0,327,1⟩,⟨0,328,1⟩,⟨0,329,1⟩,⟨0,330,1⟩,⟨1,400,1⟩,⟨1,401,2⟩,⟨1,402,3⟩,⟨1,403,4⟩,⟨1,404,5⟩,⟨1,405,6⟩,⟨1,406,7⟩,⟨1,407,8⟩,⟨1,408,9⟩,⟨1,409,10⟩,⟨1,410,11⟩,⟨1,411,12⟩,⟨1,412,13⟩,⟨1,413,14⟩,⟨1,414,15⟩,⟨1,415,15⟩,⟨1,416,15⟩,⟨1,417,15⟩,⟨1,418,15⟩,⟨1,419,15⟩,⟨1,420,15⟩,⟨1,421,15⟩,⟨1,422,15⟩,⟨1,423,15⟩,⟨1,424,15⟩,⟨1,425,15⟩,⟨1,426,15⟩,⟨1,427,15⟩,⟨1,428,15⟩,⟨1,429,15⟩,⟨1,430,15⟩,⟨1,431,14⟩,⟨1,432,13⟩,⟨1,433,12⟩,⟨1,434,11⟩,⟨1,435,10⟩,⟨1,436,9⟩,⟨1,437,8⟩,⟨1,438,7⟩,⟨1,439,6⟩,⟨1,440,5⟩,⟨1,441,4⟩,⟨1,442,3⟩,⟨1,443,2⟩,⟨1,444,1⟩])
def ex24:List Arv × List Cnt:=([⟨0,300,0,0,-1,0⟩,⟨1,400,0,300,0,300⟩,⟨1,401,0,300,0,300⟩,⟨1,402,0,300,0,300⟩,⟨1,403,0,300,0,300⟩,⟨1,404,0,300,0,300⟩,⟨1,405,0,300,0,300⟩,⟨1,406,0,300,0,300⟩,⟨1,407,0,300,0,300⟩,⟨1,408,0,300,0,300⟩,⟨1,409,0,300,0,300⟩,⟨1,410,0,300,0,300⟩,⟨1,411,0,300,0,300⟩,⟨1,412,0,300,0,300⟩,⟨1,413,0,300,0,300⟩,⟨1,414,0,300,0,300⟩,⟨1,415,0,300,0,300⟩,⟨1,416,0,300,0,300⟩,⟨1,417,0,300,0,300⟩,⟨1,418,0,300,0,300⟩,⟨1,419,0,300,0,300⟩,⟨1,420,0,300,0,300⟩,⟨2,492,1,400,1,420⟩,⟨2,493,1,400,1,420⟩,⟨2,494,1,400,1,420⟩,⟨2,495,1,400,1,420⟩,⟨2,496,1,400,1,420⟩,⟨2,497,1,400,1,420⟩,⟨2,498,1,400,1,420⟩,⟨2,499,1,400,1,420⟩,⟨2,501,1,400,1,420⟩,⟨2,502,1,400,1,420⟩,⟨2,503,1,400,1,420⟩,⟨2,504,1,400,1,420⟩,⟨2,505,1,400,1,420⟩,⟨2,506,1,400,1,420⟩,⟨2,507,1,400,1,420⟩,⟨2,508,1,400,1,420⟩,⟨2,509,1,400,1,420⟩,⟨2,510,1,400,1,420⟩,⟨2,511,1,400,1,420⟩,⟨2,512,1,400,1,420⟩,⟨2,513,1,400,1,420⟩,⟨2,514,1,400,1,420⟩,⟨2,515,1,400,1,420⟩,⟨2,516,1,400,1,420⟩,⟨2,517,1,400,1,420⟩,⟨2,518,1,400,1,420⟩,⟨2,519,1,400,1,420⟩,⟨2,520,1,400,1,420⟩,⟨2,521,1,400,1,420⟩,⟨2,522,1,400,1,420⟩,⟨2,523,1,400,1,420⟩,⟨2,524,1,400,1,420⟩,⟨2,525,1,400,1,420⟩,⟨2,526,1,400,1,420⟩,⟨2,527,1,400,1,420⟩,⟨2,528,1,400,1,420⟩,⟨2,529,1,400,1,420⟩,⟨2,530,1,400,1,420⟩,⟨2,531,1,400,1,420⟩,⟨2,532,1,400,1,420⟩,⟨2,533,1,400,1,420⟩,⟨2,534,1,400,1,420⟩,⟨2,535,1,400,1,420⟩,⟨2,536,1,400,1,420⟩,⟨2,537,1,400,1,420⟩,⟨2,538,1,400,1,420⟩,⟨2,539,1,400,1,420⟩,⟨2,540,1,400,1,420⟩,⟨2,541,1,400,1,420⟩,⟨2,542,1,400,1,420⟩,⟨2,543,1,400,1,420⟩,⟨2,544,1,400,1,420⟩,⟨2,545,1,400,1,420⟩,⟨2,546,1,400,1,420⟩,⟨2,547,1,400,1,420⟩,⟨2,548,1,400,1,420⟩,⟨2,549,1,400,1,420⟩,⟨2,550,1,400,1,420⟩,⟨2,551,1,400,1,420⟩,⟨2,552,1,400,1,420⟩,⟨2,553,1,400,1,420⟩,⟨2,554,1,400,1,420⟩,⟨2,555,1,400,1,420⟩,⟨2,556,1,400,1,421⟩,⟨2,557,1,400,1,422⟩,⟨2,558,1,400,1,423⟩,⟨2,559,1,400,1,424⟩,⟨3,552,2,492,2,492⟩,⟨3,553,2,492,2,493⟩,⟨3,554,2,492,2,494⟩,⟨3,555,2,492,2,495⟩,⟨3,556,2,492,2,496⟩,⟨3,557,2,492,2,497⟩,⟨3,558,2,492,2,498⟩,⟨3,559,2,492,2,499⟩],[⟨0,300,1⟩,⟨0,301,1⟩,⟨0,302,1⟩,⟨0,303,1⟩,⟨0,304,1⟩,⟨0,305,1⟩,⟨0,306,1⟩,⟨0,307,1⟩,⟨0,308,1⟩,⟨0,309,1⟩,⟨0,310,1⟩,⟨0,311,1⟩,⟨0,312,1⟩,⟨0,313,1⟩,⟨0,314,1⟩,⟨0,315,1⟩,⟨0,316,1⟩,⟨0,317,1⟩,⟨0,318,1⟩,⟨0,319,1⟩,⟨0,320,1⟩,⟨0,321,1⟩,⟨0,322,1⟩,⟨0,323,1⟩,⟨0,324,1⟩,⟨0,325,1⟩,⟨0,326,1⟩,⟨0,327,1⟩,⟨0,328,1⟩,⟨0,329,1⟩,⟨0,330,1⟩,⟨1,400,1⟩,⟨1,401,2⟩,⟨1,402,3⟩,⟨1,403,4⟩,⟨1,404,5⟩,⟨1,405,6⟩,⟨1,406,7⟩,⟨1,407,8⟩,⟨1,408,9⟩,⟨1,409,10⟩,⟨1,410,11⟩,⟨1,411,12⟩,⟨1,412,13⟩,⟨1,413,14⟩,⟨1,414,15⟩,⟨1,415,16⟩,⟨1,416,17⟩,⟨1,417,18⟩,⟨1,418,19⟩,⟨1,419,20⟩,⟨1,420,21⟩,⟨1,421,21⟩,⟨1,422,21⟩,⟨1,423,21⟩,⟨1,424,21⟩,⟨1,425,21⟩,⟨1,426,21⟩,⟨1,427,21⟩,⟨1,428,21⟩,⟨1,429,21⟩,⟨1,430,21⟩,⟨1,431,20⟩,⟨1,432,19⟩,⟨1,433,18⟩,⟨1,434,17⟩,⟨1,435,16⟩,⟨1,436,15⟩,⟨1,437,14⟩,⟨1,438,13⟩,⟨1,439,12⟩,⟨1,440,11⟩,⟨1,441,10⟩,⟨1,442,9⟩,⟨1,443,8⟩,⟨1,444,7⟩,⟨1,445,6⟩,⟨1,446,5⟩,⟨1,447,4⟩,⟨1,448,3⟩,⟨1,449,2⟩,⟨1,450,1⟩,⟨2,492,1⟩,⟨2,493,2⟩,⟨2,494,2⟩,⟨2,495,2⟩,⟨2,496,2⟩,⟨2,497,2⟩,⟨2,498,2⟩,⟨2,499,2⟩])
def ex32:List Arv × List Cnt:=([⟨0,300,0,0,-1,0⟩,⟨1,400,0,300,0,300⟩,⟨1,401,0,300,0,300⟩,⟨1,402,0,300,0,300⟩,⟨1,403,0,300,0,300⟩,⟨1,404,0,300,0,300⟩,⟨1,405,0,300,0,300⟩,⟨1,406,0,300,0,300⟩,⟨1,407,0,300,0,300⟩,⟨1,408,0,300,0,300⟩,⟨1,409,0,300,0,300⟩,⟨1,410,0,300,0,300⟩,⟨1,411,0,300,0,300⟩,⟨1,412,0,300,0,300⟩,⟨1,413,0,300,0,300⟩,⟨1,414,0,300,0,300⟩,⟨1,415,0,300,0,300⟩,⟨1,416,0,300,0,300⟩,⟨1,417,0,300,0,300⟩,⟨1,418,0,300,0,300⟩,⟨1,419,0,300,0,300⟩,⟨1,420,0,300,0,300⟩,⟨2,492,1,400,1,420⟩,⟨2,493,1,400,1,420⟩,⟨2,494,1,400,1,420⟩,⟨2,495,1,400,1,420⟩,⟨2,496,1,400,1,420⟩,⟨2,497,1,400,1,420⟩,⟨2,498,1,400,1,420⟩,⟨2,499,1,400,1,420⟩,⟨2,501,1,400,1,420⟩,⟨2,502,1,400,1,420⟩,⟨2,503,1,400,1,420⟩,⟨2,504,1,400,1,420⟩,⟨2,505,1,400,1,420⟩,⟨2,506,1,400,1,420⟩,⟨2,507,1,400,1,420⟩,⟨2,508,1,400,1,420⟩,⟨2,509,1,400,1,420⟩,⟨2,510,1,400,1,420⟩,⟨2,511,1,400,1,420⟩,⟨2,512,1,400,1,420⟩,⟨2,513,1,400,1,420⟩,⟨2,514,1,400,1,420⟩,⟨2,515,1,400,1,420⟩,⟨2,516,1,400,1,420⟩,⟨2,517,1,400,1,420⟩,⟨2,518,1,400,1,420⟩,⟨2,519,1,400,1,420⟩,⟨2,520,1,400,1,420⟩,⟨2,521,1,400,1,420⟩,⟨2,522,1,400,1,420⟩,⟨2,523,1,400,1,420⟩,⟨2,524,1,400,1,420⟩,⟨2,525,1,400,1,420⟩,⟨2,526,1,400,1,420⟩,⟨2,527,1,400,1,420⟩,⟨2,528,1,400,1,420⟩,⟨2,529,1,400,1,420⟩,⟨2,530,1,400,1,420⟩,⟨2,531,1,400,1,420⟩,⟨2,532,1,400,1,420⟩,⟨2,533,1,400,1,420⟩,⟨2,534,1,400,1,420⟩,⟨2,535,1,400,1,420⟩,⟨2,536,1,400,1,420⟩,⟨2,537,1,400,1,420⟩,⟨2,538,1,400,1,420⟩,⟨2,539,1,400,1,420⟩,⟨2,540,1,400,1,420⟩,⟨2,541,1,400,1,420⟩,⟨2,542,1,400,1,420⟩,⟨2,543,1,400,1,420⟩,⟨2,544,1,400,1,420⟩,⟨2,545,1,400,1,420⟩,⟨2,546,1,400,1,420⟩,⟨2,547,1,400,1,420⟩,⟨2,548,1,400,1,420⟩,⟨2,549,1,400,1,420⟩,⟨2,550,1,400,1,420⟩,⟨2,551,1,400,1,420⟩,⟨2,552,1,400,1,420⟩,⟨2,553,1,400,1,420⟩,⟨2,554,1,400,1,420⟩,⟨2,555,1,400,1,420⟩,⟨2,556,1,400,1,421⟩,⟨2,557,1,400,1,422⟩,⟨2,558,1,400,1,423⟩,⟨2,559,1,400,1,424⟩,⟨3,552,2,492,2,492⟩,⟨3,553,2,492,2,493⟩,⟨3,554,2,492,2,494⟩,⟨3,555,2,492,2,495⟩,⟨3,556,2,492,2,496⟩,⟨3,557,2,492,2,497⟩,⟨3,558,2,492,2,498⟩,⟨3,559,2,492,2,499⟩],[⟨0,300,1⟩,⟨0,301,1⟩,⟨0,302,1⟩,⟨0,303,1⟩,⟨0,304,1⟩,⟨0,305,1⟩,⟨0,306,1⟩,⟨0,307,1⟩,⟨0,308,1⟩,⟨0,309,1⟩,⟨0,310,1⟩,⟨0,311,1⟩,⟨0,312,1⟩,⟨0,313,1⟩,⟨0,314,1⟩,⟨0,315,1⟩,⟨0,316,1⟩,⟨0,317,1⟩,⟨0,318,1⟩,⟨0,319,1⟩,⟨0,320,1⟩,⟨0,321,1⟩,⟨0,322,1⟩,⟨0,323,1⟩,⟨0,324,1⟩,⟨0,325,1⟩,⟨0,326,1⟩,⟨0,327,1⟩,⟨0,328,1⟩,⟨0,329,1⟩,⟨0,330,1⟩,⟨1,400,1⟩,⟨1,401,2⟩,⟨1,402,3⟩,⟨1,403,4⟩,⟨1,404,5⟩,⟨1,405,6⟩,⟨1,406,7⟩,⟨1,407,8⟩,⟨1,408,9⟩,⟨1,409,10⟩,⟨1,410,11⟩,⟨1,411,12⟩,⟨1,412,13⟩,⟨1,413,14⟩,⟨1,414,15⟩,⟨1,415,16⟩,⟨1,416,17⟩,⟨1,417,18⟩,⟨1,418,19⟩,⟨1,419,20⟩,⟨1,420,21⟩,⟨1,421,21⟩,⟨1,422,21⟩,⟨1,423,21⟩,⟨1,424,21⟩,⟨1,425,21⟩,⟨1,426,21⟩,⟨1,427,21⟩,⟨1,428,21⟩,⟨1,429,21⟩,⟨1,430,21⟩,⟨1,431,20⟩,⟨1,432,19⟩,⟨1,433,18⟩,⟨1,434,17⟩,⟨1,435,16⟩,⟨1,436,15⟩,⟨1,437,14⟩,⟨1,438,13⟩,⟨1,439,12⟩,⟨1,440,11⟩,⟨1,441,10⟩,⟨1,442,9⟩,⟨1,443,8⟩,⟨1,444,7⟩,⟨1,445,6⟩,⟨1,446,5⟩,⟨1,447,4⟩,⟨1,448,3⟩,⟨1,449,2⟩,⟨1,450,1⟩,⟨2,492,1⟩,⟨2,493,2⟩,⟨2,494,3⟩,⟨2,495,4⟩,⟨2,496,5⟩,⟨2,497,6⟩,⟨2,498,7⟩,⟨2,499,8⟩,⟨2,501,1⟩,⟨2,502,2⟩,⟨2,503,2⟩,⟨2,504,2⟩,⟨2,505,2⟩,⟨2,506,2⟩,⟨2,507,2⟩,⟨2,508,2⟩,⟨2,509,2⟩,⟨2,510,2⟩,⟨2,511,2⟩,⟨2,512,2⟩,⟨2,513,2⟩,⟨2,514,2⟩,⟨2,515,2⟩,⟨2,516,2⟩,⟨2,517,2⟩,⟨2,518,2⟩,⟨2,519,2⟩,⟨2,520,2⟩,⟨2,521,2⟩,⟨2,522,2⟩,⟨2,523,2⟩,⟨2,524,2⟩,⟨2,525,2⟩,⟨2,526,2⟩,⟨2,527,2⟩,⟨2,528,2⟩,⟨2,529,2⟩,⟨2,530,2⟩,⟨2,531,2⟩,⟨2,532,1⟩])
def ex40:List Arv × List Cnt:=([⟨0,300,0,0,-1,0⟩,⟨1,400,0,300,0,300⟩,⟨1,401,0,300,0,300⟩,⟨1,402,0,300,0,300⟩,⟨1,403,0,300,0,300⟩,⟨1,404,0,300,0,300⟩,⟨1,405,0,300,0,300⟩,⟨1,406,0,300,0,300⟩,⟨1,407,0,300,0,300⟩,⟨1,408,0,300,0,300⟩,⟨1,409,0,300,0,300⟩,⟨1,410,0,300,0,300⟩,⟨1,411,0,300,0,300⟩,⟨1,412,0,300,0,300⟩,⟨1,413,0,300,0,300⟩,⟨1,414,0,300,0,300⟩,⟨1,415,0,300,0,300⟩,⟨1,416,0,300,0,300⟩,⟨1,417,0,300,0,300⟩,⟨1,418,0,300,0,300⟩,⟨1,419,0,300,0,300⟩,⟨1,420,0,300,0,300⟩,⟨2,492,1,400,1,420⟩,⟨2,493,1,400,1,420⟩,⟨2,494,1,400,1,420⟩,⟨2,495,1,400,1,420⟩,⟨2,496,1,400,1,420⟩,⟨2,497,1,400,1,420⟩,⟨2,498,1,400,1,420⟩,⟨2,499,1,400,1,420⟩,⟨2,501,1,400,1,420⟩,⟨2,502,1,400,1,420⟩,⟨2,503,1,400,1,420⟩,⟨2,504,1,400,1,420⟩,⟨2,505,1,400,1,420⟩,⟨2,506,1,400,1,420⟩,⟨2,507,1,400,1,420⟩,⟨2,508,1,400,1,420⟩,⟨2,509,1,400,1,420⟩,⟨2,510,1,400,1,420⟩,⟨2,511,1,400,1,420⟩,⟨2,512,1,400,1,420⟩,⟨2,513,1,400,1,420⟩,⟨2,514,1,400,1,420⟩,⟨2,515,1,400,1,420⟩,⟨2,516,1,400,1,420⟩,⟨2,517,1,400,1,420⟩,⟨2,518,1,400,1,420⟩,⟨2,519,1,400,1,420⟩,⟨2,520,1,400,1,420⟩,⟨2,521,1,400,1,420⟩,⟨2,522,1,400,1,420⟩,⟨2,523,1,400,1,420⟩,⟨2,524,1,400,1,420⟩,⟨2,525,1,400,1,420⟩,⟨2,526,1,400,1,420⟩,⟨2,527,1,400,1,420⟩,⟨2,528,1,400,1,420⟩,⟨2,529,1,400,1,420⟩,⟨2,530,1,400,1,420⟩,⟨2,531,1,400,1,420⟩,⟨2,532,1,400,1,420⟩,⟨2,533,1,400,1,420⟩,⟨2,534,1,400,1,420⟩,⟨2,535,1,400,1,420⟩,⟨2,536,1,400,1,420⟩,⟨2,537,1,400,1,420⟩,⟨2,538,1,400,1,420⟩,⟨2,539,1,400,1,420⟩,⟨2,540,1,400,1,420⟩,⟨2,541,1,400,1,420⟩,⟨2,542,1,400,1,420⟩,⟨2,543,1,400,1,420⟩,⟨2,544,1,400,1,420⟩,⟨2,545,1,400,1,420⟩,⟨2,546,1,400,1,420⟩,⟨2,547,1,400,1,420⟩,⟨2,548,1,400,1,420⟩,⟨2,549,1,400,1,420⟩,⟨2,550,1,400,1,420⟩,⟨2,551,1,400,1,420⟩,⟨2,552,1,400,1,420⟩,⟨2,553,1,400,1,420⟩,⟨2,554,1,400,1,420⟩,⟨2,555,1,400,1,420⟩,⟨2,556,1,400,1,421⟩,⟨2,557,1,400,1,422⟩,⟨2,558,1,400,1,423⟩,⟨2,559,1,400,1,424⟩,⟨3,552,2,492,2,492⟩,⟨3,553,2,492,2,493⟩,⟨3,554,2,492,2,494⟩,⟨3,555,2,492,2,495⟩,⟨3,556,2,492,2,496⟩,⟨3,557,2,492,2,497⟩,⟨3,558,2,492,2,498⟩,⟨3,559,2,492,2,499⟩],[⟨0,300,1⟩,⟨0,301,1⟩,⟨0,302,1⟩,⟨0,303,1⟩,⟨0,304,1⟩,⟨0,305,1⟩,⟨0,306,1⟩,⟨0,307,1⟩,⟨0,308,1⟩,⟨0,309,1⟩,⟨0,310,1⟩,⟨0,311,1⟩,⟨0,312,1⟩,⟨0,313,1⟩,⟨0,314,1⟩,⟨0,315,1⟩,⟨0,316,1⟩,⟨0,317,1⟩,⟨0,318,1⟩,⟨0,319,1⟩,⟨0,320,1⟩,⟨0,321,1⟩,⟨0,322,1⟩,⟨0,323,1⟩,⟨0,324,1⟩,⟨0,325,1⟩,⟨0,326,1⟩,⟨0,327,1⟩,⟨0,328,1⟩,⟨0,329,1⟩,⟨0,330,1⟩,⟨1,400,1⟩,⟨1,401,2⟩,⟨1,402,3⟩,⟨1,403,4⟩,⟨1,404,5⟩,⟨1,405,6⟩,⟨1,406,7⟩,⟨1,407,8⟩,⟨1,408,9⟩,⟨1,409,10⟩,⟨1,410,11⟩,⟨1,411,12⟩,⟨1,412,13⟩,⟨1,413,14⟩,⟨1,414,15⟩,⟨1,415,16⟩,⟨1,416,17⟩,⟨1,417,18⟩,⟨1,418,19⟩,⟨1,419,20⟩,⟨1,420,21⟩,⟨1,421,21⟩,⟨1,422,21⟩,⟨1,423,21⟩,⟨1,424,21⟩,⟨1,425,21⟩,⟨1,426,21⟩,⟨1,427,21⟩,⟨1,428,21⟩,⟨1,429,21⟩,⟨1,430,21⟩,⟨1,431,20⟩,⟨1,432,19⟩,⟨1,433,18⟩,⟨1,434,17⟩,⟨1,435,16⟩,⟨1,436,15⟩,⟨1,437,14⟩,⟨1,438,13⟩,⟨1,439,12⟩,⟨1,440,11⟩,⟨1,441,10⟩,⟨1,442,9⟩,⟨1,443,8⟩,⟨1,444,7⟩,⟨1,445,6⟩,⟨1,446,5⟩,⟨1,447,4⟩,⟨1,448,3⟩,⟨1,449,2⟩,⟨1,450,1⟩,⟨2,492,1⟩,⟨2,493,2⟩,⟨2,494,3⟩,⟨2,495,4⟩,⟨2,496,5⟩,⟨2,497,6⟩,⟨2,498,7⟩,⟨2,499,8⟩,⟨2,501,1⟩,⟨2,502,2⟩,⟨2,503,3⟩,⟨2,504,4⟩,⟨2,505,5⟩,⟨2,506,6⟩,⟨2,507,7⟩,⟨2,508,8⟩,⟨2,509,9⟩,⟨2,510,10⟩,⟨2,511,10⟩,⟨2,512,10⟩,⟨2,513,10⟩,⟨2,514,10⟩,⟨2,515,10⟩,⟨2,516,10⟩,⟨2,517,10⟩,⟨2,518,10⟩,⟨2,519,10⟩,⟨2,520,10⟩,⟨2,521,10⟩,⟨2,522,10⟩,⟨2,523,10⟩,⟨2,524,10⟩,⟨2,525,10⟩,⟨2,526,10⟩,⟨2,527,10⟩,⟨2,528,10⟩,⟨2,529,10⟩,⟨2,530,10⟩,⟨2,531,10⟩,⟨2,532,9⟩,⟨2,533,8⟩,⟨2,534,7⟩,⟨2,535,6⟩,⟨2,536,5⟩,⟨2,537,4⟩,⟨2,538,3⟩,⟨2,539,2⟩,⟨2,540,1⟩])
def ex48:List Arv × List Cnt:=([⟨0,300,0,0,-1,0⟩,⟨1,400,0,300,0,300⟩,⟨1,401,0,300,0,300⟩,⟨1,402,0,300,0,300⟩,⟨1,403,0,300,0,300⟩,⟨1,404,0,300,0,300⟩,⟨1,405,0,300,0,300⟩,⟨1,406,0,300,0,300⟩,⟨1,407,0,300,0,300⟩,⟨1,408,0,300,0,300⟩,⟨1,409,0,300,0,300⟩,⟨1,410,0,300,0,300⟩,⟨1,411,0,300,0,300⟩,⟨1,412,0,300,0,300⟩,⟨1,413,0,300,0,300⟩,⟨1,414,0,300,0,300⟩,⟨1,415,0,300,0,300⟩,⟨1,416,0,300,0,300⟩,⟨1,417,0,300,0,300⟩,⟨1,418,0,300,0,300⟩,⟨1,419,0,300,0,300⟩,⟨1,420,0,300,0,300⟩,⟨2,492,1,400,1,420⟩,⟨2,493,1,400,1,420⟩,⟨2,494,1,400,1,420⟩,⟨2,495,1,400,1,420⟩,⟨2,496,1,400,1,420⟩,⟨2,497,1,400,1,420⟩,⟨2,498,1,400,1,420⟩,⟨2,499,1,400,1,420⟩,⟨2,501,1,400,1,420⟩,⟨2,502,1,400,1,420⟩,⟨2,503,1,400,1,420⟩,⟨2,504,1,400,1,420⟩,⟨2,505,1,400,1,420⟩,⟨2,506,1,400,1,420⟩,⟨2,507,1,400,1,420⟩,⟨2,508,1,400,1,420⟩,⟨2,509,1,400,1,420⟩,⟨2,510,1,400,1,420⟩,⟨2,511,1,400,1,420⟩,⟨2,512,1,400,1,420⟩,⟨2,513,1,400,1,420⟩,⟨2,514,1,400,1,420⟩,⟨2,515,1,400,1,420⟩,⟨2,516,1,400,1,420⟩,⟨2,517,1,400,1,420⟩,⟨2,518,1,400,1,420⟩,⟨2,519,1,400,1,420⟩,⟨2,520,1,400,1,420⟩,⟨2,521,1,400,1,420⟩,⟨2,522,1,400,1,420⟩,⟨2,523,1,400,1,420⟩,⟨2,524,1,400,1,420⟩,⟨2,525,1,400,1,420⟩,⟨2,526,1,400,1,420⟩,⟨2,527,1,400,1,420⟩,⟨2,528,1,400,1,420⟩,⟨2,529,1,400,1,420⟩,⟨2,530,1,400,1,420⟩,⟨2,531,1,400,1,420⟩,⟨2,532,1,400,1,420⟩,⟨2,533,1,400,1,420⟩,⟨2,534,1,400,1,420⟩,⟨2,535,1,400,1,420⟩,⟨2,536,1,400,1,420⟩,⟨2,537,1,400,1,420⟩,⟨2,538,1,400,1,420⟩,⟨2,539,1,400,1,420⟩,⟨2,540,1,400,1,420⟩,⟨2,541,1,400,1,420⟩,⟨2,542,1,400,1,420⟩,⟨2,543,1,400,1,420⟩,⟨2,544,1,400,1,420⟩,⟨2,545,1,400,1,420⟩,⟨2,546,1,400,1,420⟩,⟨2,547,1,400,1,420⟩,⟨2,548,1,400,1,420⟩,⟨2,549,1,400,1,420⟩,⟨2,550,1,400,1,420⟩,⟨2,551,1,400,1,420⟩,⟨2,552,1,400,1,420⟩,⟨2,553,1,400,1,420⟩,⟨2,554,1,400,1,420⟩,⟨2,555,1,400,1,420⟩,⟨2,556,1,400,1,421⟩,⟨2,557,1,400,1,422⟩,⟨2,558,1,400,1,423⟩,⟨2,559,1,400,1,424⟩,⟨3,552,2,492,2,492⟩,⟨3,553,2,492,2,493⟩,⟨3,554,2,492,2,494⟩,⟨3,555,2,492,2,495⟩,⟨3,556,2,492,2,496⟩,⟨3,557,2,492,2,497⟩,⟨3,558,2,492,2,498⟩,⟨3,559,2,492,2,499⟩],[⟨0,300,1⟩,⟨0,301,1⟩,⟨0,302,1⟩,⟨0,303,1⟩,⟨0,304,1⟩,⟨0,305,1⟩,⟨0,306,1⟩,⟨0,307,1⟩,⟨0,308,1⟩,⟨0,309,1⟩,⟨0,310,1⟩,⟨0,311,1⟩,⟨0,312,1⟩,⟨0,313,1⟩,⟨0,314,1⟩,⟨0,315,1⟩,⟨0,316,1⟩,⟨0,317,1⟩,⟨0,318,1⟩,⟨0,319,1⟩,⟨0,320,1⟩,⟨0,321,1⟩,⟨0,322,1⟩,⟨0,323,1⟩,⟨0,324,1⟩,⟨0,325,1⟩,⟨0,326,1⟩,⟨0,327,1⟩,⟨0,328,1⟩,⟨0,329,1⟩,⟨0,330,1⟩,⟨1,400,1⟩,⟨1,401,2⟩,⟨1,402,3⟩,⟨1,403,4⟩,⟨1,404,5⟩,⟨1,405,6⟩,⟨1,406,7⟩,⟨1,407,8⟩,⟨1,408,9⟩,⟨1,409,10⟩,⟨1,410,11⟩,⟨1,411,12⟩,⟨1,412,13⟩,⟨1,413,14⟩,⟨1,414,15⟩,⟨1,415,16⟩,⟨1,416,17⟩,⟨1,417,18⟩,⟨1,418,19⟩,⟨1,419,20⟩,⟨1,420,21⟩,⟨1,421,21⟩,⟨1,422,21⟩,⟨1,423,21⟩,⟨1,424,21⟩,⟨1,425,21⟩,⟨1,426,21⟩,⟨1,427,21⟩,⟨1,428,21⟩,⟨1,429,21⟩,⟨1,430,21⟩,⟨1,431,20⟩,⟨1,432,19⟩,⟨1,433,18⟩,⟨1,434,17⟩,⟨1,435,16⟩,⟨1,436,15⟩,⟨1,437,14⟩,⟨1,438,13⟩,⟨1,439,12⟩,⟨1,440,11⟩,⟨1,441,10⟩,⟨1,442,9⟩,⟨1,443,8⟩,⟨1,444,7⟩,⟨1,445,6⟩,⟨1,446,5⟩,⟨1,447,4⟩,⟨1,448,3⟩,⟨1,449,2⟩,⟨1,450,1⟩,⟨2,492,1⟩,⟨2,493,2⟩,⟨2,494,3⟩,⟨2,495,4⟩,⟨2,496,5⟩,⟨2,497,6⟩,⟨2,498,7⟩,⟨2,499,8⟩,⟨2,501,1⟩,⟨2,502,2⟩,⟨2,503,3⟩,⟨2,504,4⟩,⟨2,505,5⟩,⟨2,506,6⟩,⟨2,507,7⟩,⟨2,508,8⟩,⟨2,509,9⟩,⟨2,510,10⟩,⟨2,511,11⟩,⟨2,512,12⟩,⟨2,513,13⟩,⟨2,514,14⟩,⟨2,515,15⟩,⟨2,516,16⟩,⟨2,517,17⟩,⟨2,518,18⟩,⟨2,519,18⟩,⟨2,520,18⟩,⟨2,521,18⟩,⟨2,522,18⟩,⟨2,523,18⟩,⟨2,524,18⟩,⟨2,525,18⟩,⟨2,526,18⟩,⟨2,527,18⟩,⟨2,528,18⟩,⟨2,529,18⟩,⟨2,530,18⟩,⟨2,531,18⟩,⟨2,532,17⟩,⟨2,533,16⟩,⟨2,534,15⟩,⟨2,535,14⟩,⟨2,536,13⟩,⟨2,537,12⟩,⟨2,538,11⟩,⟨2,539,10⟩,⟨2,540,9⟩,⟨2,541,8⟩,⟨2,542,7⟩,⟨2,543,6⟩,⟨2,544,5⟩,⟨2,545,4⟩,⟨2,546,3⟩,⟨2,547,2⟩,⟨2,548,1⟩])
def ex56:List Arv × List Cnt:=([⟨0,300,0,0,-1,0⟩,⟨1,400,0,300,0,300⟩,⟨1,401,0,300,0,300⟩,⟨1,402,0,300,0,300⟩,⟨1,403,0,300,0,300⟩,⟨1,404,0,300,0,300⟩,⟨1,405,0,300,0,300⟩,⟨1,406,0,300,0,300⟩,⟨1,407,0,300,0,300⟩,⟨1,408,0,300,0,300⟩,⟨1,409,0,300,0,300⟩,⟨1,410,0,300,0,300⟩,⟨1,411,0,300,0,300⟩,⟨1,412,0,300,0,300⟩,⟨1,413,0,300,0,300⟩,⟨1,414,0,300,0,300⟩,⟨1,415,0,300,0,300⟩,⟨1,416,0,300,0,300⟩,⟨1,417,0,300,0,300⟩,⟨1,418,0,300,0,300⟩,⟨1,419,0,300,0,300⟩,⟨1,420,0,300,0,300⟩,⟨2,492,1,400,1,420⟩,⟨2,493,1,400,1,420⟩,⟨2,494,1,400,1,420⟩,⟨2,495,1,400,1,420⟩,⟨2,496,1,400,1,420⟩,⟨2,497,1,400,1,420⟩,⟨2,498,1,400,1,420⟩,⟨2,499,1,400,1,420⟩,⟨2,501,1,400,1,420⟩,⟨2,502,1,400,1,420⟩,⟨2,503,1,400,1,420⟩,⟨2,504,1,400,1,420⟩,⟨2,505,1,400,1,420⟩,⟨2,506,1,400,1,420⟩,⟨2,507,1,400,1,420⟩,⟨2,508,1,400,1,420⟩,⟨2,509,1,400,1,420⟩,⟨2,510,1,400,1,420⟩,⟨2,511,1,400,1,420⟩,⟨2,512,1,400,1,420⟩,⟨2,513,1,400,1,420⟩,⟨2,514,1,400,1,420⟩,⟨2,515,1,400,1,420⟩,⟨2,516,1,400,1,420⟩,⟨2,517,1,400,1,420⟩,⟨2,518,1,400,1,420⟩,⟨2,519,1,400,1,420⟩,⟨2,520,1,400,1,420⟩,⟨2,521,1,400,1,420⟩,⟨2,522,1,400,1,420⟩,⟨2,523,1,400,1,420⟩,⟨2,524,1,400,1,420⟩,⟨2,525,1,400,1,420⟩,⟨2,526,1,400,1,420⟩,⟨2,527,1,400,1,420⟩,⟨2,528,1,400,1,420⟩,⟨2,529,1,400,1,420⟩,⟨2,530,1,400,1,420⟩,⟨2,531,1,400,1,420⟩,⟨2,532,1,400,1,420⟩,⟨2,533,1,400,1,420⟩,⟨2,534,1,400,1,420⟩,⟨2,535,1,400,1,420⟩,⟨2,536,1,400,1,420⟩,⟨2,537,1,400,1,420⟩,⟨2,538,1,400,1,420⟩,⟨2,539,1,400,1,420⟩,⟨2,540,1,400,1,420⟩,⟨2,541,1,400,1,420⟩,⟨2,542,1,400,1,420⟩,⟨2,543,1,400,1,420⟩,⟨2,544,1,400,1,420⟩,⟨2,545,1,400,1,420⟩,⟨2,546,1,400,1,420⟩,⟨2,547,1,400,1,420⟩,⟨2,548,1,400,1,420⟩,⟨2,549,1,400,1,420⟩,⟨2,550,1,400,1,420⟩,⟨2,551,1,400,1,420⟩,⟨2,552,1,400,1,420⟩,⟨2,553,1,400,1,420⟩,⟨2,554,1,400,1,420⟩,⟨2,555,1,400,1,420⟩,⟨2,556,1,400,1,421⟩,⟨2,557,1,400,1,422⟩,⟨2,558,1,400,1,423⟩,⟨2,559,1,400,1,424⟩,⟨3,552,2,492,2,492⟩,⟨3,553,2,492,2,493⟩,⟨3,554,2,492,2,494⟩,⟨3,555,2,492,2,495⟩,⟨3,556,2,492,2,496⟩,⟨3,557,2,492,2,497⟩,⟨3,558,2,492,2,498⟩,⟨3,559,2,492,2,499⟩],[⟨0,300,1⟩,⟨0,301,1⟩,⟨0,302,1⟩,⟨0,303,1⟩,⟨0,304,1⟩,⟨0,305,1⟩,⟨0,306,1⟩,⟨0,307,1⟩,⟨0,308,1⟩,⟨0,309,1⟩,⟨0,310,1⟩,⟨0,311,1⟩,⟨0,312,1⟩,⟨0,313,1⟩,⟨0,314,1⟩,⟨0,315,1⟩,⟨0,316,1⟩,⟨0,317,1⟩,⟨0,318,1⟩,⟨0,319,1⟩,⟨0,320,1⟩,⟨0,321,1⟩,⟨0,322,1⟩,⟨0,323,1⟩,⟨0,324,1⟩,⟨0,325,1⟩,⟨0,326,1⟩,⟨0,327,1⟩,⟨0,328,1⟩,⟨0,329,1⟩,⟨0,330,1⟩,⟨1,400,1⟩,⟨1,401,2⟩,⟨1,402,3⟩,⟨1,403,4⟩,⟨1,404,5⟩,⟨1,405,6⟩,⟨1,406,7⟩,⟨1,407,8⟩,⟨1,408,9⟩,⟨1,409,10⟩,⟨1,410,11⟩,⟨1,411,12⟩,⟨1,412,13⟩,⟨1,413,14⟩,⟨1,414,15⟩,⟨1,415,16⟩,⟨1,416,17⟩,⟨1,417,18⟩,⟨1,418,19⟩,⟨1,419,20⟩,⟨1,420,21⟩,⟨1,421,21⟩,⟨1,422,21⟩,⟨1,423,21⟩,⟨1,424,21⟩,⟨1,425,21⟩,⟨1,426,21⟩,⟨1,427,21⟩,⟨1,428,21⟩,⟨1,429,21⟩,⟨1,430,21⟩,⟨1,431,20⟩,⟨1,432,19⟩,⟨1,433,18⟩,⟨1,434,17⟩,⟨1,435,16⟩,⟨1,436,15⟩,⟨1,437,14⟩,⟨1,438,13⟩,⟨1,439,12⟩,⟨1,440,11⟩,⟨1,441,10⟩,⟨1,442,9⟩,⟨1,443,8⟩,⟨1,444,7⟩,⟨1,445,6⟩,⟨1,446,5⟩,⟨1,447,4⟩,⟨1,448,3⟩,⟨1,449,2⟩,⟨1,450,1⟩,⟨2,492,1⟩,⟨2,493,2⟩,⟨2,494,3⟩,⟨2,495,4⟩,⟨2,496,5⟩,⟨2,497,6⟩,⟨2,498,7⟩,⟨2,499,8⟩,⟨2,501,1⟩,⟨2,502,2⟩,⟨2,503,3⟩,⟨2,504,4⟩,⟨2,505,5⟩,⟨2,506,6⟩,⟨2,507,7⟩,⟨2,508,8⟩,⟨2,509,9⟩,⟨2,510,10⟩,⟨2,511,11⟩,⟨2,512,12⟩,⟨2,513,13⟩,⟨2,514,14⟩,⟨2,515,15⟩,⟨2,516,16⟩,⟨2,517,17⟩,⟨2,518,18⟩,⟨2,519,19⟩,⟨2,520,20⟩,⟨2,521,21⟩,⟨2,522,22⟩,⟨2,523,23⟩,⟨2,524,24⟩,⟨2,525,25⟩,⟨2,526,26⟩,⟨2,527,26⟩,⟨2,528,26⟩,⟨2,529,26⟩,⟨2,530,26⟩,⟨2,531,26⟩,⟨2,532,25⟩,⟨2,533,24⟩,⟨2,534,23⟩,⟨2,535,22⟩,⟨2,536,21⟩,⟨2,537,20⟩,⟨2,538,19⟩,⟨2,539,18⟩,⟨2,540,17⟩,⟨2,541,16⟩,⟨2,542,15⟩,⟨2,543,14⟩,⟨2,544,13⟩,⟨2,545,12⟩,⟨2,546,11⟩,⟨2,547,10⟩,⟨2,548,9⟩,⟨2,549,8⟩,⟨2,550,7⟩,⟨2,551,6⟩,⟨2,552,5⟩,⟨2,553,4⟩,⟨2,554,3⟩,⟨2,555,2⟩,⟨2,556,1⟩])
def ex64:List Arv × List Cnt:=([⟨0,300,0,0,-1,0⟩,⟨1,400,0,300,0,300⟩,⟨1,401,0,300,0,300⟩,⟨1,402,0,300,0,300⟩,⟨1,403,0,300,0,300⟩,⟨1,404,0,300,0,300⟩,⟨1,405,0,300,0,300⟩,⟨1,406,0,300,0,300⟩,⟨1,407,0,300,0,300⟩,⟨1,408,0,300,0,300⟩,⟨1,409,0,300,0,300⟩,⟨1,410,0,300,0,300⟩,⟨1,411,0,300,0,300⟩,⟨1,412,0,300,0,300⟩,⟨1,413,0,300,0,300⟩,⟨1,414,0,300,0,300⟩,⟨1,415,0,300,0,300⟩,⟨1,416,0,300,0,300⟩,⟨1,417,0,300,0,300⟩,⟨1,418,0,300,0,300⟩,⟨1,419,0,300,0,300⟩,⟨1,420,0,300,0,300⟩,⟨2,492,1,400,1,420⟩,⟨2,493,1,400,1,420⟩,⟨2,494,1,400,1,420⟩,⟨2,495,1,400,1,420⟩,⟨2,496,1,400,1,420⟩,⟨2,497,1,400,1,420⟩,⟨2,498,1,400,1,420⟩,⟨2,499,1,400,1,420⟩,⟨2,501,1,400,1,420⟩,⟨2,502,1,400,1,420⟩,⟨2,503,1,400,1,420⟩,⟨2,504,1,400,1,420⟩,⟨2,505,1,400,1,420⟩,⟨2,506,1,400,1,420⟩,⟨2,507,1,400,1,420⟩,⟨2,508,1,400,1,420⟩,⟨2,509,1,400,1,420⟩,⟨2,510,1,400,1,420⟩,⟨2,511,1,400,1,420⟩,⟨2,512,1,400,1,420⟩,⟨2,513,1,400,1,420⟩,⟨2,514,1,400,1,420⟩,⟨2,515,1,400,1,420⟩,⟨2,516,1,400,1,420⟩,⟨2,517,1,400,1,420⟩,⟨2,518,1,400,1,420⟩,⟨2,519,1,400,1,420⟩,⟨2,520,1,400,1,420⟩,⟨2,521,1,400,1,420⟩,⟨2,522,1,400,1,420⟩,⟨2,523,1,400,1,420⟩,⟨2,524,1,400,1,420⟩,⟨2,525,1,400,1,420⟩,⟨2,526,1,400,1,420⟩,⟨2,527,1,400,1,420⟩,⟨2,528,1,400,1,420⟩,⟨2,529,1,400,1,420⟩,⟨2,530,1,400,1,420⟩,⟨2,531,1,400,1,420⟩,⟨2,532,1,400,1,420⟩,⟨2,533,1,400,1,420⟩,⟨2,534,1,400,1,420⟩,⟨2,535,1,400,1,420⟩,⟨2,536,1,400,1,420⟩,⟨2,537,1,400,1,420⟩,⟨2,538,1,400,1,420⟩,⟨2,539,1,400,1,420⟩,⟨2,540,1,400,1,420⟩,⟨2,541,1,400,1,420⟩,⟨2,542,1,400,1,420⟩,⟨2,543,1,400,1,420⟩,⟨2,544,1,400,1,420⟩,⟨2,545,1,400,1,420⟩,⟨2,546,1,400,1,420⟩,⟨2,547,1,400,1,420⟩,⟨2,548,1,400,1,420⟩,⟨2,549,1,400,1,420⟩,⟨2,550,1,400,1,420⟩,⟨2,551,1,400,1,420⟩,⟨2,552,1,400,1,420⟩,⟨2,553,1,400,1,420⟩,⟨2,554,1,400,1,420⟩,⟨2,555,1,400,1,420⟩,⟨2,556,1,400,1,421⟩,⟨2,557,1,400,1,422⟩,⟨2,558,1,400,1,423⟩,⟨2,559,1,400,1,424⟩,⟨3,552,2,492,2,492⟩,⟨3,553,2,492,2,493⟩,⟨3,554,2,492,2,494⟩,⟨3,555,2,492,2,495⟩,⟨3,556,2,492,2,496⟩,⟨3,557,2,492,2,497⟩,⟨3,558,2,492,2,498⟩,⟨3,559,2,492,2,499⟩],[⟨0,300,1⟩,⟨0,301,1⟩,⟨0,302,1⟩,⟨0,303,1⟩,⟨0,304,1⟩,⟨0,305,1⟩,⟨0,306,1⟩,⟨0,307,1⟩,⟨0,308,1⟩,⟨0,309,1⟩,⟨0,310,1⟩,⟨0,311,1⟩,⟨0,312,1⟩,⟨0,313,1⟩,⟨0,314,1⟩,⟨0,315,1⟩,⟨0,316,1⟩,⟨0,317,1⟩,⟨0,318,1⟩,⟨0,319,1⟩,⟨0,320,1⟩,⟨0,321,1⟩,⟨0,322,1⟩,⟨0,323,1⟩,⟨0,324,1⟩,⟨0,325,1⟩,⟨0,326,1⟩,⟨0,327,1⟩,⟨0,328,1⟩,⟨0,329,1⟩,⟨0,330,1⟩,⟨1,400,1⟩,⟨1,401,2⟩,⟨1,402,3⟩,⟨1,403,4⟩,⟨1,404,5⟩,⟨1,405,6⟩,⟨1,406,7⟩,⟨1,407,8⟩,⟨1,408,9⟩,⟨1,409,10⟩,⟨1,410,11⟩,⟨1,411,12⟩,⟨1,412,13⟩,⟨1,413,14⟩,⟨1,414,15⟩,⟨1,415,16⟩,⟨1,416,17⟩,⟨1,417,18⟩,⟨1,418,19⟩,⟨1,419,20⟩,⟨1,420,21⟩,⟨1,421,21⟩,⟨1,422,21⟩,⟨1,423,21⟩,⟨1,424,21⟩,⟨1,425,21⟩,⟨1,426,21⟩,⟨1,427,21⟩,⟨1,428,21⟩,⟨1,429,21⟩,⟨1,430,21⟩,⟨1,431,20⟩,⟨1,432,19⟩,⟨1,433,18⟩,⟨1,434,17⟩,⟨1,435,16⟩,⟨1,436,15⟩,⟨1,437,14⟩,⟨1,438,13⟩,⟨1,439,12⟩,⟨1,440,11⟩,⟨1,441,10⟩,⟨1,442,9⟩,⟨1,443,8⟩,⟨1,444,7⟩,⟨1,445,6⟩,⟨1,446,5⟩,⟨1,447,4⟩,⟨1,448,3⟩,⟨1,449,2⟩,⟨1,450,1⟩,⟨2,492,1⟩,⟨2,493,2⟩,⟨2,494,3⟩,⟨2,495,4⟩,⟨2,496,5⟩,⟨2,497,6⟩,⟨2,498,7⟩,⟨2,499,8⟩,⟨2,501,1⟩,⟨2,502,2⟩,⟨2,503,3⟩,⟨2,504,4⟩,⟨2,505,5⟩,⟨2,506,6⟩,⟨2,507,7⟩,⟨2,508,8⟩,⟨2,509,9⟩,⟨2,510,10⟩,⟨2,511,11⟩,⟨2,512,12⟩,⟨2,513,13⟩,⟨2,514,14⟩,⟨2,515,15⟩,⟨2,516,16⟩,⟨2,517,17⟩,⟨2,518,18⟩,⟨2,519,19⟩,⟨2,520,20⟩,⟨2,521,21⟩,⟨2,522,22⟩,⟨2,523,23⟩,⟨2,524,24⟩,⟨2,525,25⟩,⟨2,526,26⟩,⟨2,527,27⟩,⟨2,528,28⟩,⟨2,529,29⟩,⟨2,530,30⟩,⟨2,531,31⟩,⟨2,532,31⟩,⟨2,533,31⟩,⟨2,534,31⟩,⟨2,535,30⟩,⟨2,536,29⟩,⟨2,537,28⟩,⟨2,538,27⟩,⟨2,539,26⟩,⟨2,540,25⟩,⟨2,541,24⟩,⟨2,542,23⟩,⟨2,543,22⟩,⟨2,544,21⟩,⟨2,545,20⟩,⟨2,546,19⟩,⟨2,547,18⟩,⟨2,548,17⟩,⟨2,549,16⟩,⟨2,550,15⟩,⟨2,551,14⟩,⟨2,552,13⟩,⟨2,553,12⟩,⟨2,554,11⟩,⟨2,555,10⟩,⟨2,556,9⟩,⟨2,557,8⟩,⟨2,558,7⟩,⟨2,559,6⟩])
def ex72:List Arv × List Cnt:=([⟨0,300,0,0,-1,0⟩,⟨1,400,0,300,0,300⟩,⟨1,401,0,300,0,300⟩,⟨1,402,0,300,0,300⟩,⟨1,403,0,300,0,300⟩,⟨1,404,0,300,0,300⟩,⟨1,405,0,300,0,300⟩,⟨1,406,0,300,0,300⟩,⟨1,407,0,300,0,300⟩,⟨1,408,0,300,0,300⟩,⟨1,409,0,300,0,300⟩,⟨1,410,0,300,0,300⟩,⟨1,411,0,300,0,300⟩,⟨1,412,0,300,0,300⟩,⟨1,413,0,300,0,300⟩,⟨1,414,0,300,0,300⟩,⟨1,415,0,300,0,300⟩,⟨1,416,0,300,0,300⟩,⟨1,417,0,300,0,300⟩,⟨1,418,0,300,0,300⟩,⟨1,419,0,300,0,300⟩,⟨1,420,0,300,0,300⟩,⟨2,492,1,400,1,420⟩,⟨2,493,1,400,1,420⟩,⟨2,494,1,400,1,420⟩,⟨2,495,1,400,1,420⟩,⟨2,496,1,400,1,420⟩,⟨2,497,1,400,1,420⟩,⟨2,498,1,400,1,420⟩,⟨2,499,1,400,1,420⟩,⟨2,501,1,400,1,420⟩,⟨2,502,1,400,1,420⟩,⟨2,503,1,400,1,420⟩,⟨2,504,1,400,1,420⟩,⟨2,505,1,400,1,420⟩,⟨2,506,1,400,1,420⟩,⟨2,507,1,400,1,420⟩,⟨2,508,1,400,1,420⟩,⟨2,509,1,400,1,420⟩,⟨2,510,1,400,1,420⟩,⟨2,511,1,400,1,420⟩,⟨2,512,1,400,1,420⟩,⟨2,513,1,400,1,420⟩,⟨2,514,1,400,1,420⟩,⟨2,515,1,400,1,420⟩,⟨2,516,1,400,1,420⟩,⟨2,517,1,400,1,420⟩,⟨2,518,1,400,1,420⟩,⟨2,519,1,400,1,420⟩,⟨2,520,1,400,1,420⟩,⟨2,521,1,400,1,420⟩,⟨2,522,1,400,1,420⟩,⟨2,523,1,400,1,420⟩,⟨2,524,1,400,1,420⟩,⟨2,525,1,400,1,420⟩,⟨2,526,1,400,1,420⟩,⟨2,527,1,400,1,420⟩,⟨2,528,1,400,1,420⟩,⟨2,529,1,400,1,420⟩,⟨2,530,1,400,1,420⟩,⟨2,531,1,400,1,420⟩,⟨2,532,1,400,1,420⟩,⟨2,533,1,400,1,420⟩,⟨2,534,1,400,1,420⟩,⟨2,535,1,400,1,420⟩,⟨2,536,1,400,1,420⟩,⟨2,537,1,400,1,420⟩,⟨2,538,1,400,1,420⟩,⟨2,539,1,400,1,420⟩,⟨2,540,1,400,1,420⟩,⟨2,541,1,400,1,420⟩,⟨2,542,1,400,1,420⟩,⟨2,543,1,400,1,420⟩,⟨2,544,1,400,1,420⟩,⟨2,545,1,400,1,420⟩,⟨2,546,1,400,1,420⟩,⟨2,547,1,400,1,420⟩,⟨2,548,1,400,1,420⟩,⟨2,549,1,400,1,420⟩,⟨2,550,1,400,1,420⟩,⟨2,551,1,400,1,420⟩,⟨2,552,1,400,1,420⟩,⟨2,553,1,400,1,420⟩,⟨2,554,1,400,1,420⟩,⟨2,555,1,400,1,420⟩,⟨2,556,1,400,1,421⟩,⟨2,557,1,400,1,422⟩,⟨2,558,1,400,1,423⟩,⟨2,559,1,400,1,424⟩,⟨3,552,2,492,2,492⟩,⟨3,553,2,492,2,493⟩,⟨3,554,2,492,2,494⟩,⟨3,555,2,492,2,495⟩,⟨3,556,2,492,2,496⟩,⟨3,557,2,492,2,497⟩,⟨3,558,2,492,2,498⟩,⟨3,559,2,492,2,499⟩],[⟨0,300,1⟩,⟨0,301,1⟩,⟨0,302,1⟩,⟨0,303,1⟩,⟨0,304,1⟩,⟨0,305,1⟩,⟨0,306,1⟩,⟨0,307,1⟩,⟨0,308,1⟩,⟨0,309,1⟩,⟨0,310,1⟩,⟨0,311,1⟩,⟨0,312,1⟩,⟨0,313,1⟩,⟨0,314,1⟩,⟨0,315,1⟩,⟨0,316,1⟩,⟨0,317,1⟩,⟨0,318,1⟩,⟨0,319,1⟩,⟨0,320,1⟩,⟨0,321,1⟩,⟨0,322,1⟩,⟨0,323,1⟩,⟨0,324,1⟩,⟨0,325,1⟩,⟨0,326,1⟩,⟨0,327,1⟩,⟨0,328,1⟩,⟨0,329,1⟩,⟨0,330,1⟩,⟨1,400,1⟩,⟨1,401,2⟩,⟨1,402,3⟩,⟨1,403,4⟩,⟨1,404,5⟩,⟨1,405,6⟩,⟨1,406,7⟩,⟨1,407,8⟩,⟨1,408,9⟩,⟨1,409,10⟩,⟨1,410,11⟩,⟨1,411,12⟩,⟨1,412,13⟩,⟨1,413,14⟩,⟨1,414,15⟩,⟨1,415,16⟩,⟨1,416,17⟩,⟨1,417,18⟩,⟨1,418,19⟩,⟨1,419,20⟩,⟨1,420,21⟩,⟨1,421,21⟩,⟨1,422,21⟩,⟨1,423,21⟩,⟨1,424,21⟩,⟨1,425,21⟩,⟨1,426,21⟩,⟨1,427,21⟩,⟨1,428,21⟩,⟨1,429,21⟩,⟨1,430,21⟩,⟨1,431,20⟩,⟨1,432,19⟩,⟨1,433,18⟩,⟨1,434,17⟩,⟨1,435,16⟩,⟨1,436,15⟩,⟨1,437,14⟩,⟨1,438,13⟩,⟨1,439,12⟩,⟨1,440,11⟩,⟨1,441,10⟩,⟨1,442,9⟩,⟨1,443,8⟩,⟨1,444,7⟩,⟨1,445,6⟩,⟨1,446,5⟩,⟨1,447,4⟩,⟨1,448,3⟩,⟨1,449,2⟩,⟨1,450,1⟩,⟨2,492,1⟩,⟨2,493,2⟩,⟨2,494,3⟩,⟨2,495,4⟩,⟨2,496,5⟩,⟨2,497,6⟩,⟨2,498,7⟩,⟨2,499,8⟩,⟨2,501,1⟩,⟨2,502,2⟩,⟨2,503,3⟩,⟨2,504,4⟩,⟨2,505,5⟩,⟨2,506,6⟩,⟨2,507,7⟩,⟨2,508,8⟩,⟨2,509,9⟩,⟨2,510,10⟩,⟨2,511,11⟩,⟨2,512,12⟩,⟨2,513,13⟩,⟨2,514,14⟩,⟨2,515,15⟩,⟨2,516,16⟩,⟨2,517,17⟩,⟨2,518,18⟩,⟨2,519,19⟩,⟨2,520,20⟩,⟨2,521,21⟩,⟨2,522,22⟩,⟨2,523,23⟩,⟨2,524,24⟩,⟨2,525,25⟩,⟨2,526,26⟩,⟨2,527,27⟩,⟨2,528,28⟩,⟨2,529,29⟩,⟨2,530,30⟩,⟨2,531,31⟩,⟨2,532,31⟩,⟨2,533,31⟩,⟨2,534,31⟩,⟨2,535,31⟩,⟨2,536,31⟩,⟨2,537,31⟩,⟨2,538,31⟩,⟨2,539,31⟩,⟨2,540,31⟩,⟨2,541,31⟩,⟨2,542,31⟩,⟨2,543,30⟩,⟨2,544,29⟩,⟨2,545,28⟩,⟨2,546,27⟩,⟨2,547,26⟩,⟨2,548,25⟩,⟨2,549,24⟩,⟨2,550,23⟩,⟨2,551,22⟩,⟨2,552,21⟩,⟨2,553,20⟩,⟨2,554,19⟩,⟨2,555,18⟩,⟨2,556,17⟩,⟨2,557,16⟩,⟨2,558,15⟩,⟨2,559,14⟩])
def ex80:List Arv × List Cnt:=([⟨0,300,0,0,-1,0⟩,⟨1,400,0,300,0,300⟩,⟨1,401,0,300,0,300⟩,⟨1,402,0,300,0,300⟩,⟨1,403,0,300,0,300⟩,⟨1,404,0,300,0,300⟩,⟨1,405,0,300,0,300⟩,⟨1,406,0,300,0,300⟩,⟨1,407,0,300,0,300⟩,⟨1,408,0,300,0,300⟩,⟨1,409,0,300,0,300⟩,⟨1,410,0,300,0,300⟩,⟨1,411,0,300,0,300⟩,⟨1,412,0,300,0,300⟩,⟨1,413,0,300,0,300⟩,⟨1,414,0,300,0,300⟩,⟨1,415,0,300,0,300⟩,⟨1,416,0,300,0,300⟩,⟨1,417,0,300,0,300⟩,⟨1,418,0,300,0,300⟩,⟨1,419,0,300,0,300⟩,⟨1,420,0,300,0,300⟩,⟨2,492,1,400,1,420⟩,⟨2,493,1,400,1,420⟩,⟨2,494,1,400,1,420⟩,⟨2,495,1,400,1,420⟩,⟨2,496,1,400,1,420⟩,⟨2,497,1,400,1,420⟩,⟨2,498,1,400,1,420⟩,⟨2,499,1,400,1,420⟩,⟨2,501,1,400,1,420⟩,⟨2,502,1,400,1,420⟩,⟨2,503,1,400,1,420⟩,⟨2,504,1,400,1,420⟩,⟨2,505,1,400,1,420⟩,⟨2,506,1,400,1,420⟩,⟨2,507,1,400,1,420⟩,⟨2,508,1,400,1,420⟩,⟨2,509,1,400,1,420⟩,⟨2,510,1,400,1,420⟩,⟨2,511,1,400,1,420⟩,⟨2,512,1,400,1,420⟩,⟨2,513,1,400,1,420⟩,⟨2,514,1,400,1,420⟩,⟨2,515,1,400,1,420⟩,⟨2,516,1,400,1,420⟩,⟨2,517,1,400,1,420⟩,⟨2,518,1,400,1,420⟩,⟨2,519,1,400,1,420⟩,⟨2,520,1,400,1,420⟩,⟨2,521,1,400,1,420⟩,⟨2,522,1,400,1,420⟩,⟨2,523,1,400,1,420⟩,⟨2,524,1,400,1,420⟩,⟨2,525,1,400,1,420⟩,⟨2,526,1,400,1,420⟩,⟨2,527,1,400,1,420⟩,⟨2,528,1,400,1,420⟩,⟨2,529,1,400,1,420⟩,⟨2,530,1,400,1,420⟩,⟨2,531,1,400,1,420⟩,⟨2,532,1,400,1,420⟩,⟨2,533,1,400,1,420⟩,⟨2,534,1,400,1,420⟩,⟨2,535,1,400,1,420⟩,⟨2,536,1,400,1,420⟩,⟨2,537,1,400,1,420⟩,⟨2,538,1,400,1,420⟩,⟨2,539,1,400,1,420⟩,⟨2,540,1,400,1,420⟩,⟨2,541,1,400,1,420⟩,⟨2,542,1,400,1,420⟩,⟨2,543,1,400,1,420⟩,⟨2,544,1,400,1,420⟩,⟨2,545,1,400,1,420⟩,⟨2,546,1,400,1,420⟩,⟨2,547,1,400,1,420⟩,⟨2,548,1,400,1,420⟩,⟨2,549,1,400,1,420⟩,⟨2,550,1,400,1,420⟩,⟨2,551,1,400,1,420⟩,⟨2,552,1,400,1,420⟩,⟨2,553,1,400,1,420⟩,⟨2,554,1,400,1,420⟩,⟨2,555,1,400,1,420⟩,⟨2,556,1,400,1,421⟩,⟨2,557,1,400,1,422⟩,⟨2,558,1,400,1,423⟩,⟨2,559,1,400,1,424⟩,⟨3,552,2,492,2,492⟩,⟨3,553,2,492,2,493⟩,⟨3,554,2,492,2,494⟩,⟨3,555,2,492,2,495⟩,⟨3,556,2,492,2,496⟩,⟨3,557,2,492,2,497⟩,⟨3,558,2,492,2,498⟩,⟨3,559,2,492,2,499⟩],[⟨0,300,1⟩,⟨0,301,1⟩,⟨0,302,1⟩,⟨0,303,1⟩,⟨0,304,1⟩,⟨0,305,1⟩,⟨0,306,1⟩,⟨0,307,1⟩,⟨0,308,1⟩,⟨0,309,1⟩,⟨0,310,1⟩,⟨0,311,1⟩,⟨0,312,1⟩,⟨0,313,1⟩,⟨0,314,1⟩,⟨0,315,1⟩,⟨0,316,1⟩,⟨0,317,1⟩,⟨0,318,1⟩,⟨0,319,1⟩,⟨0,320,1⟩,⟨0,321,1⟩,⟨0,322,1⟩,⟨0,323,1⟩,⟨0,324,1⟩,⟨0,325,1⟩,⟨0,326,1⟩,⟨0,327,1⟩,⟨0,328,1⟩,⟨0,329,1⟩,⟨0,330,1⟩,⟨1,400,1⟩,⟨1,401,2⟩,⟨1,402,3⟩,⟨1,403,4⟩,⟨1,404,5⟩,⟨1,405,6⟩,⟨1,406,7⟩,⟨1,407,8⟩,⟨1,408,9⟩,⟨1,409,10⟩,⟨1,410,11⟩,⟨1,411,12⟩,⟨1,412,13⟩,⟨1,413,14⟩,⟨1,414,15⟩,⟨1,415,16⟩,⟨1,416,17⟩,⟨1,417,18⟩,⟨1,418,19⟩,⟨1,419,20⟩,⟨1,420,21⟩,⟨1,421,21⟩,⟨1,422,21⟩,⟨1,423,21⟩,⟨1,424,21⟩,⟨1,425,21⟩,⟨1,426,21⟩,⟨1,427,21⟩,⟨1,428,21⟩,⟨1,429,21⟩,⟨1,430,21⟩,⟨1,431,20⟩,⟨1,432,19⟩,⟨1,433,18⟩,⟨1,434,17⟩,⟨1,435,16⟩,⟨1,436,15⟩,⟨1,437,14⟩,⟨1,438,13⟩,⟨1,439,12⟩,⟨1,440,11⟩,⟨1,441,10⟩,⟨1,442,9⟩,⟨1,443,8⟩,⟨1,444,7⟩,⟨1,445,6⟩,⟨1,446,5⟩,⟨1,447,4⟩,⟨1,448,3⟩,⟨1,449,2⟩,⟨1,450,1⟩,⟨2,492,1⟩,⟨2,493,2⟩,⟨2,494,3⟩,⟨2,495,4⟩,⟨2,496,5⟩,⟨2,497,6⟩,⟨2,498,7⟩,⟨2,499,8⟩,⟨2,501,1⟩,⟨2,502,2⟩,⟨2,503,3⟩,⟨2,504,4⟩,⟨2,505,5⟩,⟨2,506,6⟩,⟨2,507,7⟩,⟨2,508,8⟩,⟨2,509,9⟩,⟨2,510,10⟩,⟨2,511,11⟩,⟨2,512,12⟩,⟨2,513,13⟩,⟨2,514,14⟩,⟨2,515,15⟩,⟨2,516,16⟩,⟨2,517,17⟩,⟨2,518,18⟩,⟨2,519,19⟩,⟨2,520,20⟩,⟨2,521,21⟩,⟨2,522,22⟩,⟨2,523,23⟩,⟨2,524,24⟩,⟨2,525,25⟩,⟨2,526,26⟩,⟨2,527,27⟩,⟨2,528,28⟩,⟨2,529,29⟩,⟨2,530,30⟩,⟨2,531,31⟩,⟨2,532,31⟩,⟨2,533,31⟩,⟨2,534,31⟩,⟨2,535,31⟩,⟨2,536,31⟩,⟨2,537,31⟩,⟨2,538,31⟩,⟨2,539,31⟩,⟨2,540,31⟩,⟨2,541,31⟩,⟨2,542,31⟩,⟨2,543,31⟩,⟨2,544,31⟩,⟨2,545,31⟩,⟨2,546,31⟩,⟨2,547,31⟩,⟨2,548,31⟩,⟨2,549,31⟩,⟨2,550,31⟩,⟨2,551,30⟩,⟨2,552,29⟩,⟨2,553,28⟩,⟨2,554,27⟩,⟨2,555,26⟩,⟨2,556,25⟩,⟨2,557,24⟩,⟨2,558,23⟩,⟨2,559,22⟩])
def ex88:List Arv × List Cnt:=([⟨0,300,0,0,-1,0⟩,⟨1,400,0,300,0,300⟩,⟨1,401,0,300,0,300⟩,⟨1,402,0,300,0,300⟩,⟨1,403,0,300,0,300⟩,⟨1,404,0,300,0,300⟩,⟨1,405,0,300,0,300⟩,⟨1,406,0,300,0,300⟩,⟨1,407,0,300,0,300⟩,⟨1,408,0,300,0,300⟩,⟨1,409,0,300,0,300⟩,⟨1,410,0,300,0,300⟩,⟨1,411,0,300,0,300⟩,⟨1,412,0,300,0,300⟩,⟨1,413,0,300,0,300⟩,⟨1,414,0,300,0,300⟩,⟨1,415,0,300,0,300⟩,⟨1,416,0,300,0,300⟩,⟨1,417,0,300,0,300⟩,⟨1,418,0,300,0,300⟩,⟨1,419,0,300,0,300⟩,⟨1,420,0,300,0,300⟩,⟨2,492,1,400,1,420⟩,⟨2,493,1,400,1,420⟩,⟨2,494,1,400,1,420⟩,⟨2,495,1,400,1,420⟩,⟨2,496,1,400,1,420⟩,⟨2,497,1,400,1,420⟩,⟨2,498,1,400,1,420⟩,⟨2,499,1,400,1,420⟩,⟨2,501,1,400,1,420⟩,⟨2,502,1,400,1,420⟩,⟨2,503,1,400,1,420⟩,⟨2,504,1,400,1,420⟩,⟨2,505,1,400,1,420⟩,⟨2,506,1,400,1,420⟩,⟨2,507,1,400,1,420⟩,⟨2,508,1,400,1,420⟩,⟨2,509,1,400,1,420⟩,⟨2,510,1,400,1,420⟩,⟨2,511,1,400,1,420⟩,⟨2,512,1,400,1,420⟩,⟨2,513,1,400,1,420⟩,⟨2,514,1,400,1,420⟩,⟨2,515,1,400,1,420⟩,⟨2,516,1,400,1,420⟩,⟨2,517,1,400,1,420⟩,⟨2,518,1,400,1,420⟩,⟨2,519,1,400,1,420⟩,⟨2,520,1,400,1,420⟩,⟨2,521,1,400,1,420⟩,⟨2,522,1,400,1,420⟩,⟨2,523,1,400,1,420⟩,⟨2,524,1,400,1,420⟩,⟨2,525,1,400,1,420⟩,⟨2,526,1,400,1,420⟩,⟨2,527,1,400,1,420⟩,⟨2,528,1,400,1,420⟩,⟨2,529,1,400,1,420⟩,⟨2,530,1,400,1,420⟩,⟨2,531,1,400,1,420⟩,⟨2,532,1,400,1,420⟩,⟨2,533,1,400,1,420⟩,⟨2,534,1,400,1,420⟩,⟨2,535,1,400,1,420⟩,⟨2,536,1,400,1,420⟩,⟨2,537,1,400,1,420⟩,⟨2,538,1,400,1,420⟩,⟨2,539,1,400,1,420⟩,⟨2,540,1,400,1,420⟩,⟨2,541,1,400,1,420⟩,⟨2,542,1,400,1,420⟩,⟨2,543,1,400,1,420⟩,⟨2,544,1,400,1,420⟩,⟨2,545,1,400,1,420⟩,⟨2,546,1,400,1,420⟩,⟨2,547,1,400,1,420⟩,⟨2,548,1,400,1,420⟩,⟨2,549,1,400,1,420⟩,⟨2,550,1,400,1,420⟩,⟨2,551,1,400,1,420⟩,⟨2,552,1,400,1,420⟩,⟨2,553,1,400,1,420⟩,⟨2,554,1,400,1,420⟩,⟨2,555,1,400,1,420⟩,⟨2,556,1,400,1,421⟩,⟨2,557,1,400,1,422⟩,⟨2,558,1,400,1,423⟩,⟨2,559,1,400,1,424⟩,⟨3,552,2,492,2,492⟩,⟨3,553,2,492,2,493⟩,⟨3,554,2,492,2,494⟩,⟨3,555,2,492,2,495⟩,⟨3,556,2,492,2,496⟩,⟨3,557,2,492,2,497⟩,⟨3,558,2,492,2,498⟩,⟨3,559,2,492,2,499⟩],[⟨0,300,1⟩,⟨0,301,1⟩,⟨0,302,1⟩,⟨0,303,1⟩,⟨0,304,1⟩,⟨0,305,1⟩,⟨0,306,1⟩,⟨0,307,1⟩,⟨0,308,1⟩,⟨0,309,1⟩,⟨0,310,1⟩,⟨0,311,1⟩,⟨0,312,1⟩,⟨0,313,1⟩,⟨0,314,1⟩,⟨0,315,1⟩,⟨0,316,1⟩,⟨0,317,1⟩,⟨0,318,1⟩,⟨0,319,1⟩,⟨0,320,1⟩,⟨0,321,1⟩,⟨0,322,1⟩,⟨0,323,1⟩,⟨0,324,1⟩,⟨0,325,1⟩,⟨0,326,1⟩,⟨0,327,1⟩,⟨0,328,1⟩,⟨0,329,1⟩,⟨0,330,1⟩,⟨1,400,1⟩,⟨1,401,2⟩,⟨1,402,3⟩,⟨1,403,4⟩,⟨1,404,5⟩,⟨1,405,6⟩,⟨1,406,7⟩,⟨1,407,8⟩,⟨1,408,9⟩,⟨1,409,10⟩,⟨1,410,11⟩,⟨1,411,12⟩,⟨1,412,13⟩,⟨1,413,14⟩,⟨1,414,15⟩,⟨1,415,16⟩,⟨1,416,17⟩,⟨1,417,18⟩,⟨1,418,19⟩,⟨1,419,20⟩,⟨1,420,21⟩,⟨1,421,21⟩,⟨1,422,21⟩,⟨1,423,21⟩,⟨1,424,21⟩,⟨1,425,21⟩,⟨1,426,21⟩,⟨1,427,21⟩,⟨1,428,21⟩,⟨1,429,21⟩,⟨1,430,21⟩,⟨1,431,20⟩,⟨1,432,19⟩,⟨1,433,18⟩,⟨1,434,17⟩,⟨1,435,16⟩,⟨1,436,15⟩,⟨1,437,14⟩,⟨1,438,13⟩,⟨1,439,12⟩,⟨1,440,11⟩,⟨1,441,10⟩,⟨1,442,9⟩,⟨1,443,8⟩,⟨1,444,7⟩,⟨1,445,6⟩,⟨1,446,5⟩,⟨1,447,4⟩,⟨1,448,3⟩,⟨1,449,2⟩,⟨1,450,1⟩,⟨2,492,1⟩,⟨2,493,2⟩,⟨2,494,3⟩,⟨2,495,4⟩,⟨2,496,5⟩,⟨2,497,6⟩,⟨2,498,7⟩,⟨2,499,8⟩,⟨2,501,1⟩,⟨2,502,2⟩,⟨2,503,3⟩,⟨2,504,4⟩,⟨2,505,5⟩,⟨2,506,6⟩,⟨2,507,7⟩,⟨2,508,8⟩,⟨2,509,9⟩,⟨2,510,10⟩,⟨2,511,11⟩,⟨2,512,12⟩,⟨2,513,13⟩,⟨2,514,14⟩,⟨2,515,15⟩,⟨2,516,16⟩,⟨2,517,17⟩,⟨2,518,18⟩,⟨2,519,19⟩,⟨2,520,20⟩,⟨2,521,21⟩,⟨2,522,22⟩,⟨2,523,23⟩,⟨2,524,24⟩,⟨2,525,25⟩,⟨2,526,26⟩,⟨2,527,27⟩,⟨2,528,28⟩,⟨2,529,29⟩,⟨2,530,30⟩,⟨2,531,31⟩,⟨2,532,31⟩,⟨2,533,31⟩,⟨2,534,31⟩,⟨2,535,31⟩,⟨2,536,31⟩,⟨2,537,31⟩,⟨2,538,31⟩,⟨2,539,31⟩,⟨2,540,31⟩,⟨2,541,31⟩,⟨2,542,31⟩,⟨2,543,31⟩,⟨2,544,31⟩,⟨2,545,31⟩,⟨2,546,31⟩,⟨2,547,31⟩,⟨2,548,31⟩,⟨2,549,31⟩,⟨2,550,31⟩,⟨2,551,31⟩,⟨2,552,31⟩,⟨2,553,31⟩,⟨2,554,31⟩,⟨2,555,31⟩,⟨2,556,31⟩,⟨2,557,31⟩,⟨2,558,31⟩,⟨2,559,30⟩])
def ex96:List Arv × List Cnt:=([⟨0,300,0,0,-1,0⟩,⟨1,400,0,300,0,300⟩,⟨1,401,0,300,0,300⟩,⟨1,402,0,300,0,300⟩,⟨1,403,0,300,0,300⟩,⟨1,404,0,300,0,300⟩,⟨1,405,0,300,0,300⟩,⟨1,406,0,300,0,300⟩,⟨1,407,0,300,0,300⟩,⟨1,408,0,300,0,300⟩,⟨1,409,0,300,0,300⟩,⟨1,410,0,300,0,300⟩,⟨1,411,0,300,0,300⟩,⟨1,412,0,300,0,300⟩,⟨1,413,0,300,0,300⟩,⟨1,414,0,300,0,300⟩,⟨1,415,0,300,0,300⟩,⟨1,416,0,300,0,300⟩,⟨1,417,0,300,0,300⟩,⟨1,418,0,300,0,300⟩,⟨1,419,0,300,0,300⟩,⟨1,420,0,300,0,300⟩,⟨2,492,1,400,1,420⟩,⟨2,493,1,400,1,420⟩,⟨2,494,1,400,1,420⟩,⟨2,495,1,400,1,420⟩,⟨2,496,1,400,1,420⟩,⟨2,497,1,400,1,420⟩,⟨2,498,1,400,1,420⟩,⟨2,499,1,400,1,420⟩,⟨2,501,1,400,1,420⟩,⟨2,502,1,400,1,420⟩,⟨2,503,1,400,1,420⟩,⟨2,504,1,400,1,420⟩,⟨2,505,1,400,1,420⟩,⟨2,506,1,400,1,420⟩,⟨2,507,1,400,1,420⟩,⟨2,508,1,400,1,420⟩,⟨2,509,1,400,1,420⟩,⟨2,510,1,400,1,420⟩,⟨2,511,1,400,1,420⟩,⟨2,512,1,400,1,420⟩,⟨2,513,1,400,1,420⟩,⟨2,514,1,400,1,420⟩,⟨2,515,1,400,1,420⟩,⟨2,516,1,400,1,420⟩,⟨2,517,1,400,1,420⟩,⟨2,518,1,400,1,420⟩,⟨2,519,1,400,1,420⟩,⟨2,520,1,400,1,420⟩,⟨2,521,1,400,1,420⟩,⟨2,522,1,400,1,420⟩,⟨2,523,1,400,1,420⟩,⟨2,524,1,400,1,420⟩,⟨2,525,1,400,1,420⟩,⟨2,526,1,400,1,420⟩,⟨2,527,1,400,1,420⟩,⟨2,528,1,400,1,420⟩,⟨2,529,1,400,1,420⟩,⟨2,530,1,400,1,420⟩,⟨2,531,1,400,1,420⟩,⟨2,532,1,400,1,420⟩,⟨2,533,1,400,1,420⟩,⟨2,534,1,400,1,420⟩,⟨2,535,1,400,1,420⟩,⟨2,536,1,400,1,420⟩,⟨2,537,1,400,1,420⟩,⟨2,538,1,400,1,420⟩,⟨2,539,1,400,1,420⟩,⟨2,540,1,400,1,420⟩,⟨2,541,1,400,1,420⟩,⟨2,542,1,400,1,420⟩,⟨2,543,1,400,1,420⟩,⟨2,544,1,400,1,420⟩,⟨2,545,1,400,1,420⟩,⟨2,546,1,400,1,420⟩,⟨2,547,1,400,1,420⟩,⟨2,548,1,400,1,420⟩,⟨2,549,1,400,1,420⟩,⟨2,550,1,400,1,420⟩,⟨2,551,1,400,1,420⟩,⟨2,552,1,400,1,420⟩,⟨2,553,1,400,1,420⟩,⟨2,554,1,400,1,420⟩,⟨2,555,1,400,1,420⟩,⟨2,556,1,400,1,421⟩,⟨2,557,1,400,1,422⟩,⟨2,558,1,400,1,423⟩,⟨2,559,1,400,1,424⟩,⟨3,552,2,492,2,492⟩,⟨3,553,2,492,2,493⟩,⟨3,554,2,492,2,494⟩,⟨3,555,2,492,2,495⟩,⟨3,556,2,492,2,496⟩,⟨3,557,2,492,2,497⟩,⟨3,558,2,492,2,498⟩,⟨3,559,2,492,2,499⟩],[⟨0,300,1⟩,⟨0,301,1⟩,⟨0,302,1⟩,⟨0,303,1⟩,⟨0,304,1⟩,⟨0,305,1⟩,⟨0,306,1⟩,⟨0,307,1⟩,⟨0,308,1⟩,⟨0,309,1⟩,⟨0,310,1⟩,⟨0,311,1⟩,⟨0,312,1⟩,⟨0,313,1⟩,⟨0,314,1⟩,⟨0,315,1⟩,⟨0,316,1⟩,⟨0,317,1⟩,⟨0,318,1⟩,⟨0,319,1⟩,⟨0,320,1⟩,⟨0,321,1⟩,⟨0,322,1⟩,⟨0,323,1⟩,⟨0,324,1⟩,⟨0,325,1⟩,⟨0,326,1⟩,⟨0,327,1⟩,⟨0,328,1⟩,⟨0,329,1⟩,⟨0,330,1⟩,⟨1,400,1⟩,⟨1,401,2⟩,⟨1,402,3⟩,⟨1,403,4⟩,⟨1,404,5⟩,⟨1,405,6⟩,⟨1,406,7⟩,⟨1,407,8⟩,⟨1,408,9⟩,⟨1,409,10⟩,⟨1,410,11⟩,⟨1,411,12⟩,⟨1,412,13⟩,⟨1,413,14⟩,⟨1,414,15⟩,⟨1,415,16⟩,⟨1,416,17⟩,⟨1,417,18⟩,⟨1,418,19⟩,⟨1,419,20⟩,⟨1,420,21⟩,⟨1,421,21⟩,⟨1,422,21⟩,⟨1,423,21⟩,⟨1,424,21⟩,⟨1,425,21⟩,⟨1,426,21⟩,⟨1,427,21⟩,⟨1,428,21⟩,⟨1,429,21⟩,⟨1,430,21⟩,⟨1,431,20⟩,⟨1,432,19⟩,⟨1,433,18⟩,⟨1,434,17⟩,⟨1,435,16⟩,⟨1,436,15⟩,⟨1,437,14⟩,⟨1,438,13⟩,⟨1,439,12⟩,⟨1,440,11⟩,⟨1,441,10⟩,⟨1,442,9⟩,⟨1,443,8⟩,⟨1,444,7⟩,⟨1,445,6⟩,⟨1,446,5⟩,⟨1,447,4⟩,⟨1,448,3⟩,⟨1,449,2⟩,⟨1,450,1⟩,⟨2,492,1⟩,⟨2,493,2⟩,⟨2,494,3⟩,⟨2,495,4⟩,⟨2,496,5⟩,⟨2,497,6⟩,⟨2,498,7⟩,⟨2,499,8⟩,⟨2,501,1⟩,⟨2,502,2⟩,⟨2,503,3⟩,⟨2,504,4⟩,⟨2,505,5⟩,⟨2,506,6⟩,⟨2,507,7⟩,⟨2,508,8⟩,⟨2,509,9⟩,⟨2,510,10⟩,⟨2,511,11⟩,⟨2,512,12⟩,⟨2,513,13⟩,⟨2,514,14⟩,⟨2,515,15⟩,⟨2,516,16⟩,⟨2,517,17⟩,⟨2,518,18⟩,⟨2,519,19⟩,⟨2,520,20⟩,⟨2,521,21⟩,⟨2,522,22⟩,⟨2,523,23⟩,⟨2,524,24⟩,⟨2,525,25⟩,⟨2,526,26⟩,⟨2,527,27⟩,⟨2,528,28⟩,⟨2,529,29⟩,⟨2,530,30⟩,⟨2,531,31⟩,⟨2,532,31⟩,⟨2,533,31⟩,⟨2,534,31⟩,⟨2,535,31⟩,⟨2,536,31⟩,⟨2,537,31⟩,⟨2,538,31⟩,⟨2,539,31⟩,⟨2,540,31⟩,⟨2,541,31⟩,⟨2,542,31⟩,⟨2,543,31⟩,⟨2,544,31⟩,⟨2,545,31⟩,⟨2,546,31⟩,⟨2,547,31⟩,⟨2,548,31⟩,⟨2,549,31⟩,⟨2,550,31⟩,⟨2,551,31⟩,⟨2,552,31⟩,⟨2,553,31⟩,⟨2,554,31⟩,⟨2,555,31⟩,⟨2,556,31⟩,⟨2,557,31⟩,⟨2,558,31⟩,⟨2,559,31⟩,⟨3,552,1⟩,⟨3,553,2⟩,⟨3,554,3⟩,⟨3,555,4⟩,⟨3,556,5⟩,⟨3,557,6⟩,⟨3,558,7⟩,⟨3,559,7⟩,⟨3,560,7⟩,⟨3,561,7⟩,⟨3,562,7⟩,⟨3,563,7⟩,⟨3,564,7⟩,⟨3,565,7⟩,⟨3,566,7⟩,⟨3,567,7⟩,⟨3,568,7⟩,⟨3,569,7⟩,⟨3,570,7⟩,⟨3,571,7⟩,⟨3,572,7⟩,⟨3,573,7⟩,⟨3,574,7⟩,⟨3,575,7⟩,⟨3,576,7⟩,⟨3,577,7⟩,⟨3,578,7⟩,⟨3,579,7⟩,⟨3,580,7⟩,⟨3,581,7⟩,⟨3,582,7⟩,⟨3,583,6⟩,⟨3,584,5⟩,⟨3,585,4⟩,⟨3,586,3⟩,⟨3,587,2⟩,⟨3,588,1⟩])
def ex104:List Arv × List Cnt:=([⟨0,300,0,0,-1,0⟩,⟨1,400,0,300,0,300⟩,⟨1,401,0,300,0,300⟩,⟨1,402,0,300,0,300⟩,⟨1,403,0,300,0,300⟩,⟨1,404,0,300,0,300⟩,⟨1,405,0,300,0,300⟩,⟨1,406,0,300,0,300⟩,⟨1,407,0,300,0,300⟩,⟨1,408,0,300,0,300⟩,⟨1,409,0,300,0,300⟩,⟨1,410,0,300,0,300⟩,⟨1,411,0,300,0,300⟩,⟨1,412,0,300,0,300⟩,⟨1,413,0,300,0,300⟩,⟨1,414,0,300,0,300⟩,⟨1,415,0,300,0,300⟩,⟨1,416,0,300,0,300⟩,⟨1,417,0,300,0,300⟩,⟨1,418,0,300,0,300⟩,⟨1,419,0,300,0,300⟩,⟨1,420,0,300,0,300⟩,⟨2,492,1,400,1,420⟩,⟨2,493,1,400,1,420⟩,⟨2,494,1,400,1,420⟩,⟨2,495,1,400,1,420⟩,⟨2,496,1,400,1,420⟩,⟨2,497,1,400,1,420⟩,⟨2,498,1,400,1,420⟩,⟨2,499,1,400,1,420⟩,⟨2,501,1,400,1,420⟩,⟨2,502,1,400,1,420⟩,⟨2,503,1,400,1,420⟩,⟨2,504,1,400,1,420⟩,⟨2,505,1,400,1,420⟩,⟨2,506,1,400,1,420⟩,⟨2,507,1,400,1,420⟩,⟨2,508,1,400,1,420⟩,⟨2,509,1,400,1,420⟩,⟨2,510,1,400,1,420⟩,⟨2,511,1,400,1,420⟩,⟨2,512,1,400,1,420⟩,⟨2,513,1,400,1,420⟩,⟨2,514,1,400,1,420⟩,⟨2,515,1,400,1,420⟩,⟨2,516,1,400,1,420⟩,⟨2,517,1,400,1,420⟩,⟨2,518,1,400,1,420⟩,⟨2,519,1,400,1,420⟩,⟨2,520,1,400,1,420⟩,⟨2,521,1,400,1,420⟩,⟨2,522,1,400,1,420⟩,⟨2,523,1,400,1,420⟩,⟨2,524,1,400,1,420⟩,⟨2,525,1,400,1,420⟩,⟨2,526,1,400,1,420⟩,⟨2,527,1,400,1,420⟩,⟨2,528,1,400,1,420⟩,⟨2,529,1,400,1,420⟩,⟨2,530,1,400,1,420⟩,⟨2,531,1,400,1,420⟩,⟨2,532,1,400,1,420⟩,⟨2,533,1,400,1,420⟩,⟨2,534,1,400,1,420⟩,⟨2,535,1,400,1,420⟩,⟨2,536,1,400,1,420⟩,⟨2,537,1,400,1,420⟩,⟨2,538,1,400,1,420⟩,⟨2,539,1,400,1,420⟩,⟨2,540,1,400,1,420⟩,⟨2,541,1,400,1,420⟩,⟨2,542,1,400,1,420⟩,⟨2,543,1,400,1,420⟩,⟨2,544,1,400,1,420⟩,⟨2,545,1,400,1,420⟩,⟨2,546,1,400,1,420⟩,⟨2,547,1,400,1,420⟩,⟨2,548,1,400,1,420⟩,⟨2,549,1,400,1,420⟩,⟨2,550,1,400,1,420⟩,⟨2,551,1,400,1,420⟩,⟨2,552,1,400,1,420⟩,⟨2,553,1,400,1,420⟩,⟨2,554,1,400,1,420⟩,⟨2,555,1,400,1,420⟩,⟨2,556,1,400,1,421⟩,⟨2,557,1,400,1,422⟩,⟨2,558,1,400,1,423⟩,⟨2,559,1,400,1,424⟩,⟨3,552,2,492,2,492⟩,⟨3,553,2,492,2,493⟩,⟨3,554,2,492,2,494⟩,⟨3,555,2,492,2,495⟩,⟨3,556,2,492,2,496⟩,⟨3,557,2,492,2,497⟩,⟨3,558,2,492,2,498⟩,⟨3,559,2,492,2,499⟩],[⟨0,300,1⟩,⟨0,301,1⟩,⟨0,302,1⟩,⟨0,303,1⟩,⟨0,304,1⟩,⟨0,305,1⟩,⟨0,306,1⟩,⟨0,307,1⟩,⟨0,308,1⟩,⟨0,309,1⟩,⟨0,310,1⟩,⟨0,311,1⟩,⟨0,312,1⟩,⟨0,313,1⟩,⟨0,314,1⟩,⟨0,315,1⟩,⟨0,316,1⟩,⟨0,317,1⟩,⟨0,318,1⟩,⟨0,319,1⟩,⟨0,320,1⟩,⟨0,321,1⟩,⟨0,322,1⟩,⟨0,323,1⟩,⟨0,324,1⟩,⟨0,325,1⟩,⟨0,326,1⟩,⟨0,327,1⟩,⟨0,328,1⟩,⟨0,329,1⟩,⟨0,330,1⟩,⟨1,400,1⟩,⟨1,401,2⟩,⟨1,402,3⟩,⟨1,403,4⟩,⟨1,404,5⟩,⟨1,405,6⟩,⟨1,406,7⟩,⟨1,407,8⟩,⟨1,408,9⟩,⟨1,409,10⟩,⟨1,410,11⟩,⟨1,411,12⟩,⟨1,412,13⟩,⟨1,413,14⟩,⟨1,414,15⟩,⟨1,415,16⟩,⟨1,416,17⟩,⟨1,417,18⟩,⟨1,418,19⟩,⟨1,419,20⟩,⟨1,420,21⟩,⟨1,421,21⟩,⟨1,422,21⟩,⟨1,423,21⟩,⟨1,424,21⟩,⟨1,425,21⟩,⟨1,426,21⟩,⟨1,427,21⟩,⟨1,428,21⟩,⟨1,429,21⟩,⟨1,430,21⟩,⟨1,431,20⟩,⟨1,432,19⟩,⟨1,433,18⟩,⟨1,434,17⟩,⟨1,435,16⟩,⟨1,436,15⟩,⟨1,437,14⟩,⟨1,438,13⟩,⟨1,439,12⟩,⟨1,440,11⟩,⟨1,441,10⟩,⟨1,442,9⟩,⟨1,443,8⟩,⟨1,444,7⟩,⟨1,445,6⟩,⟨1,446,5⟩,⟨1,447,4⟩,⟨1,448,3⟩,⟨1,449,2⟩,⟨1,450,1⟩,⟨2,492,1⟩,⟨2,493,2⟩,⟨2,494,3⟩,⟨2,495,4⟩,⟨2,496,5⟩,⟨2,497,6⟩,⟨2,498,7⟩,⟨2,499,8⟩,⟨2,501,1⟩,⟨2,502,2⟩,⟨2,503,3⟩,⟨2,504,4⟩,⟨2,505,5⟩,⟨2,506,6⟩,⟨2,507,7⟩,⟨2,508,8⟩,⟨2,509,9⟩,⟨2,510,10⟩,⟨2,511,11⟩,⟨2,512,12⟩,⟨2,513,13⟩,⟨2,514,14⟩,⟨2,515,15⟩,⟨2,516,16⟩,⟨2,517,17⟩,⟨2,518,18⟩,⟨2,519,19⟩,⟨2,520,20⟩,⟨2,521,21⟩,⟨2,522,22⟩,⟨2,523,23⟩,⟨2,524,24⟩,⟨2,525,25⟩,⟨2,526,26⟩,⟨2,527,27⟩,⟨2,528,28⟩,⟨2,529,29⟩,⟨2,530,30⟩,⟨2,531,31⟩,⟨2,532,31⟩,⟨2,533,31⟩,⟨2,534,31⟩,⟨2,535,31⟩,⟨2,536,31⟩,⟨2,537,31⟩,⟨2,538,31⟩,⟨2,539,31⟩,⟨2,540,31⟩,⟨2,541,31⟩,⟨2,542,31⟩,⟨2,543,31⟩,⟨2,544,31⟩,⟨2,545,31⟩,⟨2,546,31⟩,⟨2,547,31⟩,⟨2,548,31⟩,⟨2,549,31⟩,⟨2,550,31⟩,⟨2,551,31⟩,⟨2,552,31⟩,⟨2,553,31⟩,⟨2,554,31⟩,⟨2,555,31⟩,⟨2,556,31⟩,⟨2,557,31⟩,⟨2,558,31⟩,⟨2,559,31⟩,⟨3,552,1⟩,⟨3,553,2⟩,⟨3,554,3⟩,⟨3,555,4⟩,⟨3,556,5⟩,⟨3,557,6⟩,⟨3,558,7⟩,⟨3,559,8⟩,⟨3,560,8⟩,⟨3,561,8⟩,⟨3,562,8⟩,⟨3,563,8⟩,⟨3,564,8⟩,⟨3,565,8⟩,⟨3,566,8⟩,⟨3,567,8⟩,⟨3,568,8⟩,⟨3,569,8⟩,⟨3,570,8⟩,⟨3,571,8⟩,⟨3,572,8⟩,⟨3,573,8⟩,⟨3,574,8⟩,⟨3,575,8⟩,⟨3,576,8⟩,⟨3,577,8⟩,⟨3,578,8⟩,⟨3,579,8⟩,⟨3,580,8⟩,⟨3,581,8⟩,⟨3,582,8⟩,⟨3,583,7⟩,⟨3,584,6⟩,⟨3,585,5⟩,⟨3,586,4⟩,⟨3,587,3⟩,⟨3,588,2⟩,⟨3,589,1⟩])
theorem exs8:goF exN exM 8 0 ex0=ex8:=by decide +kernel
theorem exs16:goF exN exM 8 8 ex8=ex16:=by decide +kernel
theorem exs24:goF exN exM 8 16 ex16=ex24:=by decide +kernel
theorem exs32:goF exN exM 8 24 ex24=ex32:=by decide +kernel
theorem exs40:goF exN exM 8 32 ex32=ex40:=by decide +kernel
theorem exs48:goF exN exM 8 40 ex40=ex48:=by decide +kernel
theorem exs56:goF exN exM 8 48 ex48=ex56:=by decide +kernel
theorem exs64:goF exN exM 8 56 ex56=ex64:=by decide +kernel
theorem exs72:goF exN exM 8 64 ex64=ex72:=by decide +kernel
theorem exs80:goF exN exM 8 72 ex72=ex80:=by decide +kernel
theorem exs88:goF exN exM 8 80 ex80=ex88:=by decide +kernel
theorem exs96:goF exN exM 8 88 ex88=ex96:=by decide +kernel
theorem exs104:goF exN exM 8 96 ex96=ex104:=by decide +kernel
theorem z1128:startA exM=ex0.1:=by decide +kernel
theorem z1041:huntedA exN exM=ex104.1:=by
 rw [huntedA,show boundN exN exM + 1=1101 + 8 + 8 + 8 + 8 + 8 + 8 + 8 + 8 + 8 + 8 + 8 + 8 + 8 by decide +kernel,z1128,show (ex0.1,([]:List Cnt))=ex0 from rfl]
 rw [z27 8 0,exs8,show 0 + 8=8 from rfl]
 rw [z27 8 8,exs16,show 8 + 8=16 from rfl]
 rw [z27 8 16,exs24,show 16 + 8=24 from rfl]
 rw [z27 8 24,exs32,show 24 + 8=32 from rfl]
 rw [z27 8 32,exs40,show 32 + 8=40 from rfl]
 rw [z27 8 40,exs48,show 40 + 8=48 from rfl]
 rw [z27 8 48,exs56,show 48 + 8=56 from rfl]
 rw [z27 8 56,exs64,show 56 + 8=64 from rfl]
 rw [z27 8 64,exs72,show 64 + 8=72 from rfl]
 rw [z27 8 72,exs80,show 72 + 8=80 from rfl]
 rw [z27 8 80,exs88,show 80 + 8=88 from rfl]
 rw [z27 8 88,exs96,show 88 + 8=96 from rfl]
 rw [z27 8 96,exs104,show 96 + 8=104 from rfl]
 rw [z267 (show ex104.1[104]?=none by decide +kernel)]
theorem z187 {α β γ:Type} (g:γ→β→γ) (f:α→List β):∀ (l:List α) (c:γ),(l.flatMap f).foldl g c=l.foldl (fun c a=>(f a).foldl g c) c
 | [],c=>rfl
 | a::l,c=>by rw [List.flatMap_cons,List.foldl_append,z187 g f l,List.foldl_cons]
theorem z1073:tallyE exN (endsL exN exM (huntedA exN exM))=([0,0,0,8],[0,0,0,0,212]):=by
 rw [z1041,tallyE,endsL,z187]
 decide +kernel
end Go.Ab
namespace Go.Ab
open Go.RowKit Go.Proofs
set_option maxHeartbeats 8000000
set_option maxRecDepth 20000
attribute [local irreducible] WalkL Walk
theorem z1156:openX exN exM=0:=by decide +kernel
theorem z1095:posL [0,0,0,8]=[3]:=by decide +kernel
theorem z1094:posL [0,0,0,0,212]=[4]:=by decide +kernel
theorem z1064:whereC exN exM=([3],[4],0):=by
 rw [whereC,if_neg (by rw [z1156];simp),whereP,whereW,z1073,z1095,z1094,if_neg (by simp)]
end Go.Ab
namespace Go.Ab
open Go.RowKit Go.Proofs
set_option maxHeartbeats 8000000
set_option maxRecDepth 20000
attribute [local irreducible] WalkL Walk
theorem zf47 (a b:List Int) (ha:a.length<2 ^ 30):Fn Tryd.prog 47 [.sl (intRows a),.sl (intRows b)] (.bool (decide (a=b))):=by
 refine z10 26 Tryd.call47 Tryd.func47 rfl (by decide) fun J=>?_
 simp only [go_sem,St.start,Tryd.ntmps47,Tryd.results47]
 repeat (first | refine nx ?_ | (refine z3 fun K hK=>?_;simp only [go_sem,z16];apply hK;clear hK K))
 by_cases hl:a.length=b.length
 ·have hne:((a.length:Int) != (b.length:Int))=false:=by simp [hl]
  simp only [go_sem,hne]
  refine z6 rfl ?_
  repeat (first | refine nx ?_ | (refine z3 fun K hK=>?_;simp only [go_sem];apply hK;clear hK K))
  refine z15 (fun (i:Nat)=>[(5,.d (.i i))]) (fun _=>[]) (fun i=>i≤a.length∧a.take i=b.take i) (fun i=>a.length - i) 0 ?_ ⟨Nat.zero_le _,by simp⟩ ?_
  ·simp only [go_sem]
   refine weA ?_ ?_ <;> simp
  ·intro i ⟨hi,heq⟩
   simp only [go_sem]
   repeat (first | refine nx ?_ | (refine z3 fun K hK=>?_;simp only [go_sem,z16];apply hK;clear hK K))
   refine z5 rfl (fun hb=>?_) (fun hb=>?_)
   ·have hlt:i<a.length:=by simpa using hb
    have hw:IntKind.i64.wrap ((i:Int) + 1)=((i + 1:Nat):Int):=by rw [z12 (by omega)];simp
    obtain ⟨x,hx⟩:∃ x,a[i]?=some x:=⟨_,List.getElem?_eq_getElem hlt⟩
    obtain ⟨y,hy⟩:∃ y,b[i]?=some y:=⟨_,List.getElem?_eq_getElem (hl ▸ hlt)⟩
    have g1:=z427 hx
    have g2:=z427 hy
    repeat (first | refine nx ?_ | (refine z3 fun K hK=>?_;simp only [go_sem];apply hK;clear hK K))
    refine z8 (by kernel_rfl) (by kernel_rfl) fun K hK=>?_
    simp only [go_sem,g1,g2]
    refine ⟨by kernel_rfl,hK _ ?_⟩
    clear hK K
    refine z5 rfl (fun hc=>?_) (fun hc=>?_)
    ·have hc:¬ x=y:=by simpa using hc
     have hab:¬ a=b:=by rintro rfl;rw [hx] at hy;cases hy;exact hc rfl
     repeat (first | refine nx ?_ | (refine z3 fun K hK=>?_;simp only [go_sem];apply hK;clear hK K))
     simp only [go_sem,hab]
    ·have hc:x=y:=by simpa using hc
     repeat (first | refine nx ?_ | (refine z3 fun K hK=>?_;simp only [go_sem,hw];apply hK;clear hK K))
     refine ⟨rfl,i + 1,?_,⟨hlt,by rw [List.take_add_one,List.take_add_one,heq,hx,hy,hc]⟩,by omega⟩
     refine weA ?_ ?_ <;> simp
   ·have he:i=a.length:=by (have:¬ i<a.length:=by simpa using hb);omega
    subst he
    have hab:a=b:=z308 hl heq
    repeat (first | refine nx ?_ | (refine z3 fun K hK=>?_;simp only [go_sem];apply hK;clear hK K))
    simp only [go_sem,hab]
 ·have hne:((a.length:Int) != (b.length:Int))=true:=by simp;omega
  have hab:¬ a=b:=by rintro rfl;exact hl rfl
  simp only [go_sem,hne]
  refine z9 rfl ?_
  repeat (first | refine nx ?_ | (refine z3 fun K hK=>?_;simp only [go_sem];apply hK;clear hK K))
  simp only [go_sem,hab]
def exS:List SpotT:=[⟨3,50,60⟩,⟨1,30,20⟩,⟨2,20,40⟩]
def exW:List (List Int):=[[0,120,255,315],[435,0,135,195],[300,420,0,60],[240,360,495,0]]
def ordB (F:Mat) (S:List SpotT):Nat→Nat→Nat→MemB→Bool
 | 0,_,s,_=>s == 0
 | f + 1,p,s,m=>s == 0 || (elems s).any fun i=>decide ((bestM F S 5 p s m).1.2=(i:Int)) && ordB F S f (nextP S i) (s - 2 ^ i) (bestM F S 5 p s m).2
theorem z1016 {F:Mat} {S:List SpotT}:∀ (f p s:Nat) (m:MemB),ordB F S f p s m=true→OrdOk F S f p s m
 | 0,_,_,_,h=>by simpa [ordB,OrdOk] using h
 | f + 1,p,s,m,h=>by
  rw [ordB,Bool.or_eq_true,beq_iff_eq,List.any_eq_true] at h
  rcases h with h | ⟨i,hi,h⟩
  ·exact .inl h
  ·rw [Bool.and_eq_true,decide_eq_true_eq] at h
   exact .inr ⟨i,hi,h.1,z1016 f _ _ _ h.2⟩
theorem z1181:exN.Good:=z115.1 fun hb=>by
 have hok:checkPartyF exN exP=0:=by decide +kernel
 rw [checkPartyF,if_pos hb] at hok;simp at hok
theorem z1179:allLL exN exP=exW:=by decide +kernel
theorem ex_mat:matM exN.places.toNat (allM exN exP)=matM exN.places.toNat (getL exW):=by
 rw [← z1186 exP z1181,z1179]
 decide +kernel
theorem ex_ord:ordB (getL exW) exS 5 0 (fullN exS) (bestP (getL exW) exS 0).2=true:=by decide +kernel
theorem z1180:planC exN exP (getL exW) 0 exS=([1,2,0],32250,0):=by decide +kernel
theorem zf14:Fn Tryd.prog 14 [] (.bool true):=by
 have h46:=zf46
 have h15:=zf15 exN exM z869 (by decide)
 have h21:=zf21 exN exP (getL exW) 0 exS z869 (.inl (by decide)) (by decide) (fun _=>ex_mat) (fun _ _=>z1016 _ _ _ _ ex_ord)
 have h47:=zf47 [3] [3] (by decide)
 have h48:=zf47 [4] [4] (by decide)
 have h49:=zf47 [1,2,0] [1,2,0] (by decide)
 rw [whereD,z1064] at h15
 rw [planD,z1180] at h21
 rw [Missed.row,exM] at h15 h46
 rw [exSpots] at h46
 simp only [exS,intRows,SpotT.row,List.map_cons,List.map_nil,decide_true] at h15 h21 h47 h48 h49
 obtain ⟨N,hN⟩:∃ N,N=exN:=⟨_,rfl⟩
 obtain ⟨p,hp⟩:∃ p,p=exP:=⟨_,rfl⟩
 rw [← hN,← hp] at *
 rw [Net.cells] at *
 rw [Party.cells] at *
 refine z10 56 Tryd.call14 Tryd.func14 rfl (by decide) fun J=>?_
 simp only [go_sem,St.start,Tryd.ntmps14,Tryd.results14,]
 repeat (first | refine nx ?_ | (refine z3 fun K hK=>?_;simp only [go_sem];(repeat (first | (refine ⟨_,.lent (hf:=h46) (hd:=rfl) (hr:=rfl),?_⟩;simp only [go_sem]) | (refine ⟨_,.lent (hf:=h15) (hd:=rfl) (hr:=rfl),?_⟩;simp only [go_sem]) | (refine ⟨_,.lent (hf:=h21) (hd:=rfl) (hr:=rfl),?_⟩;simp only [go_sem]) | (refine ⟨_,.lent (hf:=h47) (hd:=rfl) (hr:=rfl),?_⟩;simp only [go_sem]) | (refine ⟨_,.lent (hf:=h48) (hd:=rfl) (hr:=rfl),?_⟩;simp only [go_sem]) | (refine ⟨_,.lent (hf:=h49) (hd:=rfl) (hr:=rfl),?_⟩;simp only [go_sem]) | (refine ⟨_,.given (hf:=h46) (hd:=rfl) (ha:=rfl),?_⟩;simp only [go_sem]) | (refine ⟨_,.given (hf:=h15) (hd:=rfl) (ha:=rfl),?_⟩;simp only [go_sem]) | (refine ⟨_,.given (hf:=h21) (hd:=rfl) (ha:=rfl),?_⟩;simp only [go_sem]) | (refine ⟨_,.given (hf:=h47) (hd:=rfl) (ha:=rfl),?_⟩;simp only [go_sem]) | (refine ⟨_,.given (hf:=h48) (hd:=rfl) (ha:=rfl),?_⟩;simp only [go_sem]) | (refine ⟨_,.given (hf:=h49) (hd:=rfl) (ha:=rfl),?_⟩;simp only [go_sem])));apply hK;clear hK K))
 simp only [go_sem]
end Go.Ab
namespace Go.Ab
open Go.RowKit Go.Proofs
set_option maxHeartbeats 2000000
inductive ChainW (n:Net) (p:Party):List Nat→Nat→Nat→Int→Prop
 | nil (a:Nat):ChainW n p [] a a 0
 | one {w:Nat × Path} (hw:w ∈ canL n p):ChainW n p [] w.2.frm.toNat w.2.to.toNat (spanW w.2 p).hi
 | app {l1 l2:List Nat} {a v b:Nat} {c d:Int} (h1:ChainW n p l1 a v c) (h2:ChainW n p l2 v b d):ChainW n p (l1++v::l2) a b (c + d)
def SoundM (n:Net) (p:Party) (F:Mat):Prop:=∀ a b,0≤F a b∧F a b≤farW∧(F a b<farW→∃ l,ChainW n p l a b (F a b))
theorem z400 (n:Net) (p:Party):SoundM n p zeroM:=fun a b=>by
 rw [zeroM]
 by_cases h:a=b
 ·subst h;rw [if_pos rfl];exact ⟨Int.le_refl _,by decide,fun _=>⟨_,.nil a⟩⟩
 ·rw [if_neg h];exact ⟨by decide,Int.le_refl _,fun hc=>absurd hc (Int.lt_irrefl _)⟩
theorem z816 {n:Net} {p:Party} {F:Mat} {w:Nat × Path} (hw:w ∈ canL n p) (h0:0≤(spanW w.2 p).hi) (h:SoundM n p F):SoundM n p (relaxM p F w):=fun a b=>by
 rw [relaxM,updM]
 split
 ·rename_i hc
  obtain ⟨h1,h2,h3⟩:=h w.2.frm.toNat w.2.to.toNat
  rw [hc.1,hc.2]
  by_cases hm:F w.2.frm.toNat w.2.to.toNat≤(spanW w.2 p).hi
  ·rw [Int.min_eq_left hm];exact ⟨h1,h2,h3⟩
  ·rw [Int.min_eq_right (by omega)];exact ⟨h0,by omega,fun _=>⟨_,.one hw⟩⟩
 ·exact h a b
theorem z538 {n:Net} {p:Party} {F:Mat} (h:SoundM n p F) (v a b:Nat):wr (F a v + F v b)=F a v + F v b:=by
 have h1:=h a v
 have h2:=h v b
 have:farW=1099511627776:=rfl
 exact z12 (by omega)
theorem z537 {n:Net} {p:Party} {F:Mat} (h:SoundM n p F) (v x y:Nat):SoundM n p (viaM v F x y):=fun a b=>by
 rw [viaM,updM,z538 h]
 split
 ·rename_i hc
  rw [hc.1,hc.2]
  obtain ⟨h1,h2,h3⟩:=h x y
  obtain ⟨g1,g2,g3⟩:=h x v
  obtain ⟨k1,k2,k3⟩:=h v y
  by_cases hm:F x y≤F x v + F v y
  ·rw [Int.min_eq_left hm];exact ⟨h1,h2,h3⟩
  ·rw [Int.min_eq_right (by omega)]
   refine ⟨by omega,by omega,fun hl=>?_⟩
   obtain ⟨l1,c1⟩:=g3 (by omega)
   obtain ⟨l2,c2⟩:=k3 (by omega)
   exact ⟨_,.app c1 c2⟩
 ·exact h a b
theorem z1200 {n:Net} {p:Party} {F:Mat} (h:SoundM n p F) (v x y a b:Nat):viaM v F x y a b≤F a b:=by
 rw [viaM,updM,z538 h]
 split
 ·rename_i hc;rw [hc.1,hc.2];omega
 ·exact Int.le_refl _
theorem z712 {n:Net} {p:Party} {F:Mat} (h:SoundM n p F) (v x y a:Nat):viaM v F x y a v=F a v∧viaM v F x y v a=F v a:=by
 have hv:=h v v
 rw [viaM,z538 h]
 simp only [updM]
 constructor
 ·split
  ·rename_i hc;obtain ⟨rfl,rfl⟩:=hc;omega
  ·rfl
 ·split
  ·rename_i hc;obtain ⟨rfl,rfl⟩:=hc;omega
  ·rfl
theorem z428 {n:Net} {p:Party} (v a:Nat):∀ (l:List Nat) (F:Mat),SoundM n p F→SoundM n p (l.foldl (fun F b=>viaM v F a b) F) ∧
  (∀ x y,(l.foldl (fun F b=>viaM v F a b) F) x y≤F x y)∧(∀ x,(l.foldl (fun F b=>viaM v F a b) F) x v=F x v∧(l.foldl (fun F b=>viaM v F a b) F) v x=F v x) ∧
  ∀ b ∈ l,(l.foldl (fun F b=>viaM v F a b) F) a b≤F a v + F v b
 | [],F,h=>⟨h,fun _ _=>Int.le_refl _,fun _=>⟨rfl,rfl⟩,fun b hb=>by simp at hb⟩
 | b::l,F,h=>by
  obtain ⟨s1,s2,s3,s4⟩:=z428 v a l (viaM v F a b) (z537 h v a b)
  have hr:=z712 h v a b
  refine ⟨s1,fun x y=>Int.le_trans (s2 x y) (z1200 h v a b x y),fun x=>⟨(s3 x).1.trans (hr x).1,(s3 x).2.trans (hr x).2⟩,fun y hy=>?_⟩
  rcases List.mem_cons.1 hy with rfl | hy
  ·refine Int.le_trans (s2 a y) ?_
   rw [viaM,updM,if_pos ⟨rfl,rfl⟩,z538 h]
   omega
  ·have:=s4 y hy
   rw [(hr a).1,(hr y).2] at this
   exact this
theorem z229 {n:Net} {p:Party} (m v:Nat):∀ (l:List Nat) (F:Mat),SoundM n p F→SoundM n p (l.foldl (stepA m v) F) ∧
  (∀ x y,(l.foldl (stepA m v) F) x y≤F x y)∧(∀ x,(l.foldl (stepA m v) F) x v=F x v∧(l.foldl (stepA m v) F) v x=F v x) ∧
  ∀ a ∈ l,∀ b,b<m→(l.foldl (stepA m v) F) a b≤F a v + F v b
 | [],F,h=>⟨h,fun _ _=>Int.le_refl _,fun _=>⟨rfl,rfl⟩,fun b hb=>by simp at hb⟩
 | a::l,F,h=>by
  obtain ⟨t1,t2,t3,t4⟩:=z428 v a (List.range m) F h
  obtain ⟨s1,s2,s3,s4⟩:=z229 m v l (stepA m v F a) t1
  refine ⟨s1,fun x y=>Int.le_trans (s2 x y) (t2 x y),fun x=>⟨(s3 x).1.trans (t3 x).1,(s3 x).2.trans (t3 x).2⟩,fun x hx b hb=>?_⟩
  rcases List.mem_cons.1 hx with rfl | hx
  ·exact Int.le_trans (s2 x b) (t4 b (List.mem_range.2 hb))
  ·have:=s4 x hx b hb
   have e1:(stepA m v F a) x v=F x v:=(t3 x).1
   have e2:(stepA m v F a) v b=F v b:=(t3 b).2
   rw [e1,e2] at this
   exact this
end Go.Ab
namespace Go.Ab
open Go.RowKit Go.Proofs
set_option maxHeartbeats 2000000
theorem z845 {n:Net} {p:Party} {L:List Nat} {a b:Nat} {c:Int} (h:ChainW n p L a b c) {k:Nat}:k ∈ L→∃ l1 l2 c1 c2,ChainW n p l1 a k c1∧ChainW n p l2 k b c2∧c1 + c2=c∧l1.length + l2.length<L.length∧∀ x,x ∈ l1∨x ∈ l2→x ∈ L:=by
 induction h with
 | nil a=>intro h;simp at h
 | one hw=>intro h;simp at h
 | @app l1 l2 a v b c d h1 h2 ih1 ih2 =>
  intro hk
  rcases List.mem_append.1 hk with hk | hk
  ·obtain ⟨m1,m2,e1,e2,g1,g2,g3,g4,g5⟩:=ih1 hk
   refine ⟨m1,m2++v::l2,e1,e2 + d,g1,.app g2 h2,by omega,by simp;omega,fun x hx=>?_⟩
   rcases hx with hx | hx
   ·exact List.mem_append.2 (.inl (g5 x (.inl hx)))
   ·rcases List.mem_append.1 hx with hx | hx
    ·exact List.mem_append.2 (.inl (g5 x (.inr hx)))
    ·exact List.mem_append.2 (.inr hx)
  ·rcases List.mem_cons.1 hk with rfl | hk
   ·exact ⟨l1,l2,c,d,h1,h2,rfl,by simp,fun x hx=>by
     rcases hx with hx | hx
     ·exact List.mem_append.2 (.inl hx)
     ·exact List.mem_append.2 (.inr (List.mem_cons.2 (.inr hx)))⟩
   ·obtain ⟨m1,m2,e1,e2,g1,g2,g3,g4,g5⟩:=ih2 hk
    refine ⟨l1++v::m1,m2,c + e1,e2,.app h1 g1,g2,by omega,by simp;omega,fun x hx=>?_⟩
    rcases hx with hx | hx
    ·rcases List.mem_append.1 hx with hx | hx
     ·exact List.mem_append.2 (.inl hx)
     ·rcases List.mem_cons.1 hx with rfl | hx
      ·exact List.mem_append.2 (.inr (by simp))
      ·exact List.mem_append.2 (.inr (List.mem_cons.2 (.inr (g5 x (.inl hx)))))
    ·exact List.mem_append.2 (.inr (List.mem_cons.2 (.inr (g5 x (.inr hx)))))
theorem z872 {n:Net} {p:Party} (hg:n.Good) {L:List Nat} {a b:Nat} {c:Int} (h:ChainW n p L a b c):a<n.places.toNat→b<n.places.toNat∧∀ x ∈ L,x<n.places.toNat:=by
 induction h with
 | nil a=>exact fun ha=>⟨ha,fun x hx=>by simp at hx⟩
 | @one w hw =>
  intro _
  obtain ⟨_,h2,_⟩:=z86 hw
  have:=(hg.path w.2 (List.mem_of_getElem? h2)).to
  exact ⟨by omega,fun x hx=>by simp at hx⟩
 | app h1 h2 ih1 ih2 =>
  intro ha
  obtain ⟨g1,g2⟩:=ih1 ha
  obtain ⟨k1,k2⟩:=ih2 g1
  refine ⟨k1,fun x hx=>?_⟩
  rcases List.mem_append.1 hx with hx | hx
  ·exact g2 x hx
  ·rcases List.mem_cons.1 hx with rfl | hx
   ·exact g1
   ·exact k2 x hx
def Least (n:Net) (p:Party) (k:Nat) (F:Mat):Prop:=∀ (L:List Nat) (a b:Nat) (c:Int),ChainW n p L a b c→a<n.places.toNat→(∀ x ∈ L,x<k)→F a b≤c
theorem z952 {n:Net} {p:Party} (hg:n.Good) {v:Nat} {F:Mat} (hS:SoundM n p F) (hL:Least n p v F) (hv:v<n.places.toNat):Least n p (v + 1) (stepV n.places.toNat F v):=by
 obtain ⟨_,h2,h3,h4⟩:=z229 n.places.toNat v (List.range n.places.toNat) F hS
 have key:∀ (k:Nat) (L:List Nat) (a b:Nat) (c:Int),L.length≤k→ChainW n p L a b c→a<n.places.toNat→(∀ x ∈ L,x<v + 1)→stepV n.places.toNat F v a b≤c:=by
  intro k
  induction k with
  | zero =>
   intro L a b c hk hc ha hx
   have:L=[]:=List.length_eq_zero_iff.1 (by omega)
   exact Int.le_trans (h2 a b) (hL L a b c hc ha (by rw [this];intro x hx;simp at hx))
  | succ k ih =>
   intro L a b c hk hc ha hx
   by_cases hvL:v ∈ L
   ·obtain ⟨l1,l2,c1,c2,g1,g2,g3,g4,g5⟩:=z845 hc hvL
    have e1:=ih l1 a v c1 (by omega) g1 ha (fun x hh=>hx x (g5 x (.inl hh)))
    have e2:=ih l2 v b c2 (by omega) g2 hv (fun x hh=>hx x (g5 x (.inr hh)))
    have e3:=h4 a (List.mem_range.2 ha) b (z872 hg hc ha).1
    have e4:stepV n.places.toNat F v a v=F a v:=(h3 a).1
    have e5:stepV n.places.toNat F v v b=F v b:=(h3 b).2
    have e6:stepV n.places.toNat F v a b≤F a v + F v b:=e3
    omega
   ·exact Int.le_trans (h2 a b) (hL L a b c hc ha fun x hh=>by
     have:=hx x hh
     have:x≠v:=fun e=>hvL (e ▸ hh)
     omega)
 exact fun L a b c hc ha hx=>key L.length L a b c (Nat.le_refl _) hc ha hx
theorem z859 {n:Net} {p:Party}:∀ (l:List (Nat × Path)) (F:Mat),(∀ x y,(l.foldl (relaxM p) F) x y≤F x y)∧∀ w ∈ l,(l.foldl (relaxM p) F) w.2.frm.toNat w.2.to.toNat≤(spanW w.2 p).hi
 | [],F=>⟨fun _ _=>Int.le_refl _,fun w hw=>by simp at hw⟩
 | w::l,F=>by
  obtain ⟨h1,h2⟩:=z859 (n:=n) l (relaxM p F w)
  have h3:∀ x y,relaxM p F w x y≤F x y:=fun x y=>by
   rw [relaxM,updM]
   split
   ·rename_i hc;rw [hc.1,hc.2];omega
   ·exact Int.le_refl _
  refine ⟨fun x y=>Int.le_trans (h1 x y) (h3 x y),fun u hu=>?_⟩
  rcases List.mem_cons.1 hu with rfl | hu
  ·refine Int.le_trans (h1 _ _) ?_
   rw [relaxM,updM,if_pos ⟨rfl,rfl⟩]
   omega
  ·exact h2 u hu
theorem z166 {n:Net} {p:Party} (hn:n.Good) (hp:p.Good):∀ (l:List (Nat × Path)) (F:Mat),(∀ w ∈ l,w ∈ canL n p)→SoundM n p F→SoundM n p (l.foldl (relaxM p) F)
 | [],F,_,h=>h
 | w::l,F,hl,h=>by
  have hw:=hl w (by simp)
  obtain ⟨_,h2,_⟩:=z86 hw
  have ho:=(z492 (hn.path w.2 (List.mem_of_getElem? h2)) hp).1
  unfold okTime at ho
  exact z166 hn hp l _ (fun u hu=>hl u (by simp [hu])) (z816 hw (by omega) h)
theorem z281 {n:Net} {p:Party} (hn:n.Good) (hp:p.Good):SoundM n p (allM n p)∧Least n p n.places.toNat (allM n p):=by
 rw [z854 n p rfl]
 obtain ⟨B,hB⟩:∃ B,B=(canL n p).foldl (relaxM p) zeroM:=⟨_,rfl⟩
 have hS:SoundM n p B:=hB ▸ z166 hn hp _ _ (fun w hw=>hw) (z400 n p)
 have hL:Least n p 0 B:=by
  intro L a b c hc ha hx
  have hLe:L=[]:=by
   cases L with
   | nil=>rfl
   | cons x L=>exact absurd (hx x (by simp)) (Nat.not_lt_zero x)
  obtain ⟨r1,r2⟩:=z859 (n:=n) (p:=p) (canL n p) zeroM
  rw [← hB] at r1 r2
  cases hc with
  | nil=>have:=r1 a a;rw [zeroM,if_pos rfl] at this;exact this
  | one hw=>exact r2 _ hw
  | app h1 h2=>simp at hLe
 rw [← hB]
 have:∀ k,k≤n.places.toNat→SoundM n p ((List.range k).foldl (stepV n.places.toNat) B)∧Least n p k ((List.range k).foldl (stepV n.places.toNat) B):=by
  intro k
  induction k with
  | zero=>exact fun _=>⟨hS,hL⟩
  | succ k ih =>
   intro hk
   obtain ⟨h1,h2⟩:=ih (by omega)
   rw [z171]
   exact ⟨(z229 n.places.toNat k (List.range n.places.toNat) _ h1).1,z952 hn h1 h2 (by omega)⟩
 exact this _ (Nat.le_refl _)
end Go.Ab
namespace Go.Ab
open Go.RowKit Go.Proofs
set_option maxHeartbeats 2000000
theorem z199 {n:Net} {p:Party} {a b:Int} (hc:checkPartyF n p=0) (hb:badWay n a b=false) :
  (allM n p a.toNat b.toNat<farW∧wayF n p a b=(allM n p a.toNat b.toNat,0))∨(¬ allM n p a.toNat b.toNat<farW∧wayF n p a b=(0,3)):=by
 rw [wayF,if_neg (fun h=>h hc),hb,if_neg (by decide)]
 by_cases h:allM n p a.toNat b.toNat<farW
 ·rw [if_pos h];exact .inl ⟨h,rfl⟩
 ·rw [if_neg h];exact .inr ⟨h,rfl⟩
theorem z1184 {n:Net} {p:Party} (hn:n.Good) (hp:p.Good) {a b c:Nat} (ha:a<n.places.toNat) (hb:b<n.places.toNat) (h1:allM n p a b<farW) (h2:allM n p b c<farW):allM n p a c≤allM n p a b + allM n p b c:=by
 obtain ⟨hS,hL⟩:=z281 hn hp
 obtain ⟨l1,c1⟩:=(hS a b).2.2 h1
 obtain ⟨l2,c2⟩:=(hS b c).2.2 h2
 have h:=ChainW.app c1 c2
 exact hL _ _ _ _ h ha (z872 hn h ha).2
theorem z1185 {n:Net} {p:Party} (hn:n.Good) (hp:p.Good) {w:Nat × Path} (hw:w ∈ canL n p):allM n p w.2.frm.toNat w.2.to.toNat≤(spanW w.2 p).hi:=by
 obtain ⟨hS,hL⟩:=z281 hn hp
 obtain ⟨_,h2,_⟩:=z86 hw
 have hf:=(hn.path w.2 (List.mem_of_getElem? h2)).frm
 exact hL _ _ _ _ (.one hw) (by omega) (fun x hx=>by simp at hx)
theorem z1139 {n:Net} {p:Party} (hn:n.Good) (hp:p.Good) {a:Nat} (ha:a<n.places.toNat):allM n p a a=0:=by
 obtain ⟨hS,hL⟩:=z281 hn hp
 have h1:=hL _ _ _ _ (ChainW.nil (n:=n) (p:=p) a) ha (fun x hx=>by simp at hx)
 have h2:=(hS a a).1
 omega
def Bnd (F:Mat) (K:Int):Prop:=∀ a b,F a b<farW→F a b≤K
def Near (n:Net) (p:Party) (v:Nat) (K:Int) (G:Mat):Prop:=SoundM n p G∧(∀ x,G x v<farW→G x v≤K)∧(∀ x,G v x<farW→G v x≤K)∧Bnd G (2 * K)
theorem z1069 {n:Net} {p:Party} {v:Nat} {K:Int} {G:Mat} (x y:Nat) (h:Near n p v K G):Near n p v K (viaM v G x y):=by
 obtain ⟨h1,h2,h3,h4⟩:=h
 refine ⟨z537 h1 v x y,fun a=>?_,fun a=>?_,fun a b hl=>?_⟩
 ·rw [(z712 h1 v x y a).1];exact h2 a
 ·rw [(z712 h1 v x y a).2];exact h3 a
 ·rw [viaM,updM,z538 h1] at hl ⊢
  split at hl
  ·rename_i hc
   rw [if_pos hc]
   have g1:=h1 x v
   have g2:=h1 v y
   have g3:=h4 x y
   have g4:=h2 x
   have g5:=h3 y
   omega
  ·rename_i hc
   rw [if_neg hc]
   exact h4 a b hl
theorem z319 {α:Type} {n:Net} {p:Party} {v:Nat} {K:Int} (f:Mat→α→Mat) (hf:∀ G a,Near n p v K G→Near n p v K (f G a)):∀ (l:List α) (G:Mat),Near n p v K G→Near n p v K (l.foldl f G)
 | [],_,h=>h
 | a::l,G,h=>z319 f hf l _ (hf G a h)
theorem z1074 {n:Net} {p:Party} {m v:Nat} {K:Int} {F:Mat} (hK:0≤K) (hS:SoundM n p F) (hB:Bnd F K):SoundM n p (stepV m F v)∧Bnd (stepV m F v) (2 * K):=by
 have h:=z319 (stepA m v) (fun G a h=>z319 (fun F b=>viaM v F a b) (fun G b h=>z1069 a b h) _ G h) (List.range m) F (n:=n) (p:=p) (v:=v) (K:=K) ⟨hS,fun x hx=>hB x v hx,fun x hx=>hB v x hx,fun a b hl=>by have:=hB a b hl;omega⟩
 exact ⟨h.1,h.2.2.2⟩
theorem z413 {n:Net} {p:Party} (hn:n.Good) (hp:p.Good):∀ (l:List (Nat × Path)) (F:Mat),(∀ w ∈ l,w ∈ canL n p)→Bnd F 6000→Bnd (l.foldl (relaxM p) F) 6000
 | [],F,_,h=>h
 | w::l,F,hl,h=>by
  have hw:=hl w (by simp)
  obtain ⟨_,h2,_⟩:=z86 hw
  have ho:=(z492 (hn.path w.2 (List.mem_of_getElem? h2)) hp).1
  unfold okTime at ho
  refine z413 hn hp l _ (fun u hu=>hl u (by simp [hu])) fun a b hlt=>?_
  rw [relaxM,updM] at hlt ⊢
  split at hlt
  ·rename_i hc
   rw [if_pos hc]
   omega
  ·rename_i hc
   rw [if_neg hc]
   exact h a b hlt
theorem z1093:∀ k:Nat,k≤12→(6000:Int) * 2 ^ k≤24576000:=by decide
theorem z1059 {n:Net} {p:Party} (hn:n.Good) (hp:p.Good):Bnd (allM n p) 24576000:=by
 rw [z854 n p rfl]
 obtain ⟨B,hB⟩:∃ B,B=(canL n p).foldl (relaxM p) zeroM:=⟨_,rfl⟩
 have hS:SoundM n p B:=hB ▸ z166 hn hp _ _ (fun w hw=>hw) (z400 n p)
 have h0:Bnd B 6000:=hB ▸ z413 hn hp _ _ (fun w hw=>hw) (fun a b hl=>by
  rw [zeroM] at hl ⊢
  split at hl
  ·rename_i hc;rw [if_pos hc];decide
  ·exact absurd hl (Int.lt_irrefl _))
 rw [← hB]
 have:∀ k:Nat,SoundM n p ((List.range k).foldl (stepV n.places.toNat) B)∧Bnd ((List.range k).foldl (stepV n.places.toNat) B) (6000 * 2 ^ k):=by
  intro k
  induction k with
  | zero=>exact ⟨hS,by simpa using h0⟩
  | succ k ih =>
   rw [z171]
   have h2:(0:Int)≤6000 * 2 ^ k:=Int.mul_nonneg (by decide) (Int.pow_nonneg (by decide))
   have:=z1074 (m:=n.places.toNat) (v:=k) h2 ih.1 ih.2
   refine ⟨this.1,fun a b hl=>?_⟩
   have h3:=this.2 a b hl
   rw [Int.pow_succ]
   omega
 have hpl:=hn.places
 have h1:=this n.places.toNat
 exact fun a b hl=>Int.le_trans (h1.2 a b hl) (z1093 _ (by omega))
end Go.Ab
namespace Go.Ab
open Go.RowKit Go.Proofs
set_option maxHeartbeats 4000000
set_option maxRecDepth 20000
attribute [local irreducible] WalkL Walk
def farM (n:Net):Bool:=decide ((n.paths.length:Int) > 60) || (n.paths.any (fun x=>decide ((x.opens.length:Int) > 20)) || (!badNet n && (decide (n.places > 5) || decide ((n.paths.length:Int) > 8))))
theorem zf22 (n:Net) (hs:n.Small):Fn Tryd.prog 22 [.agg n.cells] (.bool (farM n)):=by
 have h27:=zf58 n hs
 have hb0:=hs.paths
 refine z10 37 Tryd.call22 Tryd.func22 rfl (by decide) fun J=>?_
 simp only [go_sem,St.start,Tryd.ntmps22,Tryd.results22,Net.cells]
 repeat (first | refine nx ?_ | (refine z3 fun K hK=>?_;simp only [go_sem];apply hK;clear hK K))
 refine z5 rfl (fun hc=>?_) (fun hc=>?_)
 ·repeat (first | refine nx ?_ | (refine z3 fun K hK=>?_;simp only [go_sem];apply hK;clear hK K))
  simp only [go_sem,farM,hc]
 ·repeat (first | refine nx ?_ | (refine z3 fun K hK=>?_;simp only [go_sem];apply hK;clear hK K))
  refine z15 (fun (i:Nat)=>[(3,.d (.i i))]) (fun _=>[]) (fun i=>i≤n.paths.length∧(n.paths.take i).any (fun x=>decide ((x.opens.length:Int) > 20))=false) (fun i=>n.paths.length - i) 0 ?_ ⟨Nat.zero_le _,rfl⟩ ?_
  ·simp only [go_sem]
   refine weA ?_ ?_ <;> simp
  ·intro i ⟨hi,hall⟩
   simp only [go_sem]
   repeat (first | refine nx ?_ | (refine z3 fun K hK=>?_;simp only [go_sem];apply hK;clear hK K))
   refine z5 rfl (fun hb=>?_) (fun hb=>?_)
   ·have hlt:i<n.paths.length:=by simpa using hb
    have hw:IntKind.i64.wrap ((i:Int) + 1)=((i + 1:Nat):Int):=by rw [z12 (by omega)];simp
    obtain ⟨x,hx⟩:∃ x,n.paths[i]?=some x:=⟨_,List.getElem?_eq_getElem hlt⟩
    repeat (first | refine nx ?_ | (refine z3 fun K hK=>?_;simp only [go_sem,hx,List.getElem?_map,Path.row];apply hK;clear hK K))
    refine z5 rfl (fun hd=>?_) (fun hd=>?_)
    ·repeat (first | refine nx ?_ | (refine z3 fun K hK=>?_;simp only [go_sem];apply hK;clear hK K))
     have ha:=z183 (q:=fun x:Path=>decide ((x.opens.length:Int) > 20)) hx hd
     simp only [go_sem,farM,hc,ha]
    ·repeat (first | refine nx ?_ | (refine z3 fun K hK=>?_;simp only [go_sem,hw];apply hK;clear hK K))
     refine ⟨rfl,i + 1,?_,⟨hlt,z152 hx hall hd⟩,by omega⟩
     refine weA ?_ ?_ <;> simp
   ·have he:i=n.paths.length:=by (have:¬ i<n.paths.length:=by simpa using hb);omega
    subst he
    rw [List.take_length] at hall
    have hf:farM n=(!badNet n && (decide (n.places > 5) || decide ((n.paths.length:Int) > 8))):=by unfold farM;rw [hc,hall];rfl
    rw [hf]
    by_cases hbad:badNet n=true
    ·repeat (first | refine nx ?_ | (refine z3 fun K hK=>?_;simp only [go_sem,checkF,hbad];(repeat (first | (refine ⟨_,.lent (hf:=h27) (hd:=rfl) (hr:=rfl),?_⟩;simp only [go_sem,checkF,hbad]) | (refine ⟨_,.given (hf:=h27) (hd:=rfl) (ha:=rfl),?_⟩;simp only [go_sem,checkF,hbad])));apply hK;clear hK K))
     try simp only [go_sem,hbad]
    ·by_cases hp:n.places > 5
     ·repeat (first | refine nx ?_ | (refine z3 fun K hK=>?_;simp only [go_sem,checkF,hbad,hp];(repeat (first | (refine ⟨_,.lent (hf:=h27) (hd:=rfl) (hr:=rfl),?_⟩;simp only [go_sem,checkF,hbad,hp]) | (refine ⟨_,.given (hf:=h27) (hd:=rfl) (ha:=rfl),?_⟩;simp only [go_sem,checkF,hbad,hp])));apply hK;clear hK K))
      simp only [go_sem,hbad,hp]
     ·repeat (first | refine nx ?_ | (refine z3 fun K hK=>?_;simp only [go_sem,checkF,hbad,hp];(repeat (first | (refine ⟨_,.lent (hf:=h27) (hd:=rfl) (hr:=rfl),?_⟩;simp only [go_sem,checkF,hbad,hp]) | (refine ⟨_,.given (hf:=h27) (hd:=rfl) (ha:=rfl),?_⟩;simp only [go_sem,checkF,hbad,hp])));apply hK;clear hK K))
      simp only [go_sem,hbad,hp]
end Go.Ab
namespace Go.Ab
open Go.RowKit Go.Proofs
set_option maxHeartbeats 16000000
set_option maxRecDepth 20000
attribute [local irreducible] WalkL Walk
structure ThreeT where
 a:Int
 b:Int
 c:Int
 path:Int
def ThreeT.row (y:ThreeT):List DV:=[.i y.a,.i y.b,.i y.c,.i y.path]
def badThree (n:Net) (p:Party) (y:ThreeT):Bool:=farM n || ((checkPartyF n p != 0) || (badBase n y.a || (badBase n y.b || badBase n y.c)))
theorem z1146 {n:Net} {p:Party} {y:ThreeT} (hb:badThree n p y=false) {x z:Int × Int} {u:Int × Int} (hx:x=wayF n p y.a y.b) (hz:z=wayF n p y.b y.c) (hu:u=wayF n p y.a y.c) :
  ((x.2=0∨x.2=3)∧(z.2=0∨z.2=3)∧(u.2=0∨u.2=3))∧(x.2=0→z.2=0→u.2=0∧u.1≤wr (x.1 + z.1))∧(y.a=y.b→x.2=0∧x.1=0):=by
 simp only [badThree,Bool.or_eq_false_iff,bne_eq_false_iff_eq] at hb
 obtain ⟨_,hc,ha,hb',hc'⟩:=hb
 obtain ⟨hn,hp⟩:=z85.1 hc
 have b1:badWay n y.a y.b=false:=by rw [badWay,Bool.or_eq_false_iff];exact ⟨ha,hb'⟩
 have b2:badWay n y.b y.c=false:=by rw [badWay,Bool.or_eq_false_iff];exact ⟨hb',hc'⟩
 have b3:badWay n y.a y.c=false:=by rw [badWay,Bool.or_eq_false_iff];exact ⟨ha,hc'⟩
 simp only [badBase,Bool.not_eq_false',z17] at ha hb' hc'
 have hS:=(z281 hn hp).1
 have s1:=hS y.a.toNat y.b.toNat
 have s2:=hS y.b.toNat y.c.toNat
 have s3:=hS y.a.toNat y.c.toNat
 have hf:farW=1099511627776:=rfl
 have hbd:=z1059 hn hp
 have k1:=hbd y.a.toNat y.b.toNat
 have k2:=hbd y.b.toNat y.c.toNat
 have htri:=z1184 hn hp (a:=y.a.toNat) (b:=y.b.toNat) (c:=y.c.toNat) (by omega) (by omega)
 have hself:y.a=y.b→allM n p y.a.toNat y.b.toNat=0:=fun h=>by rw [← h];exact z1139 hn hp (by omega)
 subst hx;subst hz;subst hu
 obtain ⟨X,hX⟩:∃ X,X=allM n p y.a.toNat y.b.toNat:=⟨_,rfl⟩
 obtain ⟨Z,hZ⟩:∃ X,X=allM n p y.b.toNat y.c.toNat:=⟨_,rfl⟩
 obtain ⟨U,hU⟩:∃ X,X=allM n p y.a.toNat y.c.toNat:=⟨_,rfl⟩
 have w1:=z199 hc b1
 have w2:=z199 hc b2
 have w3:=z199 hc b3
 rw [← hX] at w1 k1 s1 htri hself
 rw [← hZ] at w2 k2 s2 htri
 rw [← hU] at w3 s3 htri
 clear hX hZ hU
 rcases w1 with ⟨c1,d1⟩ | ⟨c1,d1⟩ <;> rcases w2 with ⟨c2,d2⟩ | ⟨c2,d2⟩ <;> rcases w3 with ⟨c3,d3⟩ | ⟨c3,d3⟩ <;> rw [d1,d2,d3] <;> dsimp only
 all_goals refine ⟨⟨by first | exact .inl rfl | exact .inr rfl,by first | exact .inl rfl | exact .inr rfl,by first | exact .inl rfl | exact .inr rfl⟩,fun q1 q2=>?_,fun q=>?_⟩
 all_goals first
  | (exfalso;omega)
  | (refine ⟨rfl,?_⟩;first | (rw [show wr (X + Z)=X + Z from z12 (by omega)];exact htri c1 c2) | exact hself q)
  | (exfalso;have:=hself q;omega)
  | (exfalso;have:=htri c1 c2;omega)
theorem z1068 {n:Net} {p:Party} {y:ThreeT} (hb:badThree n p y=false) {k:Nat} {z:Path} (hk:y.path=k) (hz:n.paths[k]?=some z) (hf:z.frm=y.a) (ht:z.to=y.b) :
  ((walkF n p y.path).2≠0)∨((wayF n p y.a y.b).2=0∧(wayF n p y.a y.b).1≤(walkF n p y.path).1.hi):=by
 simp only [badThree,Bool.or_eq_false_iff,bne_eq_false_iff_eq] at hb
 obtain ⟨_,hc,ha,hb',hc'⟩:=hb
 obtain ⟨hn,hp⟩:=z85.1 hc
 have b1:badWay n y.a y.b=false:=by rw [badWay,Bool.or_eq_false_iff];exact ⟨ha,hb'⟩
 have hkl:=(List.getElem?_eq_some_iff.1 hz).1
 have hw:withinB (k:Int) 0 (n.paths.length - 1)=true:=z17.2 ⟨by omega,by omega⟩
 rw [walkF,if_pos hc,hk,if_pos hw,Int.toNat_natCast,hz]
 dsimp only
 by_cases hg:z.grade≤p.grade
 ·right
  rw [if_pos hg]
  have hm:=z327 hz hg hkl
  have h1:=z1185 hn hp (w:=(k,z)) hm
  dsimp only at h1
  rw [hf,ht] at h1
  have ho:=(z492 (hn.path z (List.mem_of_getElem? hz)) hp).1
  unfold okTime at ho
  have hfw:farW=1099511627776:=rfl
  rcases z199 hc b1 with ⟨c1,d1⟩ | ⟨c1,d1⟩
  ·rw [d1];exact ⟨rfl,h1⟩
  ·omega
 ·left
  rw [if_neg hg]
  simp
theorem zf6 (n:Net) (p:Party) (y:ThreeT) (hs:n.Small):Fn Tryd.prog 6 [.agg n.cells,.agg p.cells,.agg y.row] (.bool true):=by
 have h22:=zf22 n hs
 have h23:=zf23 n p hs
 have h14:=zf14
 have hpl:=hs.paths
 have h25a:=zf25 n p y.a y.b hs
 have h25b:=zf25 n p y.b y.c hs
 have h25c:=zf25 n p y.a y.c hs
 have h26:=zf26 n y.path (by omega)
 have h27:=zf27 n p y.path hs
 by_cases hbase:farM n=true∨checkPartyF n p≠0
 ·rw [Net.cells] at *
  rw [Party.cells] at *
  refine z10 184 Tryd.call6 Tryd.func6 rfl (by decide) fun J=>?_
  simp only [go_sem,St.start,Tryd.ntmps6,Tryd.results6,Net.cells,Party.cells,ThreeT.row]
  cases hf:farM n
  ·have hc:(checkPartyF n p != 0)=true:=by simpa [hf] using hbase
   rw [hf] at h22
   repeat (first | refine nx ?_ | (refine z3 fun K hK=>?_;simp only [go_sem,hc];(repeat (first | (refine ⟨_,.lent (hf:=h22) (hd:=rfl) (hr:=rfl),?_⟩;simp only [go_sem,hc]) | (refine ⟨_,.lent (hf:=h23) (hd:=rfl) (hr:=rfl),?_⟩;simp only [go_sem,hc]) | (refine ⟨_,.given (hf:=h22) (hd:=rfl) (ha:=rfl),?_⟩;simp only [go_sem,hc]) | (refine ⟨_,.given (hf:=h23) (hd:=rfl) (ha:=rfl),?_⟩;simp only [go_sem,hc])));apply hK;clear hK K))
   refine z9 rfl ?_
   repeat (first | refine nx ?_ | (refine z3 fun K hK=>?_;simp only [go_sem];(repeat (first | (refine ⟨_,.lent (hf:=h14) (hd:=rfl) (hr:=rfl),?_⟩;simp only [go_sem]) | (refine ⟨_,.given (hf:=h14) (hd:=rfl) (ha:=rfl),?_⟩;simp only [go_sem])));apply hK;clear hK K))
   simp only [go_sem]
  ·rw [hf] at h22
   repeat (first | refine nx ?_ | (refine z3 fun K hK=>?_;simp only [go_sem];(repeat (first | (refine ⟨_,.lent (hf:=h22) (hd:=rfl) (hr:=rfl),?_⟩;simp only [go_sem]) | (refine ⟨_,.given (hf:=h22) (hd:=rfl) (ha:=rfl),?_⟩;simp only [go_sem])));apply hK;clear hK K))
   refine z9 rfl ?_
   repeat (first | refine nx ?_ | (refine z3 fun K hK=>?_;simp only [go_sem];(repeat (first | (refine ⟨_,.lent (hf:=h14) (hd:=rfl) (hr:=rfl),?_⟩;simp only [go_sem]) | (refine ⟨_,.given (hf:=h14) (hd:=rfl) (ha:=rfl),?_⟩;simp only [go_sem])));apply hK;clear hK K))
   simp only [go_sem]
 ·rw [not_or] at hbase
  obtain ⟨hfar,hok⟩:=hbase
  have hok:=Classical.not_not.1 hok
  obtain ⟨hg,hp⟩:=z85.1 hok
  have hplc:=hg.places
  have h24:=fun x=>zf24 n x (by omega)
  have law:=fun hb=>z1146 (n:=n) (p:=p) (y:=y) hb rfl rfl rfl
  have law2:∀ (hb:badThree n p y=false) (k:Nat) (z:Path),y.path=k→n.paths[k]?=some z→z.frm=y.a→z.to=y.b→((walkF n p y.path).2≠0)∨((wayF n p y.a y.b).2=0∧(wayF n p y.a y.b).1≤(walkF n p y.path).1.hi):=fun hb k z h1 h2 h3 h4=>z1068 hb h1 h2 h3 h4
  obtain ⟨⟨a,e⟩,hx⟩:∃ x,x=wayF n p y.a y.b:=⟨_,rfl⟩
  obtain ⟨⟨b,f⟩,hz⟩:∃ x,x=wayF n p y.b y.c:=⟨_,rfl⟩
  obtain ⟨⟨c,g⟩,hu⟩:∃ x,x=wayF n p y.a y.c:=⟨_,rfl⟩
  obtain ⟨⟨sp,h⟩,hv⟩:∃ x,x=walkF n p y.path:=⟨_,rfl⟩
  rw [← hx] at h25a law law2
  rw [← hz] at h25b law
  rw [← hu] at h25c law
  rw [← hv,Span.row] at h27
  rw [← hv] at law2
  dsimp only at h25a h25b h25c h27 law law2
  rw [Net.cells] at *
  rw [Party.cells] at *
  refine z10 184 Tryd.call6 Tryd.func6 rfl (by decide) fun J=>?_
  simp only [go_sem,St.start,Tryd.ntmps6,Tryd.results6,Net.cells,Party.cells,ThreeT.row]
  repeat (first | refine nx ?_ | (refine z3 fun K hK=>?_;simp only [go_sem];apply hK;clear hK K))
  refine z21 [(43,.d (.bool (badThree n p y)))] [] ?_ ?_
  ·refine z3 fun K hK=>?_
   simp only [go_sem]
   refine ⟨_,.lent (hf:=h22) (hd:=rfl) (hr:=rfl),?_⟩
   simp only [go_sem]
   by_cases ho0:(farM n)=true
   ·simp only [go_sem,ho0]
    apply hK
    clear hK K
    refine z7 ?_
    refine z4 ?_
    refine ⟨rfl,?_⟩
    rw [show (badThree n p y)=(true) from by simp [badThree,badBase,ho0]]
    simp only [go_sem]
    refine weA ?_ ?_ <;> simp
   ·simp only [go_sem,ho0]
    refine ⟨_,.lent (hf:=h23) (hd:=rfl) (hr:=rfl),?_⟩
    simp only [go_sem,ho0]
    by_cases ho1:((checkPartyF n p != 0))=true
    ·simp only [go_sem,ho0,ho1]
     apply hK
     clear hK K
     refine z7 ?_
     refine z4 ?_
     refine ⟨rfl,?_⟩
     rw [show (badThree n p y)=(true) from by simp [badThree,badBase,ho0,ho1]]
     simp only [go_sem]
     refine weA ?_ ?_ <;> simp
    ·simp only [go_sem,ho0,ho1]
     refine ⟨_,.lent (hf:=h24 y.a) (hd:=rfl) (hr:=rfl),?_⟩
     simp only [go_sem,ho0,ho1]
     by_cases ho2:(!withinB y.a 0 (n.places - 1))=true
     ·simp only [go_sem,ho0,ho1,ho2]
      apply hK
      clear hK K
      refine z7 ?_
      refine z4 ?_
      refine ⟨rfl,?_⟩
      rw [show (badThree n p y)=(true) from by simp [badThree,badBase,ho0,ho1,ho2]]
      simp only [go_sem]
      refine weA ?_ ?_ <;> simp
     ·simp only [go_sem,ho0,ho1,ho2]
      refine ⟨_,.lent (hf:=h24 y.b) (hd:=rfl) (hr:=rfl),?_⟩
      simp only [go_sem,ho0,ho1,ho2]
      by_cases ho3:(!withinB y.b 0 (n.places - 1))=true
      ·simp only [go_sem,ho0,ho1,ho2,ho3]
       apply hK
       clear hK K
       refine z7 ?_
       refine z4 ?_
       refine ⟨rfl,?_⟩
       rw [show (badThree n p y)=(true) from by simp [badThree,badBase,ho0,ho1,ho2,ho3]]
       simp only [go_sem]
       refine weA ?_ ?_ <;> simp
      ·simp only [go_sem,ho0,ho1,ho2,ho3]
       refine ⟨_,.lent (hf:=h24 y.c) (hd:=rfl) (hr:=rfl),?_⟩
       simp only [go_sem,ho0,ho1,ho2,ho3]
       apply hK
       clear hK K
       refine z7 ?_
       refine z4 ?_
       refine ⟨rfl,?_⟩
       rw [show (badThree n p y)=(!withinB y.c 0 (n.places - 1)) from by simp [badThree,badBase,ho0,ho1,ho2,ho3]]
       simp only [go_sem]
       refine weA ?_ ?_ <;> simp
  simp only [go_sem]
  by_cases hb:badThree n p y=true
  ·refine z5 (b:=true) (by rw [← hb];rfl) (fun _=>?_) (fun hc=>by cases hc)
   repeat (first | refine nx ?_ | (refine z3 fun K hK=>?_;simp only [go_sem];(repeat (first | (refine ⟨_,.lent (hf:=h14) (hd:=rfl) (hr:=rfl),?_⟩;simp only [go_sem]) | (refine ⟨_,.given (hf:=h14) (hd:=rfl) (ha:=rfl),?_⟩;simp only [go_sem])));apply hK;clear hK K))
   simp only [go_sem]
  ·have hb:badThree n p y=false:=by simpa using hb
   refine z5 (b:=false) (by rw [← hb];rfl) (fun hc=>by cases hc) (fun _=>?_)
   obtain ⟨⟨l1,l2,l3⟩,l4,l5⟩:=law hb
   have law2:=law2 hb
   repeat (first | refine nx ?_ | (refine z3 fun K hK=>?_;simp only [go_sem];(repeat (first | (refine ⟨_,.lent (hf:=h25a) (hd:=rfl) (hr:=rfl),?_⟩;simp only [go_sem]) | (refine ⟨_,.lent (hf:=h25b) (hd:=rfl) (hr:=rfl),?_⟩;simp only [go_sem]) | (refine ⟨_,.lent (hf:=h25c) (hd:=rfl) (hr:=rfl),?_⟩;simp only [go_sem]) | (refine ⟨_,.given (hf:=h25a) (hd:=rfl) (ha:=rfl),?_⟩;simp only [go_sem]) | (refine ⟨_,.given (hf:=h25b) (hd:=rfl) (ha:=rfl),?_⟩;simp only [go_sem]) | (refine ⟨_,.given (hf:=h25c) (hd:=rfl) (ha:=rfl),?_⟩;simp only [go_sem])));apply hK;clear hK K))
   refine z21 [(130,.d (.bool false))] [] ?_ ?_
   ·refine z3 fun K hK=>?_
    have hab:(y.a == y.b)=true→e=0∧a=0:=fun q=>l5 (by simpa using q)
    have hcle:e=0→f=0→decide (c > wr (a + b))=false:=fun q1 q2=>decide_eq_false (by have:=(l4 q1 q2).2;omega)
    rw [wr] at hcle
    have hcle0:decide (c > IntKind.i64.wrap (a + b))=false∨¬ (e=0∧f=0):=by
     by_cases q:e=0∧f=0
     ·exact .inl (hcle q.1 q.2)
     ·exact .inr q
    cases hq:y.a == y.b
    ·clear hab
     rcases l1 with rfl | rfl
     all_goals rcases l2 with rfl | rfl
     all_goals rcases l3 with rfl | rfl
     all_goals first
      | (exfalso;have:=(l4 rfl rfl).1;simp at this;done)
      | skip
     all_goals rcases hcle0 with hcle0 | hcle0
     all_goals first
      | (exfalso;exact hcle0 ⟨rfl,rfl⟩)
      | (simp only [go_sem,hq,hcle0];apply hK;clear hK K;refine z7 ?_;refine z4 ?_;refine ⟨rfl,?_⟩;simp only [go_sem];refine weA ?_ ?_ <;> simp)
    ·obtain ⟨rfl,rfl⟩:=hab hq
     rcases l2 with rfl | rfl
     all_goals rcases l3 with rfl | rfl
     all_goals first
      | (exfalso;have:=(l4 rfl rfl).1;simp at this;done)
      | skip
     all_goals rcases hcle0 with hcle0 | hcle0
     all_goals first
      | (exfalso;exact hcle0 ⟨rfl,rfl⟩)
      | (simp only [go_sem,hq,hcle0];apply hK;clear hK K;refine z7 ?_;refine z4 ?_;refine ⟨rfl,?_⟩;simp only [go_sem];refine weA ?_ ?_ <;> simp)
   ·simp only [go_sem]
    refine z6 rfl ?_
    refine z40 ?_
    cases hw:withinB y.path 0 ((n.paths.length:Int) - 1)
    ·rw [hw] at h26
     repeat (first | refine nx ?_ | (refine z3 fun K hK=>?_;simp only [go_sem];apply hK;clear hK K))
     refine z8 (by kernel_rfl) (by kernel_rfl) fun K hK=>?_
     simp only [go_sem]
     refine ⟨_,.fn (hf:=h26) (hd:=rfl) (hr:=.inl rfl),?_⟩
     simp only [go_sem]
     refine ⟨by kernel_rfl,hK _ ?_⟩
     clear hK K
     refine z9 rfl ?_
     repeat (first | refine nx ?_ | (refine z3 fun K hK=>?_;simp only [go_sem];(repeat (first | (refine ⟨_,.lent (hf:=h14) (hd:=rfl) (hr:=rfl),?_⟩;simp only [go_sem]) | (refine ⟨_,.given (hf:=h14) (hd:=rfl) (ha:=rfl),?_⟩;simp only [go_sem])));apply hK;clear hK K))
     simp only [go_sem]
    ·rw [hw] at h26
     obtain ⟨w1,w2⟩:=z17.1 hw
     obtain ⟨k,hk⟩:∃ k:Nat,y.path=k:=⟨y.path.toNat,by omega⟩
     have hkl:k<n.paths.length:=by omega
     obtain ⟨z,hz1⟩:∃ z,n.paths[k]?=some z:=⟨_,List.getElem?_eq_getElem hkl⟩
     have gp:(n.paths.map Path.row)[k]?=some z.row:=by rw [List.getElem?_map,hz1];rfl
     rw [Path.row] at gp
     have n1:¬ ((k:Int)<0):=by omega
     have hrl:(n.paths.map Path.row).length=n.paths.length:=by simp
     rw [hk] at h26 h27
     cases q1:z.frm != y.a
     ·cases q2:z.to != y.b
      ·have hlaw:=law2 k z hk hz1 (by simpa using q1) (by simpa using q2)
       repeat (first | refine nx ?_ | (refine z3 fun K hK=>?_;simp only [go_sem];apply hK;clear hK K))
       refine z8 (by kernel_rfl) (by kernel_rfl) fun K hK=>?_
       simp only [go_sem,hk,gp,hkl,n1,hrl]
       refine ⟨_,.fn (hf:=h26) (hd:=rfl) (hr:=.inl rfl),?_⟩
       simp only [go_sem,hk,gp,hkl,n1,hrl,q1,q2]
       refine ⟨by kernel_rfl,hK _ ?_⟩
       clear hK K
       refine z6 rfl ?_
       repeat (first | refine nx ?_ | (refine z3 fun K hK=>?_;simp only [go_sem,hk];(repeat (first | (refine ⟨_,.lent (hf:=h27) (hd:=rfl) (hr:=rfl),?_⟩;simp only [go_sem,hk]) | (refine ⟨_,.given (hf:=h27) (hd:=rfl) (ha:=rfl),?_⟩;simp only [go_sem,hk])));apply hK;clear hK K))
       by_cases q3:h=0
       ·obtain ⟨rfl,q4⟩:=hlaw.resolve_left fun hh=>hh q3
        subst q3
        have q5:decide (a≤sp.hi)=true:=decide_eq_true q4
        repeat (first | refine nx ?_ | (refine z3 fun K hK=>?_;simp only [go_sem,q5];(repeat (first | (refine ⟨_,.lent (hf:=h14) (hd:=rfl) (hr:=rfl),?_⟩;simp only [go_sem,q5]) | (refine ⟨_,.given (hf:=h14) (hd:=rfl) (ha:=rfl),?_⟩;simp only [go_sem,q5])));apply hK;clear hK K))
        simp only [go_sem]
       ·have q4:(h != 0)=true:=by simpa using q3
        repeat (first | refine nx ?_ | (refine z3 fun K hK=>?_;simp only [go_sem,q4];(repeat (first | (refine ⟨_,.lent (hf:=h14) (hd:=rfl) (hr:=rfl),?_⟩;simp only [go_sem,q4]) | (refine ⟨_,.given (hf:=h14) (hd:=rfl) (ha:=rfl),?_⟩;simp only [go_sem,q4])));apply hK;clear hK K))
        simp only [go_sem]
      ·repeat (first | refine nx ?_ | (refine z3 fun K hK=>?_;simp only [go_sem];apply hK;clear hK K))
       refine z8 (by kernel_rfl) (by kernel_rfl) fun K hK=>?_
       simp only [go_sem,hk,gp,hkl,n1,hrl]
       refine ⟨_,.fn (hf:=h26) (hd:=rfl) (hr:=.inl rfl),?_⟩
       simp only [go_sem,hk,gp,hkl,n1,hrl,q1,q2]
       refine ⟨by kernel_rfl,hK _ ?_⟩
       clear hK K
       refine z9 rfl ?_
       repeat (first | refine nx ?_ | (refine z3 fun K hK=>?_;simp only [go_sem];(repeat (first | (refine ⟨_,.lent (hf:=h14) (hd:=rfl) (hr:=rfl),?_⟩;simp only [go_sem]) | (refine ⟨_,.given (hf:=h14) (hd:=rfl) (ha:=rfl),?_⟩;simp only [go_sem])));apply hK;clear hK K))
       simp only [go_sem]
     ·repeat (first | refine nx ?_ | (refine z3 fun K hK=>?_;simp only [go_sem];apply hK;clear hK K))
      refine z8 (by kernel_rfl) (by kernel_rfl) fun K hK=>?_
      simp only [go_sem,hk,gp,hkl,n1,hrl]
      refine ⟨_,.fn (hf:=h26) (hd:=rfl) (hr:=.inl rfl),?_⟩
      simp only [go_sem,hk,gp,hkl,n1,hrl,q1]
      refine ⟨by kernel_rfl,hK _ ?_⟩
      clear hK K
      refine z9 rfl ?_
      repeat (first | refine nx ?_ | (refine z3 fun K hK=>?_;simp only [go_sem];(repeat (first | (refine ⟨_,.lent (hf:=h14) (hd:=rfl) (hr:=rfl),?_⟩;simp only [go_sem]) | (refine ⟨_,.given (hf:=h14) (hd:=rfl) (ha:=rfl),?_⟩;simp only [go_sem])));apply hK;clear hK K))
      simp only [go_sem]
end Go.Ab
namespace Go.Ab
open Go.RowKit Go.Proofs Go.ChangeShapes Go.WideShapes Go.Proofs.YtfkbbaagifpjpaaDoor
set_option linter.unusedVariables false
set_option maxRecDepth 100000
def threeS:List Sh:=[iS,iS,iS,iS]
theorem z1072 {N:Nat} {r:List DV} (h:Sh.fitsL N threeS r):∃ x:ThreeT,r=x.row:=by
 simp only [threeS,iS,Sh.fitsL,Sh.fits] at h
 obtain ⟨_,_,rfl,⟨a,rfl,_⟩,_,_,rfl,⟨b,rfl,_⟩,_,_,rfl,⟨c,rfl,_⟩,_,_,rfl,⟨d,rfl,_⟩,rfl⟩:=h
 exact ⟨⟨a,b,c,d⟩,rfl⟩
theorem z1148:shapes Tryd.prog 20 63=some threeS:=by kernel_rfl
theorem z1152:Rd 63 (fun x=>∃ y:ThreeT,x=.agg y.row) :=
 ⟨by kernel_rfl,of_decide_eq_true (by kernel_rfl),fun H enc w base v d ps hok h hd=>by
  obtain ⟨e0,hf0,r0⟩:=z518 z1148 (by decide) h hd
  obtain ⟨x,rfl⟩:=z1072 hf0
  exact ⟨_,⟨x,rfl⟩,r0⟩⟩
abbrev aT:TypeId × (DV→Prop):=(63,fun x=>∃ y:ThreeT,x=.agg y.row)
end Go.Ab
