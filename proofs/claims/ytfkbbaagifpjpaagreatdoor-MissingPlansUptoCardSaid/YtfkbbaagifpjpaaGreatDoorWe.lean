/- A walk engine over abstract states, and the contracts of the functions that the statement reaches: part 5. -/
import Derived.Test.YtfkbbaagifpjpaaGreatDoorWd
set_option linter.unusedVariables false
set_option linter.unusedSimpArgs false
set_option linter.unnecessarySimpa false
namespace Go.Ab
open Go.RowKit Go.Proofs
set_option maxHeartbeats 8000000
set_option maxRecDepth 20000
attribute [local irreducible] WalkL Walk
def orderM (F:Mat) (S:List SpotT):Nat→Nat→Nat→MemB→List Int × MemB
 | 0,_,_,m=>([],m)
 | f + 1,p,s,m=>if s=0 then ([],m) else
  ((bestM F S 5 p s m).1.2::(orderM F S f (nextP S (bestM F S 5 p s m).1.2.toNat) (s - 2 ^ (bestM F S 5 p s m).1.2.toNat) (bestM F S 5 p s m).2).1,
    (orderM F S f (nextP S (bestM F S 5 p s m).1.2.toNat) (s - 2 ^ (bestM F S 5 p s m).1.2.toNat) (bestM F S 5 p s m).2).2)
def OrdOk (F:Mat) (S:List SpotT):Nat→Nat→Nat→MemB→Prop
 | 0,_,s,_=>s=0
 | f + 1,p,s,m=>s=0∨∃ i:Nat,i ∈ elems s∧(bestM F S 5 p s m).1.2=(i:Int)∧OrdOk F S f (nextP S i) (s - 2 ^ i) (bestM F S 5 p s m).2
theorem z1195 (F:Mat) (S:List SpotT) (f p:Nat) (m:MemB):orderM F S f p 0 m=([],m):=by
 cases f
 ·rfl
 ·rw [orderM,if_pos rfl]
theorem z1410 (A B C:DV) (m:Nat) (F:Mat) (S:List SpotT) (hS:SpotsOk m S) (zf0 s0 p0:Nat) (M0:MemB) (hs0:s0<32) (hi0:∀ i ∈ elems s0,i<S.length) (hp0:p0<m) (hok0:OrdOk F S zf0 p0 s0 M0) (hf0:zf0≤8) :
  FnG Tryz.prog 29 [.mp (some [.i64,.u64]) (memB M0.1) M0.2] [0] [.agg [.d (.ptr (rescC A B C m F S) 0),.mp 0],.d (.i (p0:Int)),.d (uD s0)] (.own 1)
   [.mp (some [.i64,.u64]) (memB (orderM F S zf0 p0 s0 M0).2.1) (orderM F S zf0 p0 s0 M0).2.2,.arr 3 1 (intRows (orderM F S zf0 p0 s0 M0).1)]:=by
 have h55:=z1376 A B C m F S hS 5
 obtain⟨L,hL⟩:∃ L,L=orderM F S zf0 p0 s0 M0:=⟨_,rfl⟩
 rw [← hL]
 simp only [uD,rescC] at h55 ⊢
 refine z64 38 Tryz.call29 Tryz.func29 rfl (by decide) [36] [(0,0)] (by simp only [List.length_cons,List.length_nil];decide) (by kernel_rfl) fun J=>?_
 simp only [go_sem,St.startG,Tryz.ntmps29,Tryz.results29,List.map_cons,List.map_nil,List.range_succ,  ]
 repeat (first|refine nx ?_|(refine z3 fun K hK=>?_;simp only [go_sem];apply hK;clear hK K))
 refine z12 (fun (a:(Nat × Nat × Nat) × List Int × MemB)=>[(1,.d (.i (a.1.2.1:Int))),(2,.d (.int .u64 (a.1.2.2:Int))),(6,.own 36)])
  (fun a=>[(36,some (.arr 3 1 (intRows a.2.1))),(38,some (.mp (some [.i64,.u64]) (memB a.2.2.1) a.2.2.2))])
  (fun a=>a.1.1≤zf0∧a.2.1.length + a.1.1=zf0∧a.1.2.2<32∧(∀ i ∈ elems a.1.2.2,i<S.length)∧a.1.2.1<m∧OrdOk F S a.1.1 a.1.2.1 a.1.2.2 a.2.2∧L=(a.2.1++(orderM F S a.1.1 a.1.2.1 a.1.2.2 a.2.2).1,(orderM F S a.1.1 a.1.2.1 a.1.2.2 a.2.2).2))
  (fun a=>a.1.1) ((zf0,p0,s0),[],M0) ?_ ⟨Nat.le_refl _,by simp,hs0,hi0,hp0,hok0,by rw [hL];rfl⟩ ?_
 ·simp only [go_sem]
  refine z32 [36] ?_ ?_ ?_ ?_
  ·simp [lessT,z96,AV.less]
  ·simp [lessM,lessB,lessT,z96,AV.less,intRows]
  ·first | rfl | simp [liveB,AV.refs,AV.refs.AV.refss,intRows]
  ·first | rfl | simp [liveM,liveB,AV.refs,AV.refs.AV.refss,intRows]
 ·rintro⟨⟨f,p,s⟩,out,es,c⟩ ⟨hf,hlen,hs,hi,hp,hok,hLL⟩
  dsimp only at hf hlen hs hi hp hok hLL
  by_cases h0:s=0
  ·subst h0
   simp only [go_sem]
   repeat (first|refine nx ?_|(refine z3 fun K hK=>?_;simp only [go_sem];apply hK;clear hK K))
   refine z5 (by rfl) ?_
   repeat (first|refine nx ?_|(refine z3 fun K hK=>?_;simp only [go_sem];apply hK;clear hK K))
   rw [z1195,List.append_nil] at hLL
   rw [hLL]
   simp only [go_sem]
  ·have q0:((s:Int) != 0)=true:=by simp;omega
   cases f with
   | zero=>exact absurd hok h0
   | succ f =>
    rw [OrdOk] at hok
    obtain⟨i,hie,hib,hok'⟩:=hok.resolve_left h0
    rw [orderM,if_neg h0,hib,Int.toNat_natCast] at hLL
    have hil:=hi i hie
    have hs5:∀ s:Nat,s<32→(elems s).length≤5:=by decide +kernel
    have h55i:=h55 s p (es,c) hs (hs5 s hs) hi hp
    obtain⟨R,hR⟩:∃ R,R=bestM F S 5 p s (es,c):=⟨_,rfl⟩
    rw [← hR] at h55i hok' hLL hib
    obtain⟨⟨r1,r2⟩,es2,c2⟩:=R
    dsimp only at h55i hok' hLL hib
    subst hib
    obtain⟨u1,u2,u3⟩:=z25 hs hie
    have hpl:=hS.pl (spotAt S i) (List.mem_of_getElem? (z65 hil))
    have hqe:(spotAt S i).pl=(nextP S i:Int):=by rw [nextP];omega
    have hqm:nextP S i<m:=by omega
    have g0:(S.map SpotT.row)[i]?=some [.i (nextP S i:Int),.i (spotAt S i).wt,.i (spotAt S i).se]:=by rw [← hqe,List.getElem?_map,z65 hil];rfl
    have l3:i<(S.map SpotT.row).length:=by simpa using hil
    have n3:¬ ((i:Int)<0):=by omega
    have hsh:=z576 s hs i (z253 hie) hie
    have hol:out.length≤8:=by omega
    have hr39:(intRows out).length≤549755813887:=by rw [z14];omega
    have hpush:intRows out++[[.i (i:Int)]]=intRows (out++[(i:Int)]):=by simp [intRows]
    simp only [go_sem]
    repeat (first|refine nx ?_|(refine z3 fun K hK=>?_;simp only [go_sem,q0];apply hK;clear hK K))
    refine z8 rfl ?_
    repeat (first|refine nx ?_|(refine z3 fun K hK=>?_;simp only [go_sem];apply hK;clear hK K))
    refine z3 fun K hK=>?_
    simp only [go_sem]
    refine⟨_,.inPlace (n:=38) (hf:=h55i) (hn:=rfl) (hb:=rfl) (hla:=rfl) (ha:=z88 (by repeat (first|exact trivial|refine And.intro ?_ ?_|exact z104 rfl|exact z74 rfl rfl))),?_⟩
    simp only [go_sem]
    apply hK
    clear hK K
    repeat (first|refine nx ?_|(refine z3 fun K hK=>?_;simp only [go_sem,hr39];apply hK;clear hK K))
    refine z7 (by kernel_rfl) (by kernel_rfl) fun K hK=>?_
    simp only [go_sem,g0,l3,n3,hsh]
    refine⟨by kernel_rfl,hK _ ?_⟩
    clear hK K
    repeat (first|refine nx ?_|(refine z3 fun K hK=>?_;simp only [go_sem];apply hK;clear hK K))
    refine⟨rfl,((f,nextP S i,s - 2 ^ i),out++[(i:Int)],(es2,c2)),?_,⟨by dsimp only;omega,by simp only [List.length_append,List.length_singleton];omega,u1,fun j hj=>hi j (u3 j hj),hqm,hok',by rw [hLL,List.append_assoc];rfl⟩,by dsimp only;omega⟩
    simp only [go_sem,hpush]
    refine weA ?_ ?_ <;> simp
end Go.Ab
/- A function that writes a map and makes arrays of its own: what it makes is told as a deep value. -/
namespace Go.Ab
open Go.RowKit
theorem FnG.deepMp {P:Program} {f:FuncId} {b0:Blk} {args:List AV} {r:AV} {kk:KK} {es:List (MK × DV × Nat)} {c:Nat} {rest:List Blk} {d:DV} (h:FnG P f [b0] [0] args r (.mp kk es c::rest)) (hr:reify ((.mp kk es c::rest:List Blk).map some) Ab.deep r=some d)
  (h0:∀ n ∈ r.refs,n≠0) (ha:∀ n ∈ r.refs,∃ e z rows,((.mp kk es c::rest:List Blk).map some)[n]?=some (some (.arr e z rows))):FnG P f [b0] [0] args (.d d) [.mp kk es c] :=
 ⟨h.enters,fun base w own μ0 vs h1 h2 h3 h4 h5 h6=>(h.calls base w own μ0 vs h1 h2 h3 h4 h5 h6).mono fun en w' hq=>by
  obtain⟨v,μ1,he,hv,hm,hk,hp⟩:=hq
  obtain⟨μ2,hμ2⟩:∃ μ2:Pl,μ2=fun i=>if i=0 then μ1 0 else none:=⟨_,rfl⟩
  have e0:μ2 0=μ1 0:=by rw [hμ2];rfl
  have hs:∀ i L,μ2 i=some L→i=0∧μ1 0=some L:=fun i L hi=>by
   rw [hμ2] at hi
   dsimp only at hi
   split at hi
   ·exact⟨by assumption,hi⟩
   ·cases hi
  have hsub:∀ q,ownOf own μ2 q→ownOf own μ1 q:=by
   rintro q (h | ⟨i,z,l,c,h⟩)
   ·exact .inl h
   ·exact .inr ⟨0,z,l,c,(hs i _ h).2⟩
  have hg:Goes w' (ownOf own μ1) w' (ownOf own μ2):=fun q o u h1 h2=>⟨fun hc=>h1 (hsub q hc),h2⟩
  refine⟨v,μ2,he,.d (z56 hm (ownOf own μ2) hsub (fun n=>n≠0) (fun n b z l c hn hb hc=>?_) Ab.deep r v d hv hr h0 (.inr ha)),⟨fun n b hb=>?_,fun n hn=>?_,fun n k b z l c z' l' c' q1 q2=>?_,fun n b z l c hn=>?_⟩,⟨hk.keep,fun b hb hno=>?_⟩,fun i hi=>?_⟩
  ·rcases hc with hc | ⟨i,z',l',c',hc⟩
   ·exact (hm.base n b z l c hb).2.2 hc
   ·exact hn (hm.inj n 0 b z l c z' l' c' hb (hs i _ hc).2)
  ·cases n with
   | zero =>
    have e:Blk.mp kk es c=b:=by simpa using hb
    subst e
    exact BlkRel.mapN (μ':=μ2) (n':=0) (h:=fun _=>none) (.inl hg) e0 (fun k _ j hj=>by cases hj) (fun _ _ _ _ _=>rfl) (hm.blk 0 (.mp kk es c) rfl)
   | succ n=>simp at hb
  ·obtain⟨L,hL⟩:=Option.isSome_iff_exists.1 hn
   obtain⟨rfl,_⟩:=hs n L hL
   exact⟨_,rfl⟩
  ·obtain⟨rfl,_⟩:=hs n _ q1
   obtain⟨rfl,_⟩:=hs k _ q2
   rfl
  ·obtain⟨rfl,h⟩:=hs n _ hn
   exact hm.base 0 b z l c h
  ·obtain⟨p1,p2⟩:=hk.stays b hb hno
   exact⟨p1,fun hc=>p2 (hsub b hc)⟩
  ·have:i=0:=by simpa using hi
   subst this
   rw [e0]
   exact hp 0 (by simp)⟩
end Go.Ab
namespace Go.Ab
open Go.RowKit Go.Proofs
set_option maxHeartbeats 8000000
set_option maxRecDepth 20000
attribute [local irreducible] WalkL Walk
def fullN (S:List SpotT):Nat:=2 ^ S.length - 1
def bestP (F:Mat) (S:List SpotT) (b:Nat):(Int × Int) × MemB:=bestM F S 5 b (fullN S) ([],0)
def orderP (F:Mat) (S:List SpotT) (b:Nat):List Int:=(orderM F S 5 b (fullN S) (bestP F S b).2).1
def planC (n:Net) (p:Party) (F:Mat) (base:Int) (S:List SpotT):List Int × Int × Int :=
 if readyE n p [base] S≠0 then ([],0,readyE n p [base] S) else if (bestP F S base.toNat).1.1 ≥ farW then ([],0,3) else (orderP F S base.toNat,(bestP F S base.toNat).1.1,0)
def planD (r:List Int × Int × Int):DV:=.tup [.sl (intRows r.1),.i r.2.1,.i r.2.2]
def OrdP (F:Mat) (S:List SpotT) (b:Nat):Prop:=(bestP F S b).1.1<farW→OrdOk F S 5 b (fullN S) (bestP F S b).2
theorem z223 {S:List SpotT} (h:S.length≤5):fullN S<32:=by
 have:∀ k:Nat,k≤5→2 ^ k - 1<32:=by decide
 exact this _ h
theorem z114:∀ k:Nat,k≤5→∀ i ∈ elems (2 ^ k - 1),i<k:=by decide +kernel
theorem z19:∀ s:Nat,s<32→(elems s).length≤5:=by decide +kernel
theorem z57 {n:Net} {p:Party} {bases:List Int} {S:List SpotT} (h:readyE n p bases S=0):n.Good∧p.Good∧(1≤S.length∧S.length≤8)∧(∀ s ∈ S,(0≤s.pl∧s.pl<n.places)∧(0≤s.wt∧s.wt≤100)∧(0≤s.se∧s.se≤600))∧(1≤bases.length∧bases.length≤3)∧∀ b ∈ bases,0≤b∧b<n.places:=by
 rw [readyE] at h
 split at h
 ·rename_i hc;exact absurd h hc
 ·rename_i hc
  have hc:=Classical.not_not.1 hc
  obtain⟨g1,g2⟩:=z141.1 hc
  split at h
  ·cases h
  ·rename_i hb
   have hb:badTeams n bases S=false:=by simpa using hb
   simp only [badTeams,Bool.or_eq_false_iff,Bool.not_eq_false',z20,List.any_eq_false] at hb
   obtain⟨h1,h2,h3,h4⟩:=hb
   refine⟨g1,g2,by omega,fun s hs=>?_,by omega,fun b hb=>?_⟩
   ·have h5:badSpot n s=false:=by simpa using h2 s hs
    simp only [badSpot,Bool.or_eq_false_iff,Bool.not_eq_false',z20] at h5
    omega
   ·have h5:badBase n b=false:=by simpa using h4 b hb
    simp only [badBase,Bool.not_eq_false',z20] at h5
    omega
theorem z1380 (n:Net) (p:Party) (F:Mat) (base:Int) (S:List SpotT) (hs:n.Small) (hl:S.length≤5∨readyE n p [base] S≠0) (hl2:S.length<2 ^ 30) (hF:readyE n p [base] S=0→matM n.places.toNat (allM n p)=matM n.places.toNat F)
  (ho:readyE n p [base] S=0→OrdP F S base.toNat):Fn Tryz.prog 11 [.agg n.cells,.agg p.cells,.i base,.sl (S.map SpotT.row)] (planD (planC n p F base S)):=by
 have h53:=z1377 n p [base] S hs (by simp) hl2
 rw [planC,planD]
 by_cases he:readyE n p [base] S=0
 ·obtain⟨hg,hp,hlen,hsp,_,hbase⟩:=z57 he
  have hb:=hbase base (by simp)
  have hpl:=hg.places
  have hl5:S.length≤5:=hl.resolve_right fun h=>h he
  obtain⟨b,rfl⟩:∃ b:Nat,base=b:=⟨base.toNat,by omega⟩
  have hbm:b<n.places.toNat:=by omega
  have hS:SpotsOk n.places.toNat S:=⟨hl5,fun s hs=>by have:=(hsp s hs).1;omega⟩
  have hf32:=z223 hl5
  have hfi:∀ i ∈ elems (fullN S),i<S.length:=z114 _ hl5
  have ho':=ho he
  rw [readyD,he,if_pos rfl,rescN,rescC,hF he] at h53
  rw [if_neg (fun h=>h he)]
  rw [Int.toNat_natCast] at ho' ⊢
  have h54:=z1411 (rescC (.i n.places) (.sl (n.paths.map Path.row)) (timesD n p) n.places.toNat F S)
  have h56:=z1375 (.i n.places) (.sl (n.paths.map Path.row)) (timesD n p) n.places.toNat F S hl5
  have h55:=z1376 (.i n.places) (.sl (n.paths.map Path.row)) (timesD n p) n.places.toNat F S hS 5 (fullN S) b ([],0) hf32 (z19 _ hf32) hfi hbm
  have h57:=z1410 (.i n.places) (.sl (n.paths.map Path.row)) (timesD n p) n.places.toNat F S hS 5 (fullN S) b (bestP F S b).2 hf32 hfi hbm
  rw [orderP]
  unfold OrdP at ho'
  unfold bestP at ho' h57 ⊢
  obtain⟨R,hR⟩:∃ R,R=bestM F S 5 b (fullN S) ([],0):=⟨_,rfl⟩
  rw [← hR] at h55 ho' h57 ⊢
  obtain⟨⟨cost,r2⟩,es,c⟩:=R
  dsimp only at h55 ho' h57 ⊢
  rw [fullN] at h55 h57
  simp only [rescC,timesD,mapD,uD] at h53 h54 h55 h56 h57
  change FnG Tryz.prog 27 [.mp (some [.i64,.u64]) [] 0] [0] _ _ _ at h55
  refine z10 43 Tryz.call11 Tryz.func11 rfl (by decide) fun J=>?_
  simp only [go_sem,St.start,Tryz.ntmps11,Tryz.results11,Net.cells,Party.cells]
  repeat (first|refine nx ?_|(refine z3 fun K hK=>?_;simp only [go_sem];(repeat (first|(refine⟨_,.lent (hf:=h53) (hd:=rfl) (hr:=rfl),?_⟩;simp only [go_sem])|(refine⟨_,.given (hf:=h53) (hd:=rfl) (ha:=rfl),?_⟩;simp only [go_sem])));apply hK;clear hK K))
  refine z5 (by rfl) ?_
  repeat (first|refine nx ?_|(refine z3 fun K hK=>?_;simp only [go_sem];apply hK;clear hK K))
  refine z3 fun K hK=>?_
  simp only [go_sem]
  refine⟨_,.made (news:=[26]) (hf:=h54) (hd:=rfl) (hn:=by decide) (hl:=rfl) (hnew:=rfl) (hx:=rfl),?_⟩
  simp only [go_sem,List.map_cons,List.map_nil]
  apply hK
  clear hK K
  repeat (first|refine nx ?_|(refine z3 fun K hK=>?_;simp only [go_sem];apply hK;clear hK K))
  refine z7 (by kernel_rfl) (by kernel_rfl) fun K hK=>?_
  simp only [go_sem]
  refine⟨_,.fn (hf:=h56) (hd:=rfl) (hr:=.inl rfl),?_⟩
  simp only [go_sem]
  refine⟨_,.inPlace (n:=26) (hf:=h55) (hn:=rfl) (hb:=rfl) (hla:=rfl) (ha:=z88 (by repeat (first|exact trivial|refine And.intro ?_ ?_|exact z104 rfl|exact z74 rfl rfl))) (hx:=by first|decide|simp [AV.refsAll,AV.refs,AV.refs.AV.refss]),?_⟩
  simp only [go_sem]
  refine⟨by kernel_rfl,hK _ ?_⟩
  clear hK K
  by_cases hc:cost ≥ farW
  ·have hd:decide (cost ≥ 1099511627776)=true:=by simpa [farW] using hc
   rw [if_pos hc]
   repeat (first|refine nx ?_|(refine z3 fun K hK=>?_;simp only [go_sem,hd];apply hK;clear hK K))
   refine z8 rfl ?_
   repeat (first|refine nx ?_|(refine z3 fun K hK=>?_;simp only [go_sem];apply hK;clear hK K))
   simp only [go_sem,intRows,List.map_nil]
  ·have hd:decide (cost ≥ 1099511627776)=false:=by simpa [farW] using hc
   rw [if_neg hc]
   have h57o:=h57 (by have:=ho' (by omega);rwa [fullN] at this) (by decide)
   obtain⟨O,hO⟩:∃ O,O=orderM F S 5 b (2 ^ S.length - 1) (es,c):=⟨_,rfl⟩
   rw [fullN,← hO]
   rw [← hO] at h57o
   obtain⟨ol,es2,c2⟩:=O
   dsimp only at h57o ⊢
   have h57d:=h57o.deepMp (d:=.sl (intRows ol)) rfl (by simp [AV.refs]) (by simp [AV.refs])
   repeat (first|refine nx ?_|(refine z3 fun K hK=>?_;simp only [go_sem,hd];apply hK;clear hK K))
   refine z5 rfl ?_
   repeat (first|refine nx ?_|(refine z3 fun K hK=>?_;simp only [go_sem];apply hK;clear hK K))
   refine z7 (by kernel_rfl) (by kernel_rfl) fun K hK=>?_
   simp only [go_sem]
   refine⟨_,.fn (hf:=h56) (hd:=rfl) (hr:=.inl rfl),?_⟩
   simp only [go_sem]
   refine⟨_,.inPlace (n:=26) (hf:=h57d) (hn:=rfl) (hb:=rfl) (hla:=rfl) (ha:=z88 (by repeat (first|exact trivial|refine And.intro ?_ ?_|exact z104 rfl|exact z74 rfl rfl))) (hx:=by first|decide|simp [AV.refsAll,AV.refs,AV.refs.AV.refss]),?_⟩
   simp only [go_sem]
   refine⟨by kernel_rfl,hK _ ?_⟩
   clear hK K
   repeat (first|refine nx ?_|(refine z3 fun K hK=>?_;simp only [go_sem];apply hK;clear hK K))
   simp only [go_sem]
 ·have hne:(readyE n p [base] S != 0)=true:=by simpa using he
  rw [if_pos he]
  rw [readyD,if_neg he] at h53
  change Fn Tryz.prog 25 [_,_,.sl [[.i base]],_] _ at h53
  refine z10 43 Tryz.call11 Tryz.func11 rfl (by decide) fun J=>?_
  simp only [go_sem,St.start,Tryz.ntmps11,Tryz.results11,Net.cells,Party.cells]
  rw [Net.cells,Party.cells] at h53
  repeat (first|refine nx ?_|(refine z3 fun K hK=>?_;simp only [go_sem];(repeat (first|(refine⟨_,.lent (hf:=h53) (hd:=rfl) (hr:=rfl),?_⟩;simp only [go_sem])|(refine⟨_,.given (hf:=h53) (hd:=rfl) (ha:=rfl),?_⟩;simp only [go_sem])));apply hK;clear hK K))
  refine z4 rfl (fun _=>?_) (fun hc=>by rw [hne] at hc;cases hc)
  repeat (first|refine nx ?_|(refine z3 fun K hK=>?_;simp only [go_sem];apply hK;clear hK K))
  simp only [go_sem,intRows,List.map_nil]
end Go.Ab
namespace Go.Ab
open Go.RowKit Go.Proofs
set_option maxRecDepth 100000
def getL (W:List (List Int)) (a b:Nat):Int:=(W.getD a []).getD b 0
def setLL (W:List (List Int)) (a b:Nat) (v:Int):List (List Int):=W.set a ((W.getD a []).set b v)
def relaxLL (p:Party) (W:List (List Int)) (w:Nat × Path):List (List Int):=setLL W w.2.frm.toNat w.2.to.toNat (min (getL W w.2.frm.toNat w.2.to.toNat) (spanW w.2 p).hi)
def viaLL (v:Nat) (W:List (List Int)) (a b:Nat):List (List Int):=setLL W a b (min (getL W a b) (wr (getL W a v + getL W v b)))
def allLL (n:Net) (p:Party):List (List Int) :=
 let m:=n.places.toNat
 (List.range m).foldl (fun F v=>(List.range m).foldl (fun F a=>(List.range m).foldl (fun F b=>viaLL v F a b) F) F) ((canL n p).foldl (relaxLL p) (matM m zeroM))
theorem z325 {m:Nat} {F:Mat} {a b:Nat} (ha:a<m) (hb:b<m):getL (matM m F) a b=F a b:=by
 simp only [getL,List.getD_eq_getElem?_getD,z58 ha,Option.getD_some,z51 hb]
theorem z679 {m:Nat} {F:Mat} {a b:Nat} (ha:a<m) (v:Int):setLL (matM m F) a b v=matM m (updM F a b v):=by
 simp only [setLL,List.getD_eq_getElem?_getD,z58 ha,Option.getD_some,z238]
theorem z1097 {m:Nat} {p:Party} {F:Mat} {w:Nat × Path} (ha:w.2.frm.toNat<m) (hb:w.2.to.toNat<m):relaxLL p (matM m F) w=matM m (relaxM p F w):=by
 rw [relaxLL,z325 ha hb,z679 ha,relaxM]
theorem z1246 {m v a b:Nat} {F:Mat} (hv:v<m) (ha:a<m) (hb:b<m):viaLL v (matM m F) a b=matM m (viaM v F a b):=by
 rw [viaLL,z325 ha hb,z325 ha hv,z325 hv hb,z679 ha,viaM]
theorem z248 {α:Type} {m:Nat} (f:List (List Int)→α→List (List Int)) (g:Mat→α→Mat):∀ (l:List α) (F:Mat),(∀ F,∀ x ∈ l,f (matM m F) x=matM m (g F x))→l.foldl f (matM m F)=matM m (l.foldl g F)
 | [],F,_=>rfl
 | x::l,F,h=>by
  rw [List.foldl_cons,h F x (by simp),List.foldl_cons]
  exact z248 f g l _ fun F y hy=>h F y (by simp [hy])
theorem z1281 {n:Net} (p:Party) (hg:n.Good):allLL n p=matM n.places.toNat (allM n p):=by
 rw [allLL,allM]
 rw [z248 (relaxLL p) (relaxM p) _ _ (fun F w hw=>by
  obtain⟨_,h2,_⟩:=z103 hw
  have:=hg.path w.2 (List.mem_of_getElem? h2)
  exact z1097 (by have:=this.frm;omega) (by have:=this.to;omega))]
 refine z248 _ _ _ _ fun F v hv=>?_
 refine z248 _ _ _ _ fun F a ha=>?_
 refine z248 _ _ _ _ fun F b hb=>?_
 exact z1246 (List.mem_range.1 hv) (List.mem_range.1 ha) (List.mem_range.1 hb)
def exM:Missed:=⟨exP,0,300,600,30,[⟨420,2,true⟩,⟨500,4,false⟩,⟨560,9,true⟩]⟩
end Go.Ab
namespace Go.Ab
open Go.RowKit Go.Proofs
set_option maxHeartbeats 8000000
set_option maxRecDepth 20000
attribute [local irreducible] WalkL Walk
def exSpots:List (List DV):=[[.i 3,.i 50,.i 60],[.i 1,.i 30,.i 20],[.i 2,.i 20,.i 40]]
theorem z1413:Fn Tryz.prog 17 [] (.tup [.agg exN.cells,.agg exM.row,.sl exSpots]):=by
 have h49:=z1407
 refine z10 20 Tryz.call17 Tryz.func17 rfl (by decide) fun J=>?_
 simp only [go_sem,St.start,Tryz.ntmps17,Tryz.results17,]
 repeat (first|refine nx ?_|(refine z3 fun K hK=>?_;simp only [go_sem,exN,exP,Net.cells,Party.cells,Path.row,Span.row];(repeat (first|(refine⟨_,.lent (hf:=h49) (hd:=rfl) (hr:=rfl),?_⟩;simp only [go_sem,exN,exP,Net.cells,Party.cells,Path.row,Span.row])|(refine⟨_,.given (hf:=h49) (hd:=rfl) (ha:=rfl),?_⟩;simp only [go_sem,exN,exP,Net.cells,Party.cells,Path.row,Span.row])));apply hK;clear hK K))
 refine z7 (by kernel_rfl) (by kernel_rfl) fun K hK=>?_
 simp only [go_sem,exN,exP,Net.cells,Party.cells,Path.row,Span.row]
 refine⟨by kernel_rfl,hK _ ?_⟩
 clear hK K
 repeat (first|refine nx ?_|(refine z3 fun K hK=>?_;simp only [go_sem];apply hK;clear hK K))
 simp only [go_sem]
 rfl
end Go.Ab
namespace Go.Ab
open Go.RowKit Go.Proofs
set_option maxHeartbeats 4000000
set_option maxRecDepth 20000
attribute [local irreducible] WalkL Walk
def staysF (cl:List Clue) (place top:Int):Nat→Int→List Int
 | 0,_=>[]
 | f + 1,m=>if m≤top∧atB cl place m=true then m::staysF cl place top f (m + 1) else []
def staysL (x:Missed) (place m most:Int):List Int:=staysF x.clues place (min most x.now) (min most x.now - m + 1).toNat m
theorem z381 {α:Type} {l:List α} {j:Nat} {x:α} {r:List α} (h:l.drop j=x::r):l[j]?=some x∧l.drop (j + 1)=r∧j<l.length:=by
 have h1:l[j]?=some x:=by
  have:=congrArg (fun l=>l[0]?) h
  simpa using this
 refine⟨h1,?_,(List.getElem?_eq_some_iff.1 h1).1⟩
 have:=congrArg (List.drop 1) h
 simpa [Nat.add_comm] using this
theorem z154 {α:Type} {l:List α} {j:Nat} (h:l.drop j=[]) (hj:j≤l.length):j=l.length:=by
 have:=List.drop_eq_nil_iff.1 h
 omega
def minRows (l:List Int):List (List DV):=l.map fun m=>[.i m]
theorem z362 {l:List Int} {j:Nat} {m:Int} (h:l[j]?=some m):(minRows l)[j]?=some [.i m]:=by simp [minRows,h]
def trkB (n:Net) (x:Missed):List DV:=[.ptr (huntC n x) 0]
theorem z1298 (n:Net) (x:Missed) (place m0 most:Int) (hp:0≤place) (hm:0≤m0∧m0≤2 ^ 40) (hn:x.now≤2 ^ 40) (hl:x.clues.length<2 ^ 62) :
  IterB Tryz.prog 89 (fun b=>[.ptr [.i place,.i m0] 0,.ptr [.i most] 0,.ptr [.raw b 0] 0]) ((trkB n x).map some) (minRows (staysL x place m0 most)):=by
 refine z479 40 Tryz.call89 Tryz.func89 rfl rfl fun l J B pb hS hG hP=>?_
 simp only [go_sem,St.start,Tryz.ntmps89]
 repeat (first|refine nx ?_|(refine z3 fun K hK=>?_;simp only [go_sem];apply hK;clear hK K))
 obtain⟨L,hL⟩:∃ L,L=staysL x place m0 most:=⟨_,rfl⟩
 obtain⟨top,htop⟩:∃ top,top=min most x.now:=⟨_,rfl⟩
 rw [← hL]
 have hL0:L=staysF x.clues place top (top - m0 + 1).toNat m0:=by rw [hL,staysL,htop]
 refine z78 (fun (j:Nat)=>[(5,.d (.i (m0 + j)))]) (fun _=>[]) (fun k j=>k=some j∧j≤L.length∧L.drop j=staysF x.clues place top ((top - m0 + 1).toNat - j) (m0 + j)) (fun j=>(top - m0 + 1).toNat + 1 - j) 0 ?_ ⟨rfl,Nat.zero_le _,by simpa using hL0⟩ ?_
 ·simp only [go_sem]
  refine weA ?_ ?_ <;> simp
 ·rintro k j ⟨rfl,hj,hd⟩
  simp only [go_sem]
  have hc9:(huntC n x)[9]?=some (.i x.now):=rfl
  repeat refine nx ?_
  have h74:=z1320 n x place (m0 + j) hp hl
  by_cases h1:m0 + (j:Int)≤min most x.now
  ·have hb1:decide (m0 + (j:Int)≤min most x.now)=true:=by simpa using h1
   have hf1:(top - m0 + 1).toNat - j=((top - m0 + 1).toNat - (j + 1)) + 1:=by omega
   have hw:IntKind.i64.wrap (m0 + (j:Int) + 1)=m0 + ((j + 1:Nat):Int):=by rw [z9 (by omega)];omega
   rw [hf1,staysF] at hd
   by_cases h2:atB x.clues place (m0 + j)=true
   ·rw [if_pos ⟨by omega,h2⟩] at hd
    obtain⟨hg,hd2,hlt⟩:=z381 hd
    refine z182 hS hG hP 25 (by kernel_rfl) (by kernel_rfl) (by kernel_rfl) (by decide) rfl fun K hK=>?_
    simp only [go_sem,trkB,hc9,hb1]
    refine⟨_,.fn (hf:=h74) (hd:=rfl) (hr:=.inl rfl),?_⟩
    simp only [go_sem,hb1,h2]
    refine⟨by kernel_rfl,?_⟩
    refine⟨rfl,j,[.i (m0 + j)],rfl,rfl,by rw [← hL];exact z362 hg,?_,?_⟩
    ·simp only [go_sem]
     refine hK _ _ ?_
     clear hK K
     refine z8 rfl ?_
     repeat (first|refine nx ?_|(refine z3 fun K hK=>?_;simp only [go_sem,hw];apply hK;clear hK K))
     refine⟨j + 1,?_,⟨rfl,hlt,by rw [hd2];congr 1;omega⟩,by omega⟩
     refine weA ?_ ?_ <;> simp
    ·simp only [go_sem]
     refine hK _ _ ?_
     clear hK K
     refine z5 rfl ?_
     repeat (first|refine nx ?_|(refine z3 fun K hK=>?_;simp only [go_sem];apply hK;clear hK K))
     exact⟨trivial,.inr rfl⟩
   ·rw [if_neg (fun hc=>h2 hc.2)] at hd
    have h2:atB x.clues place (m0 + j)=false:=by simpa using h2
    have he:=z154 hd hj
    refine z182 hS hG hP 25 (by kernel_rfl) (by kernel_rfl) (by kernel_rfl) (by decide) rfl fun K hK=>?_
    simp only [go_sem,trkB,hc9,hb1]
    refine⟨_,.fn (hf:=h74) (hd:=rfl) (hr:=.inl rfl),?_⟩
    simp only [go_sem,hb1,h2]
    refine⟨by kernel_rfl,?_⟩
    refine hK _ _ ?_
    clear hK K
    refine z5 rfl ?_
    repeat (first|refine nx ?_|(refine z3 fun K hK=>?_;simp only [go_sem];apply hK;clear hK K))
    exact⟨trivial,.inl (by rw [he,minRows,List.length_map])⟩
  ·have hb1:decide (m0 + (j:Int)≤min most x.now)=false:=by simpa using h1
   have he:j=L.length:=by
    refine z154 ?_ hj
    rw [hd]
    cases hf:(top - m0 + 1).toNat - j with
    | zero=>rfl
    | succ f=>rw [staysF,if_neg (fun hc=>h1 (by rw [← htop];exact hc.1))]
   refine z182 hS hG hP 25 (by kernel_rfl) (by kernel_rfl) (by kernel_rfl) (by decide) rfl fun K hK=>?_
   simp only [go_sem,trkB,hc9,hb1]
   refine⟨by kernel_rfl,?_⟩
   refine hK _ _ ?_
   clear hK K
   refine z5 rfl ?_
   repeat (first|refine nx ?_|(refine z3 fun K hK=>?_;simp only [go_sem];apply hK;clear hK K))
   exact⟨trivial,.inl (by rw [he,minRows,List.length_map])⟩
theorem z1126 (n:Net) (x:Missed) (a b:DV) (place m0 most:Int) (hp:0≤place) (hm:0≤m0∧m0≤2 ^ 40) (hn:x.now≤2 ^ 40) (hl:x.clues.length<2 ^ 62) :
  IterE Tryz.prog 89 [] (fun l=>[.d (.yld l),.d (.ptr [.i place,.i m0] 0),.d (.ptr [.i most] 0),.d (.ptr [.ptr [.ptr (huntC n x) 0,a,b] 0] 0)]) (minRows (staysL x place m0 most)):=by
 refine z278 40 Tryz.call89 Tryz.func89 rfl rfl fun l J hG=>?_
 simp only [go_sem,St.startG,Tryz.ntmps89,Tryz.results89,List.map_cons,List.map_nil,List.range_succ,  ]
 repeat (first|refine nx ?_|(refine z3 fun K hK=>?_;simp only [go_sem];apply hK;clear hK K))
 obtain⟨L,hL⟩:∃ L,L=staysL x place m0 most:=⟨_,rfl⟩
 obtain⟨top,htop⟩:∃ top,top=min most x.now:=⟨_,rfl⟩
 rw [← hL]
 have hL0:L=staysF x.clues place top (top - m0 + 1).toNat m0:=by rw [hL,staysL,htop]
 refine z78 (fun (j:Nat)=>[(5,.d (.i (m0 + j)))]) (fun _=>[]) (fun k j=>k=some j∧j≤L.length∧L.drop j=staysF x.clues place top ((top - m0 + 1).toNat - j) (m0 + j)) (fun j=>(top - m0 + 1).toNat + 1 - j) 0 ?_ ⟨rfl,Nat.zero_le _,by simpa using hL0⟩ ?_
 ·simp only [go_sem]
  refine weA ?_ ?_ <;> simp
 ·rintro k j ⟨rfl,hj,hd⟩
  simp only [go_sem]
  have hc9:(huntC n x)[9]?=some (.i x.now):=rfl
  repeat refine nx ?_
  have h74:=z1320 n x place (m0 + j) hp hl
  by_cases h1:m0 + (j:Int)≤min most x.now
  ·have hb1:decide (m0 + (j:Int)≤min most x.now)=true:=by simpa using h1
   have hf1:(top - m0 + 1).toNat - j=((top - m0 + 1).toNat - (j + 1)) + 1:=by omega
   have hw:IntKind.i64.wrap (m0 + (j:Int) + 1)=m0 + ((j + 1:Nat):Int):=by rw [z9 (by omega)];omega
   rw [hf1,staysF] at hd
   by_cases h2:atB x.clues place (m0 + j)=true
   ·rw [if_pos ⟨by omega,h2⟩] at hd
    obtain⟨hg,hd2,hlt⟩:=z381 hd
    refine z80 hG [] 25 (by kernel_rfl) (by kernel_rfl) (by kernel_rfl) (by decide) fun K hK=>?_
    simp only [go_sem,hc9,hb1]
    refine⟨_,.fn (hf:=h74) (hd:=rfl) (hr:=.inl rfl),?_⟩
    simp only [go_sem,hb1,h2]
    refine⟨by kernel_rfl,?_⟩
    refine⟨rfl,j,[.i (m0 + j)],rfl,rfl,rfl,by rw [← hL];exact z362 hg,?_,?_⟩
    ·simp only [go_sem]
     refine hK _ _ ?_
     clear hK K
     refine z8 rfl ?_
     repeat (first|refine nx ?_|(refine z3 fun K hK=>?_;simp only [go_sem,hw];apply hK;clear hK K))
     refine⟨j + 1,?_,⟨rfl,hlt,by rw [hd2];congr 1;omega⟩,by omega⟩
     refine weA ?_ ?_ <;> simp
    ·simp only [go_sem]
     refine hK _ _ ?_
     clear hK K
     refine z5 rfl ?_
     repeat (first|refine nx ?_|(refine z3 fun K hK=>?_;simp only [go_sem];apply hK;clear hK K))
     exact⟨trivial,.inr rfl⟩
   ·rw [if_neg (fun hc=>h2 hc.2)] at hd
    have h2:atB x.clues place (m0 + j)=false:=by simpa using h2
    have he:=z154 hd hj
    refine z80 hG [] 25 (by kernel_rfl) (by kernel_rfl) (by kernel_rfl) (by decide) fun K hK=>?_
    simp only [go_sem,hc9,hb1]
    refine⟨_,.fn (hf:=h74) (hd:=rfl) (hr:=.inl rfl),?_⟩
    simp only [go_sem,hb1,h2]
    refine⟨by kernel_rfl,?_⟩
    refine hK _ _ ?_
    clear hK K
    refine z5 rfl ?_
    repeat (first|refine nx ?_|(refine z3 fun K hK=>?_;simp only [go_sem];apply hK;clear hK K))
    exact⟨trivial,.inl (by rw [he,minRows,List.length_map])⟩
  ·have hb1:decide (m0 + (j:Int)≤min most x.now)=false:=by simpa using h1
   have he:j=L.length:=by
    refine z154 ?_ hj
    rw [hd]
    cases hf:(top - m0 + 1).toNat - j with
    | zero=>rfl
    | succ f=>rw [staysF,if_neg (fun hc=>h1 (by rw [← htop];exact hc.1))]
   refine z80 hG [] 25 (by kernel_rfl) (by kernel_rfl) (by kernel_rfl) (by decide) fun K hK=>?_
   simp only [go_sem,hc9,hb1]
   refine⟨by kernel_rfl,?_⟩
   refine hK _ _ ?_
   clear hK K
   refine z5 rfl ?_
   repeat (first|refine nx ?_|(refine z3 fun K hK=>?_;simp only [go_sem];apply hK;clear hK K))
   exact⟨trivial,.inl (by rw [he,minRows,List.length_map])⟩
end Go.Ab
namespace Go.Ab
open Go.RowKit Go.Proofs
set_option maxHeartbeats 4000000
set_option maxRecDepth 20000
attribute [local irreducible] WalkL Walk
def walksF (cl:List Clue):Nat→Int→List (Int × Bool)
 | 0,_=>[]
 | f + 1,m=>(m,onB8 cl m)::if onB8 cl m=true then walksF cl f (m + 1) else []
def walksL (x:Missed) (leave:Int):List (Int × Bool):=walksF x.clues (x.now - leave).toNat (leave + 1)
def wkRows (l:List (Int × Bool)):List (List DV):=l.map fun m=>[.i m.1,.bool m.2]
theorem z956 {l:List (Int × Bool)} {j:Nat} {m:Int × Bool} (h:l[j]?=some m):(wkRows l)[j]?=some [.i m.1,.bool m.2]:=by simp [wkRows,h]
theorem z1297 (n:Net) (x:Missed) (leave:Int) (hm:0≤leave∧leave≤2 ^ 40) (hn:x.now≤2 ^ 40) (hl:x.clues.length<2 ^ 62) :
  IterB Tryz.prog 90 (fun b=>[.ptr [.i leave] 0,.ptr [.raw b 0] 0]) ((trkB n x).map some) (wkRows (walksL x leave)):=by
 refine z479 40 Tryz.call90 Tryz.func90 rfl rfl fun l J B pb hS hG hP=>?_
 have hw0:IntKind.i64.wrap (leave + 1)=leave + 1 + ((0:Nat):Int):=by rw [z9 (by omega)];omega
 simp only [go_sem,St.start,Tryz.ntmps90]
 repeat (first|refine nx ?_|(refine z3 fun K hK=>?_;simp only [go_sem,hw0];apply hK;clear hK K))
 obtain⟨L,hL⟩:∃ L,L=walksL x leave:=⟨_,rfl⟩
 rw [← hL]
 have hL0:L=walksF x.clues (x.now - leave).toNat (leave + 1):=by rw [hL,walksL]
 refine z78 (fun (j:Nat)=>[(4,.d (.i (leave + 1 + j)))]) (fun _=>[]) (fun k j=>k=some j∧j≤L.length∧L.drop j=walksF x.clues ((x.now - leave).toNat - j) (leave + 1 + j)) (fun j=>(x.now - leave).toNat + 1 - j) 0 ?_ ⟨rfl,Nat.zero_le _,by simpa using hL0⟩ ?_
 ·simp only [go_sem]
  refine weA ?_ ?_ <;> simp
 ·rintro k j ⟨rfl,hj,hd⟩
  have hc9:(huntC n x)[9]?=some (.i x.now):=rfl
  have h77:=z1387 n x (leave + 1 + j) hl
  have tr:trkB n x=[.ptr (huntC n x) 0]:=rfl
  simp only [go_sem]
  repeat refine nx ?_
  refine z160 hS hG hP fun K hK=>?_
  simp only [go_sem,tr,List.map_cons,List.map_nil,hc9]
  refine hK _ _ ?_
  clear hK K
  refine z4 rfl (fun hb=>?_) (fun hb=>?_)
  ·have hb1:leave + 1 + (j:Int)≤x.now:=by simpa using hb
   have hf1:(x.now - leave).toNat - j=((x.now - leave).toNat - (j + 1)) + 1:=by omega
   have hw:IntKind.i64.wrap (leave + 1 + (j:Int) + 1)=leave + 1 + ((j + 1:Nat):Int):=by rw [z9 (by omega)];omega
   rw [hf1,walksF] at hd
   obtain⟨hg,hd2,hlt⟩:=z381 hd
   repeat refine nx ?_
   refine z160 hS hG hP fun K hK=>?_
   simp only [go_sem,tr,List.map_cons,List.map_nil]
   refine⟨_,.lent (hf:=h77) (hd:=rfl) (hr:=rfl),?_⟩
   simp only [go_sem]
   refine hK _ _ ?_
   clear hK K
   repeat refine nx ?_
   refine z160 hS hG hP fun K hK=>?_
   simp only [go_sem,tr,List.map_cons,List.map_nil]
   refine⟨rfl,j,[.i (leave + 1 + j),.bool (onB8 x.clues (leave + 1 + j))],rfl,rfl,by rw [← hL];exact z956 hg,?_,?_⟩
   ·by_cases ho:onB8 x.clues (leave + 1 + j)=true
    ·rw [if_pos ho] at hd2
     simp only [go_sem,ho]
     refine hK _ _ ?_
     clear hK K
     refine z5 rfl ?_
     repeat (first|refine nx ?_|(refine z3 fun K hK=>?_;simp only [go_sem,hw];apply hK;clear hK K))
     refine⟨j + 1,?_,⟨rfl,hlt,by rw [hd2];congr 1;omega⟩,by omega⟩
     refine weA ?_ ?_ <;> simp
    ·rw [if_neg ho] at hd2
     have ho:onB8 x.clues (leave + 1 + j)=false:=by simpa using ho
     have he:=z154 hd2 hlt
     simp only [go_sem,ho]
     refine hK _ _ ?_
     clear hK K
     refine z8 rfl ?_
     repeat (first|refine nx ?_|(refine z3 fun K hK=>?_;simp only [go_sem];apply hK;clear hK K))
     exact⟨trivial,.inl (by rw [he,wkRows,List.length_map])⟩
   ·simp only [go_sem]
    refine hK _ _ ?_
    clear hK K
    refine z8 rfl ?_
    repeat (first|refine nx ?_|(refine z3 fun K hK=>?_;simp only [go_sem];apply hK;clear hK K))
    exact⟨trivial,.inr rfl⟩
  ·have he:j=L.length:=by
    have hb1:¬ leave + 1 + (j:Int)≤x.now:=by simpa using hb
    refine z154 ?_ hj
    rw [hd,show (x.now - leave).toNat - j=0 by omega]
    rfl
   repeat (first|refine nx ?_|(refine z3 fun K hK=>?_;simp only [go_sem];apply hK;clear hK K))
   exact⟨trivial,.inl (by rw [he,wkRows,List.length_map])⟩
end Go.Ab
namespace Go.Ab
open Go.RowKit Go.Proofs
set_option maxHeartbeats 4000000
set_option maxRecDepth 20000
attribute [local irreducible] WalkL Walk
structure Arv where
 pl:Int
 mi:Int
 fp:Int
 fm:Int
 pa:Int
 lv:Int
def Arv.spot (a:Arv):List DV:=[.i a.pl,.i a.mi]
def Arv.leg (a:Arv):List DV:=[.i a.fp,.i a.fm,.i a.pa,.i a.lv]
def keyS (p m:Int):MK:=.s [(.i64,p),(.i64,m)]
def entsA:List Arv→Nat→List (MK × DV × Nat)
 | [],_=>[]
 | a::l,j=>(keyS a.pl a.mi,.agg a.leg,j)::entsA l (j + 1)
def arvRows (A:List Arv):List (List DV):=A.map Arv.spot
def legsB (A:List Arv):Blk:=.mp (some [.i64,.i64]) (entsA A 0) A.length
def trkM (h:DV) (A:List Arv):List Blk:=[.box [.d h,.mp 1,.own 2],legsB A,.arr 108 2 (arvRows A)]
def sameS (a b:Arv):Bool:=b.pl == a.pl && b.mi == a.mi
def arriveA (cl:List Clue) (A:List Arv) (a:Arv):List Arv:=if A.any (sameS a) || !atB cl a.pl a.mi then A else A++[a]
theorem z495 (a:Arv):∀ (l:List Arv) (j:Nat),entsA (l++[a]) j=entsA l j++[(keyS a.pl a.mi,.agg a.leg,j + l.length)]
 | [],j=>by simp [entsA]
 | x::l,j=>by simp [entsA,z495 a l];omega
theorem z207 {a b c d:Int}:keyS a b=keyS c d↔a=c∧b=d:=by simp [keyS]
theorem z496 (a:Arv):∀ (l:List Arv) (j i:Nat),l.any (sameS a)=false→findE (entsA l j) (keyS a.pl a.mi) i=none
 | [],_,_,_=>rfl
 | b::l,j,i,h=>by
  simp only [List.any_cons,Bool.or_eq_false_iff] at h
  rw [entsA,findE,if_neg (by rw [z207];intro hc;simp [sameS,hc.1,hc.2] at h)]
  exact z496 a l _ _ h.2
theorem z494 (a:Arv):∀ (l:List Arv) (j i:Nat),l.any (sameS a)=true→∃ q b s,b ∈ l∧sameS a b=true∧findE (entsA l j) (keyS a.pl a.mi) i=some (q,.agg b.leg,s)
 | [],_,_,h=>by simp at h
 | b::l,j,i,h=>by
  by_cases hb:sameS a b=true
  ·refine⟨i,b,j,by simp,hb,?_⟩
   rw [entsA,findE,if_pos (by rw [z207];simp [sameS] at hb;exact⟨hb.1.symm,hb.2.symm⟩)]
  ·have hb:sameS a b=false:=by simpa using hb
   simp only [List.any_cons,hb,Bool.false_or] at h
   obtain⟨q,c,s,h1,h2,h3⟩:=z494 a l (j + 1) (i + 1) h
   refine⟨q,c,s,by simp [h1],h2,?_⟩
   rw [entsA,findE,if_neg (by rw [z207];intro hc;simp [sameS,hc.1,hc.2] at hb)]
   exact h3
theorem z1366 (T:List DV) (place m0 most:Int):Fn Tryz.prog 64 [.ptr T 0,.agg [.i place,.i m0],.i most] (.fn 89 [.ptr [.i place,.i m0] 0,.ptr [.i most] 0,.ptr [.ptr T 0] 0]):=by
 refine z10 8 Tryz.call64 Tryz.func64 rfl (by decide) fun J=>?_
 simp only [go_sem,St.start,Tryz.ntmps64,Tryz.results64]
 repeat (first|refine nx ?_|(refine z3 fun K hK=>?_;simp only [go_sem];apply hK;clear hK K))
 simp only [go_sem]
theorem z1323 (h:DV) (A:List Arv) (place m0 most:Int):FnG Tryz.prog 64 (trkM h A) [0] [.box 0 0,.d (.agg [.i place,.i m0]),.d (.i most)] (.fn 89 [.box 3 0,.box 4 0,.box 5 0]) (trkM h A++[.box [.d (.i place),.d (.i m0)],.box [.d (.i most)],.box [.box 0 0]]):=by
 simp only [trkM,legsB]
 refine z64 8 Tryz.call64 Tryz.func64 rfl (by decide) [4,5,3] [(0,0)] (by simp only [List.length_cons,List.length_nil];decide) (by kernel_rfl) fun J=>?_
 simp only [go_sem,St.startG,Tryz.ntmps64,Tryz.results64,List.map_cons,List.map_nil,List.range_succ,  ]
 repeat (first|refine nx ?_|(refine z3 fun K hK=>?_;simp only [go_sem];apply hK;clear hK K))
 simp only [go_sem,List.cons_append,List.nil_append]
theorem z1322 (h:DV) (A:List Arv) (leave:Int):FnG Tryz.prog 65 (trkM h A) [0] [.box 0 0,.d (.i leave)] (.fn 90 [.box 3 0,.box 4 0]) (trkM h A++[.box [.d (.i leave)],.box [.box 0 0]]):=by
 simp only [trkM,legsB]
 refine z64 6 Tryz.call65 Tryz.func65 rfl (by decide) [3,2] [(0,0)] (by simp only [List.length_cons,List.length_nil];decide) (by kernel_rfl) fun J=>?_
 simp only [go_sem,St.startG,Tryz.ntmps65,Tryz.results65,List.map_cons,List.map_nil,List.range_succ,  ]
 repeat (first|refine nx ?_|(refine z3 fun K hK=>?_;simp only [go_sem];apply hK;clear hK K))
 simp only [go_sem,List.cons_append,List.nil_append]
theorem z1367 (n:Net) (x:Missed) (A:List Arv) (a:Arv) (hp:0≤a.pl) (hl:x.clues.length<2 ^ 62) (hA:A.length<2 ^ 30) :
  FnG Tryz.prog 63 (trkM (.ptr (huntC n x) 0) A) [0] [.box 0 0,.d (.agg a.spot),.d (.agg a.leg)] (.tup []) (trkM (.ptr (huntC n x) 0) (arriveA x.clues A a)):=by
 have h74:=z1320 n x a.pl a.mi hp hl
 simp only [trkM,legsB,Arv.spot,Arv.leg]
 by_cases hk:A.any (sameS a)=true
 ·obtain⟨q,b,s,_,_,hf⟩:=z494 a A 0 0 hk
  rw [keyS] at hf
  have e:arriveA x.clues A a=A:=by rw [arriveA,hk];rfl
  rw [e]
  refine z64 46 Tryz.call63 Tryz.func63 rfl (by decide) [] [(0,0)] (by simp only [List.length_cons,List.length_nil];decide) (by kernel_rfl) fun J=>?_
  simp only [go_sem,St.startG,Tryz.ntmps63,Tryz.results63,List.map_cons,List.map_nil,List.range_succ,  ]
  repeat (first|refine nx ?_|(refine z3 fun K hK=>?_;simp only [go_sem,hf,Arv.leg];apply hK;clear hK K)|(refine z7 (by kernel_rfl) (by kernel_rfl) fun K hK=>?_;simp only [go_sem,hf,Arv.leg];refine⟨by kernel_rfl,hK _ ?_⟩;clear hK K))
  refine z5 rfl ?_
  repeat (first|refine nx ?_|(refine z3 fun K hK=>?_;simp only [go_sem];apply hK;clear hK K))
  simp only [go_sem]
 ·have hk:A.any (sameS a)=false:=by simpa using hk
  have hf:=z496 a A 0 0 hk
  rw [keyS] at hf
  by_cases ha:atB x.clues a.pl a.mi=true
  ·have e:arriveA x.clues A a=A++[a]:=by rw [arriveA,hk,ha];rfl
   rw [e]
   refine z64 46 Tryz.call63 Tryz.func63 rfl (by decide) [] [(0,0)] (by simp only [List.length_cons,List.length_nil];decide) (by kernel_rfl) fun J=>?_
   simp only [go_sem,St.startG,Tryz.ntmps63,Tryz.results63,List.map_cons,List.map_nil,List.range_succ,  ]
   repeat (first|refine nx ?_|(refine z3 fun K hK=>?_;simp only [go_sem,hf,ha];(repeat (first|(refine⟨_,.lent (hf:=h74) (hd:=rfl) (hr:=rfl),?_⟩;simp only [go_sem,hf,ha])|(refine⟨_,.given (hf:=h74) (hd:=rfl) (ha:=rfl),?_⟩;simp only [go_sem,hf,ha])));apply hK;clear hK K)|(refine z7 (by kernel_rfl) (by kernel_rfl) fun K hK=>?_;simp only [go_sem,hf,ha];(repeat (first|(refine⟨_,.fn (hf:=h74) (hd:=rfl) (hr:=.inl rfl),?_⟩;simp only [go_sem,hf,ha])));refine⟨by kernel_rfl,hK _ ?_⟩;clear hK K))
   refine z8 rfl ?_
   refine z27 ?_
   refine z183 6 (by kernel_rfl) (by kernel_rfl) (by kernel_rfl) (by decide) fun K hK=>?_
   simp only [go_sem,hf]
   refine⟨by kernel_rfl,?_⟩
   refine hK _ _ ?_
   clear hK K
   have hrl:(arvRows A).length≤549755813887:=by rw [arvRows,List.length_map];omega
   have hpush:=z495 a A 0
   refine z595 (by kernel_rfl) (by kernel_rfl) fun K hK=>?_
   simp only [go_sem,hrl]
   refine⟨by kernel_rfl,hK _ ?_⟩
   clear hK K
   repeat (first|refine nx ?_|(refine z3 fun K hK=>?_;simp only [go_sem];apply hK;clear hK K))
   simp only [go_sem,hpush,arvRows,List.map_append,List.map_cons,List.map_nil,Arv.spot,Arv.leg,keyS,List.length_append,List.length_cons,List.length_nil,Nat.zero_add]
  ·have ha:atB x.clues a.pl a.mi=false:=by simpa using ha
   have e:arriveA x.clues A a=A:=by rw [arriveA,hk,ha];rfl
   rw [e]
   refine z64 46 Tryz.call63 Tryz.func63 rfl (by decide) [] [(0,0)] (by simp only [List.length_cons,List.length_nil];decide) (by kernel_rfl) fun J=>?_
   simp only [go_sem,St.startG,Tryz.ntmps63,Tryz.results63,List.map_cons,List.map_nil,List.range_succ,  ]
   repeat (first|refine nx ?_|(refine z3 fun K hK=>?_;simp only [go_sem,hf,ha];(repeat (first|(refine⟨_,.lent (hf:=h74) (hd:=rfl) (hr:=rfl),?_⟩;simp only [go_sem,hf,ha])|(refine⟨_,.given (hf:=h74) (hd:=rfl) (ha:=rfl),?_⟩;simp only [go_sem,hf,ha])));apply hK;clear hK K)|(refine z7 (by kernel_rfl) (by kernel_rfl) fun K hK=>?_;simp only [go_sem,hf,ha];(repeat (first|(refine⟨_,.fn (hf:=h74) (hd:=rfl) (hr:=.inl rfl),?_⟩;simp only [go_sem,hf,ha])));refine⟨by kernel_rfl,hK _ ?_⟩;clear hK K))
   refine z5 rfl ?_
   repeat (first|refine nx ?_|(refine z3 fun K hK=>?_;simp only [go_sem];apply hK;clear hK K))
   simp only [go_sem]
end Go.Ab
namespace Go.Ab
open Go.RowKit Go.Proofs
set_option maxHeartbeats 4000000
set_option maxRecDepth 20000
attribute [local irreducible] WalkL Walk
structure Cnt where
 pl:Int
 mi:Int
 c:Int
def entsL:List Cnt→Nat→List (MK × DV × Nat)
 | [],_=>[]
 | a::l,j=>(keyS a.pl a.mi,.i a.c,j)::entsL l (j + 1)
def leftB (L:List Cnt):Blk:=.mp (some [.i64,.i64]) (entsL L 0) L.length
def cntL:List Cnt→Int→Int→Int
 | [],_,_=>0
 | a::l,p,m=>if a.pl=p∧a.mi=m then a.c else cntL l p m
def bumpL:List Cnt→Int→Int→List Cnt
 | [],p,m=>[⟨p,m,wr (0 + 1)⟩]
 | a::l,p,m=>if a.pl=p∧a.mi=m then ⟨a.pl,a.mi,wr (a.c + 1)⟩::l else a::bumpL l p m
def hasL (l:List Cnt) (p m:Int):Bool:=l.any fun a=>decide (a.pl=p∧a.mi=m)
theorem z287 {p m:Int}:∀ (l:List Cnt) (j i:Nat),hasL l p m=true→∃ q,findE (entsL l j) (keyS p m) i=some (i + q,.i (cntL l p m),j + q) ∧
  setBorn (entsL l j) ((j + q:Nat):Int) (.i (wr (cntL l p m + 1)))=some (entsL (bumpL l p m) j)∧(bumpL l p m).length=l.length
 | [],_,_,h=>by simp [hasL] at h
 | a::l,j,i,h=>by
  by_cases ha:a.pl=p∧a.mi=m
  ·refine⟨0,?_,?_,?_⟩
   ·rw [entsL,findE,if_pos (by rw [z207];exact⟨ha.1.symm,ha.2.symm⟩),cntL,if_pos ha];rfl
   ·rw [entsL,setBorn,if_pos (by simp),bumpL,if_pos ha,cntL,if_pos ha];rfl
   ·rw [bumpL,if_pos ha];rfl
  ·have h':hasL l p m=true:=by simpa [hasL,ha] using h
   obtain⟨q,h1,h2,h3⟩:=z287 l (j + 1) (i + 1) h'
   refine⟨q + 1,?_,?_,?_⟩
   ·rw [entsL,findE,if_neg (by rw [z207];exact fun hc=>ha ⟨hc.1.symm,hc.2.symm⟩),h1,cntL,if_neg ha,show i + 1 + q=i + (q + 1) by omega,show j + 1 + q=j + (q + 1) by omega]
   ·rw [entsL,setBorn,if_neg (by simp;omega),bumpL,if_neg ha,cntL,if_neg ha]
    rw [show ((j + (q + 1):Nat):Int)=((j + 1 + q:Nat):Int) by omega,h2]
    rfl
   ·rw [bumpL,if_neg ha];simp [h3]
theorem z307 {d:DV} {k:MK} {z:DV}:∀ (l:List Cnt) (j:Nat),setBorn (entsL l j++[(k,z,j + l.length)]) ((j + l.length:Nat):Int) d=some (entsL l j++[(k,d,j + l.length)])
 | [],j=>by simp [entsL,setBorn]
 | a::l,j=>by
  rw [entsL,List.cons_append,setBorn,if_neg (by simp only [List.length_cons];omega),List.length_cons]
  have:=z307 (d:=d) (k:=k) (z:=z) l (j + 1)
  rw [show j + 1 + l.length=j + (l.length + 1) by omega] at this
  rw [this]
  rfl
theorem z491 {p m:Int}:∀ (l:List Cnt) (j i:Nat),hasL l p m=false→findE (entsL l j) (keyS p m) i=none∧cntL l p m=0 ∧
  entsL (bumpL l p m) j=entsL l j++[(keyS p m,.i (wr (0 + 1)),j + l.length)]∧(bumpL l p m).length=l.length + 1
 | [],j,_,_=>by simp [entsL,findE,cntL,bumpL]
 | a::l,j,i,h=>by
  have ha:¬ (a.pl=p∧a.mi=m):=fun hc=>by simp [hasL,hc] at h
  have h':hasL l p m=false:=by
   rw [hasL,List.any_cons,Bool.or_eq_false_iff] at h
   exact h.2
  obtain⟨h1,h2,h3,h4⟩:=z491 l (j + 1) (i + 1) h'
  refine⟨?_,?_,?_,?_⟩
  ·rw [entsL,findE,if_neg (by rw [z207];exact fun hc=>ha ⟨hc.1.symm,hc.2.symm⟩),h1]
  ·rw [cntL,if_neg ha,h2]
  ·rw [bumpL,if_neg ha,entsL,h3,entsL,List.length_cons,List.cons_append]
   congr 3
   congr 2
   omega
  ·rw [bumpL,if_neg ha];simp [h4]
theorem z747 {p m:Int}:∀ (l:List Cnt),cntL (bumpL l p m) p m=wr (cntL l p m + 1)
 | []=>by simp [bumpL,cntL]
 | a::l=>by
  by_cases ha:a.pl=p∧a.mi=m
  ·rw [bumpL,if_pos ha,cntL,if_pos ha,cntL,if_pos ha]
  ·rw [bumpL,if_neg ha,cntL,if_neg ha,cntL,if_neg ha,z747 l]
theorem z713 {p m:Int}:∀ (l:List Cnt),hasL (bumpL l p m) p m=true
 | []=>by simp [bumpL,hasL]
 | a::l=>by
  by_cases ha:a.pl=p∧a.mi=m
  ·rw [bumpL,if_pos ha];simp [hasL,ha]
  ·rw [bumpL,if_neg ha]
   have:=z713 (p:=p) (m:=m) l
   simp [hasL] at this ⊢
   exact .inr this
def walkA (cl:List Clue) (lo hi:Int) (mk:Int→Arv):List (Int × Bool)→List Arv→List Arv
 | [],A=>A
 | w::ws,A=>if w.1 > hi then A else walkA cl lo hi mk ws (if w.1 ≥ lo then arriveA cl A (mk w.1) else A)
def pathA (n:Net) (x:Missed) (p m leave:Int) (A:List Arv) (k:Nat):List Arv:=match n.paths[k]? with
 | some y=>if y.frm=p∧y.grade≤x.party.grade then walkA x.clues (wr (leave + (spanW y x.party).lo)) (wr (leave + (spanW y x.party).hi)) (fun t=>⟨y.to,t,p,m,k,leave⟩) (walksL x leave) A else A
 | none=>A
def pathsA (n:Net) (x:Missed) (p m leave:Int) (k:Nat) (A:List Arv):List Arv:=(List.range k).foldl (pathA n x p m leave) A
def leaveA (n:Net) (x:Missed) (p m:Int) (a:List Arv × List Cnt) (leave:Int):List Arv × List Cnt :=
 if cntL (bumpL a.2 p leave) p leave > 1 then (a.1,bumpL a.2 p leave) else (pathsA n x p m leave n.paths.length a.1,bumpL a.2 p leave)
def spotA (n:Net) (x:Missed) (s:Arv) (a:List Arv × List Cnt):List Arv × List Cnt:=(staysL x s.pl s.mi (wr (s.mi + x.rest))).foldl (leaveA n x s.pl s.mi) a
def followF (n:Net) (x:Missed):Nat→Nat→List Arv × List Cnt→List Arv × List Cnt
 | 0,_,a=>a
 | f + 1,i,a=>match a.1[i]? with
  | some s=>followF n x f (i + 1) (spotA n x s a)
  | none=>a
def startA (x:Missed):List Arv:=arriveA x.clues [] ⟨x.place,x.start,0,0,-1,0⟩
end Go.Ab
namespace Go.Ab
open Go.RowKit Go.Proofs
set_option maxHeartbeats 16000000
set_option maxRecDepth 20000
attribute [local irreducible] WalkL Walk
structure Hunted (n:Net) (x:Missed):Prop where
 net:n.Good
 party:x.party.Good
 place:0≤x.place∧x.place<n.places
 start:0≤x.start∧x.start≤x.now
 now:x.now≤2880
 rest:0≤x.rest∧x.rest≤600
 clues:x.clues.length<2 ^ 30
def goodA (n:Net) (x:Missed) (A:List Arv):Prop:=(∀ a ∈ A,(0≤a.pl∧a.pl<n.places)∧x.start≤a.mi∧a.mi≤x.now)∧(A.map fun a=>(a.pl,a.mi)).Nodup
def boundN (n:Net) (x:Missed):Nat:=n.places.toNat * (x.now - x.start + 1).toNat
theorem z373 {n:Net} {x:Missed} {A:List Arv} (h:goodA n x A):A.length≤boundN n x:=by
 have h1:(A.map fun a=>(a.pl,a.mi)).length≤((List.range n.places.toNat).flatMap fun (i:Nat)=>(List.range (x.now - x.start + 1).toNat).map fun (j:Nat)=>((i:Int),x.start + (j:Int))).length:=by
  refine List.Nodup.length_le_of_subset h.2 fun q hq=>?_
  obtain⟨a,ha,rfl⟩:=List.mem_map.1 hq
  obtain⟨⟨h1,h2⟩,h3,h4⟩:=h.1 a ha
  refine List.mem_flatMap.2 ⟨a.pl.toNat,List.mem_range.2 (by omega),List.mem_map.2 ⟨(a.mi - x.start).toNat,List.mem_range.2 (by omega),?_⟩⟩
  simp;omega
 simp only [List.length_map,List.length_flatMap,List.length_range] at h1
 have:(List.map (fun _=>(x.now - x.start + 1).toNat) (List.range n.places.toNat)).sum=n.places.toNat * (x.now - x.start + 1).toNat:=by
  rw [List.map_const',List.sum_replicate_nat,List.length_range]
 rw [boundN];omega
theorem z751 {n:Net} {x:Missed} (h:Hunted n x):boundN n x≤40000:=by
 have h1:=h.net.places
 have h2:=h.start
 have h3:=h.now
 rw [boundN]
 have a1:n.places.toNat≤12:=by omega
 have a2:(x.now - x.start + 1).toNat≤2881:=by omega
 have:=Nat.mul_le_mul a1 a2
 omega
theorem z136 {n:Net} {x:Missed} {A:List Arv} {a:Arv} (h:goodA n x A) (ha:(0≤a.pl∧a.pl<n.places)∧x.start≤a.mi∧a.mi≤x.now):goodA n x (arriveA x.clues A a):=by
 rw [arriveA]
 split
 ·exact h
 ·rename_i hc
  have hc:A.any (sameS a)=false:=by
   rw [Bool.or_eq_true] at hc
   simpa using fun hh=>hc (.inl hh)
  refine⟨fun b hb=>?_,?_⟩
  ·rcases List.mem_append.1 hb with hb | hb
   ·exact h.1 b hb
   ·simp at hb;subst hb;exact ha
  ·rw [List.map_append,List.nodup_append]
   refine⟨h.2,by simp,fun u hu v hv e=>?_⟩
   simp at hv
   subst hv;subst e
   obtain⟨b,hb,he⟩:=List.mem_map.1 hu
   have:=List.any_eq_false.1 hc b hb
   simp [sameS] at this
   simp at he
   exact this he.1 he.2
theorem z296 {cl:List Clue}:∀ {f:Nat} {m:Int} {w:Int × Bool},w ∈ walksF cl f m→m≤w.1∧w.1<m + f
 | 0,m,w,h=>by simp [walksF] at h
 | f + 1,m,w,h=>by
  rw [walksF] at h
  rcases List.mem_cons.1 h with rfl | h
  ·exact⟨Int.le_refl _,by simp;omega⟩
  ·split at h
   ·have:=z296 h;omega
   ·simp at h
theorem z295 {x:Missed} {leave:Int} {w:Int × Bool} (h:w ∈ walksL x leave):leave + 1≤w.1∧w.1≤x.now:=by
 have:=z296 h
 omega
theorem z305 {cl:List Clue} {p top:Int}:∀ {f:Nat} {m w:Int},w ∈ staysF cl p top f m→m≤w∧w≤top
 | 0,m,w,h=>by simp [staysF] at h
 | f + 1,m,w,h=>by
  rw [staysF] at h
  split at h
  ·rename_i hc
   rcases List.mem_cons.1 h with rfl | h
   ·exact⟨Int.le_refl _,hc.1⟩
   ·have:=z305 h;omega
  ·simp at h
theorem z304 {x:Missed} {p m most w:Int} (h:w ∈ staysL x p m most):m≤w∧w≤most∧w≤x.now:=by
 have:=z305 h
 omega
end Go.Ab
namespace Go.Ab
open Go.RowKit Go.Proofs
set_option maxHeartbeats 16000000
set_option maxRecDepth 20000
attribute [local irreducible] WalkL Walk
def trkL (h:DV) (A:List Arv):List Blk:=[.box [.d h,.mp 1,.own 2],.mp (some [.i64,.i64]) (entsA A 0) A.length,.arr 108 2 (arvRows A)]
theorem z387 (A:List Arv):(arvRows A).length=A.length:=by simp [arvRows]
theorem z388 {A:List Arv} {i:Nat} {s:Arv} (h:A[i]?=some s):(arvRows A)[i]?=some [.i s.pl,.i s.mi]:=by simp [arvRows,h,Arv.spot]
theorem z1264 (es:List (MK × DV × Nat)):mkE (es.map fun e=>(e.1,e.2.2)) (es.map fun e=>e.2.1)=es:=by
 induction es with
 | nil=>rfl
 | cons e es ih=>simp only [mkE,List.map_cons,List.zipWith_cons_cons] at ih ⊢;rw [ih]
theorem z459 (n:Net) (p:Party) {k:Nat} {y:Path} (hy:n.paths[k]?=some y):∃ ks vs c,timesD n p=.mp none ks vs c ∧
  ((y.grade≤p.grade∧∃ q b,findE (mkE ks vs) (.i k) 0=some (q,.agg (spanW y p).row,b))∨(¬ y.grade≤p.grade∧findE (mkE ks vs) (.i k) 0=none)):=by
 refine⟨_,_,_,rfl,?_⟩
 rw [z1264]
 have hlt:=(List.getElem?_eq_some_iff.1 hy).1
 by_cases hg:y.grade≤p.grade
 ·obtain⟨q,b,h⟩:=z492 p (w:=(k,y)) (canL n p) 0 0 (z385 hy hg hlt) (fun v hv e=>by
   obtain⟨_,h2,_⟩:=z103 hv
   have e:v.1=k:=e
   rw [e,hy] at h2
   cases v
   simp at e h2
   rw [e,h2])
  exact .inl ⟨hg,q,b,h⟩
 ·refine .inr ⟨hg,z288 p _ 0 0 fun w hw e=>hg ?_⟩
  obtain⟨_,h2,h3⟩:=z103 hw
  have:w.1=k:=by omega
  rw [this,hy] at h2
  cases h2
  exact h3
theorem z377 {k:MK} {d:DV} {b:Nat}:∀ (es:List (MK × DV × Nat)) (i:Nat),findE es k i=none→findE (es++[(k,d,b)]) k i=some (i + es.length,d,b)
 | [],i,_=>by simp [findE]
 | e::es,i,h=>by
  rw [findE] at h
  split at h
  ·cases h
  ·rename_i hk
   rw [List.cons_append,findE,if_neg hk,z377 es (i + 1) h]
   congr 2
   simp;omega
theorem z916 (cl:List Clue) (A:List Arv) (a:Arv):A.length≤(arriveA cl A a).length:=by
 rw [arriveA];split <;> simp
theorem z596 (cl:List Clue) (lo hi:Int) (mk:Int→Arv):∀ (ws:List (Int × Bool)) (A:List Arv),A.length≤(walkA cl lo hi mk ws A).length
 | [],A=>Nat.le_refl _
 | w::ws,A=>by
  rw [walkA];split
  ·exact Nat.le_refl _
  ·refine Nat.le_trans ?_ (z596 cl lo hi mk ws _)
   split
   ·exact z916 _ _ _
   ·exact Nat.le_refl _
theorem z1103 (n:Net) (x:Missed) (p m leave:Int) (A:List Arv) (k:Nat):A.length≤(pathA n x p m leave A k).length:=by
 rw [pathA];split
 ·split
  ·exact z596 _ _ _ _ _ _
  ·exact Nat.le_refl _
 ·exact Nat.le_refl _
theorem z731 {α β:Type} (f:List α→β→List α) (h:∀ a b,a.length≤(f a b).length):∀ (l:List β) (a:List α),a.length≤(l.foldl f a).length
 | [],a=>Nat.le_refl _
 | b::l,a=>Nat.le_trans (h a b) (z731 f h l _)
theorem z1034 (n:Net) (x:Missed) (p m:Int) (a:List Arv × List Cnt) (lv:Int):a.1.length≤(leaveA n x p m a lv).1.length:=by
 rw [leaveA];split
 ·exact Nat.le_refl _
 ·exact z731 _ (fun A k=>z1103 n x p m lv A k) _ _
theorem z485 (n:Net) (x:Missed) (p m:Int):∀ (l:List Int) (a:List Arv × List Cnt),a.1.length≤(l.foldl (leaveA n x p m) a).1.length
 | [],a=>Nat.le_refl _
 | b::l,a=>Nat.le_trans (z1034 n x p m a b) (z485 n x p m l _)
theorem z1086 (n:Net) (x:Missed) (s:Arv) (a:List Arv × List Cnt):a.1.length≤(spotA n x s a).1.length:=z485 _ _ _ _ _ _
theorem z1405 (n:Net) (x:Missed) (hx:Hunted n x):FnG Tryz.prog 44 [] [] [.d (.ptr (huntC n x) 0)] (.box 0 0) (trkM (.ptr (huntC n x) 0) (followF n x (boundN n x + 1) 0 (startA x,[])).1):=by
 have c7:(huntC n x)[7]?=some (.i x.place):=rfl
 have c8:(huntC n x)[8]?=some (.i x.start):=rfl
 have c10:(huntC n x)[10]?=some (.i x.rest):=rfl
 have c1:(huntC n x)[1]?=some (.sl (n.paths.map Path.row)):=rfl
 have h63:FnG Tryz.prog 63 [.box [.d (.ptr (huntC n x) 0),.mp 1,.own 2],.mp (some [.i64,.i64]) [] 0,.arr 108 2 []] [0] [.box 0 0,.d (.agg [.i x.place,.i x.start]),.d (.agg [.i 0,.i 0,.i (-1),.i 0])] (.tup [])
   [.box [.d (.ptr (huntC n x) 0),.mp 1,.own 2],.mp (some [.i64,.i64]) (entsA (startA x) 0) (startA x).length,.arr 108 2 (arvRows (startA x))] :=
  z1367 n x [] ⟨x.place,x.start,0,0,-1,0⟩ hx.place.1 (by have:=hx.clues;omega) (by simp)
 have hN:=z751 hx
 have hst:=hx.start
 have hno:=hx.now
 have hre:=hx.rest
 have hcl:=hx.clues
 have hpl:=hx.net.paths
 refine z64 160 Tryz.call44 Tryz.func44 rfl (by decide) [16,14,150] [] (by simp only [List.length_cons,List.length_nil];decide) (by kernel_rfl) fun J=>?_
 simp only [go_sem,St.startG,Tryz.ntmps44,Tryz.results44,List.map_cons,List.map_nil,List.range_succ,  ]
 repeat (first|refine nx ?_|(refine z3 fun K hK=>?_;simp only [go_sem];apply hK;clear hK K))
 refine z456 [] [] [(16,some (.box [.d (.ptr (huntC n x) 0),.mp 14,.own 150])),(150,some (.arr 108 2 []))] ?_ ?_
 ·simp only [go_sem]
  refine z32 [150] ?_ ?_ rfl rfl <;> simp [lessT,lessM,lessB,AV.less]
 simp only [go_sem]
 refine z183 13 (by kernel_rfl) (by kernel_rfl) (by kernel_rfl) (by decide) fun K hK=>?_
 simp only [go_sem,c7,c8]
 refine⟨by kernel_rfl,?_⟩
 refine⟨_,.own (ns:=[16,14,150]) (news:=[]) (bads:=[14,150]) (rd:=[]) (hf:=h63) (hnd:=by decide) (hl0:=rfl) (hl1:=rfl) (hm:=by repeat (first|exact trivial|refine And.intro ?_ ?_|rfl)) (hnew:=rfl) (hla:=rfl) (ha:=z88 (by repeat (first|exact trivial|refine And.intro ?_ ?_|exact z104 rfl|exact z74 rfl rfl))) (hrd:=rfl) (hsh:=z232 _) (hb:=rfl) (hfl:=.inl rfl),?_⟩
 simp only [go_sem,List.map_cons,List.map_nil]
 refine hK _ _ ?_
 clear hK K
 repeat (first|refine nx ?_|(refine z3 fun K hK=>?_;simp only [go_sem];apply hK;clear hK K))
 obtain⟨R,hR⟩:∃ R,R=followF n x (boundN n x + 1) 0 (startA x,[]):=⟨_,rfl⟩
 rw [← hR]
 refine z12 (fun (a:Nat × List Arv × List Cnt)=>[(5,.d (.i a.1))]) (fun a=>[(14,some (.mp (some [.i64,.i64]) (entsA a.2.1 0) a.2.1.length)),(150,some (.arr 108 2 (arvRows a.2.1))),(31,some (.mp (some [.i64,.i64]) (entsL a.2.2 0) a.2.2.length))])
  (fun a=>a.1≤a.2.1.length∧goodA n x a.2.1∧R=followF n x (boundN n x + 1 - a.1) a.1 a.2) (fun a=>boundN n x + 1 - a.1) (0,startA x,[]) ?_ ⟨Nat.zero_le _,?_,hR⟩ ?_
 ·simp only [go_sem,entsL,List.length_nil]
  refine weA ?_ ?_ <;> simp
 ·exact z136 ⟨fun a ha=>(by simp at ha),by simp⟩ ⟨hx.place,Int.le_refl _,hst.2⟩
 ·rintro⟨i,A,L⟩ ⟨hi,hgA,hRi⟩
  dsimp only at hi hgA hRi
  have hAl:=z373 hgA
  have hrl:=z387 A
  simp only [go_sem]
  repeat (first|refine nx ?_|(refine z3 fun K hK=>?_;simp only [go_sem,hrl];apply hK;clear hK K))
  refine z4 rfl (fun hb=>?_) (fun hb=>?_)
  ·have hlt:i<A.length:=by simpa using hb
   have hw:IntKind.i64.wrap ((i:Int) + 1)=((i + 1:Nat):Int):=by rw [z9 (by omega)];simp
   obtain⟨s,hs⟩:∃ s,A[i]?=some s:=⟨_,List.getElem?_eq_getElem hlt⟩
   have hrow:=z388 hs
   have hil:i<(arvRows A).length:=by omega
   have hgs:=hgA.1 s (List.mem_of_getElem? hs)
   have h64:FnG Tryz.prog 64 [.box [.d (.ptr (huntC n x) 0),.mp 1,.own 2],.mp (some [.i64,.i64]) (entsA A 0) A.length,.arr 108 2 (arvRows A)] [0] [.box 0 0,.d (.agg [.i s.pl,.i s.mi]),.d (.i (wr (s.mi + x.rest)))] (.fn 89 [.box 3 0,.box 4 0,.box 5 0])
    [.box [.d (.ptr (huntC n x) 0),.mp 1,.own 2],.mp (some [.i64,.i64]) (entsA A 0) A.length,.arr 108 2 (arvRows A),.box [.d (.i s.pl),.d (.i s.mi)],.box [.d (.i (wr (s.mi + x.rest)))],.box [.box 0 0]]:=z1323 _ A s.pl s.mi _
   repeat (first|refine nx ?_|(refine z3 fun K hK=>?_;simp only [go_sem,hrow,hil];apply hK;clear hK K))
   refine z183 10 (by kernel_rfl) (by kernel_rfl) (by kernel_rfl) (by decide) fun K hK=>?_
   simp only [go_sem,c10]
   refine⟨by kernel_rfl,?_⟩
   refine⟨_,.own (ns:=[16,14,150]) (news:=[151,152,153]) (bads:=[14,150]) (rd:=[]) (hf:=h64) (hnd:=by decide) (hl0:=rfl) (hl1:=rfl) (hm:=by repeat (first|exact trivial|refine And.intro ?_ ?_|rfl)) (hnew:=rfl) (hla:=rfl) (ha:=z88 (by repeat (first|exact trivial|refine And.intro ?_ ?_|exact z104 rfl|exact z74 rfl rfl))) (hrd:=rfl) (hsh:=z232 _) (hb:=rfl) (hfl:=.inl rfl),?_⟩
   simp only [go_sem,List.map_cons,List.map_nil]
   refine hK _ _ ?_
   clear hK K
   refine z38 ?_
   have hsp:0≤s.pl:=hgs.1.1
   obtain⟨Ls,hLs⟩:∃ Ls,Ls=staysL x s.pl s.mi (wr (s.mi + x.rest)):=⟨_,rfl⟩
   have hit:=z1298 n x s.pl s.mi (wr (s.mi + x.rest)) hsp (by omega) (by omega) (by omega)
   rw [← hLs] at hit
   refine z229 (fun _ h=>by cases h) 16 16 ((trkB n x).map some) [151,152,153] rfl hit (fun b=>rfl) (by intro row hr;obtain⟨w,_,rfl⟩:=List.mem_map.1 hr;rfl)
    (fun _=>[(58,.undef)]) (fun (a:List Arv × List Cnt)=>[(151,none),(152,none),(153,none),(14,some (.mp (some [.i64,.i64]) (entsA a.1 0) a.1.length)),(150,some (.arr 108 2 (arvRows a.1))),(31,some (.mp (some [.i64,.i64]) (entsL a.2 0) a.2.length))])
    (fun i a=>a=(Ls.take i).foldl (leaveA n x s.pl s.mi) (A,L)∧goodA n x a.1) (fun _ _=>False) (A,L) ?_ ?_ ⟨by simp,hgA⟩ ?_ ?_ ?_ (fun _ _ h=>h.elim)
   ·exact⟨rfl,rfl,trivial⟩
   ·simp only [go_sem]
    refine weA ?_ ?_ <;> simp
   ·intro a
    simp only [go_sem]
    exact⟨rfl,rfl,trivial⟩
   ·rintro j ⟨A1,L1⟩ row hj ⟨hA1,hgA1⟩ l m
    dsimp only at hA1 hgA1
    obtain⟨lv,hlv,rfl⟩:∃ lv,Ls[j]?=some lv∧row=[.i lv]:=by
     simp only [minRows,List.getElem?_map,Option.map_eq_some_iff] at hj
     obtain⟨lv,h1,h2⟩:=hj
     exact⟨lv,h1,h2.symm⟩
    have hlr:=z304 (hLs ▸ List.mem_of_getElem? hlv)
    have hnext:(Ls.take (j + 1)).foldl (leaveA n x s.pl s.mi) (A,L)=leaveA n x s.pl s.mi (A1,L1) lv:=by
     rw [List.take_add_one,hlv,List.foldl_append,← hA1];rfl
    simp only [go_sem]
    repeat (first|refine nx ?_|(refine z3 fun K hK=>?_;simp only [go_sem];apply hK;clear hK K))
    intro J2 hJ2
    refine z38 ?_
    obtain⟨c,hc⟩:∃ c,c=wr (cntL L1 s.pl lv + 1):=⟨_,rfl⟩
    obtain⟨L2,hL2⟩:∃ L2,L2=bumpL L1 s.pl lv:=⟨_,rfl⟩
    have hcb:cntL L2 s.pl lv=c:=by rw [hL2,hc,z747]
    obtain⟨q2,hq2,_⟩:=z287 (p:=s.pl) (m:=lv) L2 0 0 (by rw [hL2];exact z713 L1)
    rw [keyS,hcb,Nat.zero_add] at hq2
    have hc':IntKind.i64.wrap (cntL L1 s.pl lv + 1)=c:=hc.symm
    have hlv:leaveA n x s.pl s.mi (A1,L1) lv=if c > 1 then (A1,L2) else (pathsA n x s.pl s.mi lv n.paths.length A1,L2):=by
     rw [leaveA];dsimp only;rw [← hL2,hcb]
    repeat refine z27 ?_
    refine z23 [] [(31,some (.mp (some [.i64,.i64]) (entsL L2 0) L2.length))] ?_ ?_
    ·by_cases hin:hasL L1 s.pl lv=true
     ·obtain⟨q1,hq1,hb1,hl1⟩:=z287 (p:=s.pl) (m:=lv) L1 0 0 hin
      rw [keyS,Nat.zero_add] at hq1
      rw [Nat.zero_add,← hc,← hL2] at hb1
      rw [← hL2] at hl1
      refine z301 (fun b=>[(60,bif b 0 then .undef else .mp 31),(61,bif b 1 then .undef else .box 6 0),(62,bif b 2 then .undef else .d (.i s.pl)),(63,bif b 3 then .undef else .d (.i lv)),(64,bif b 4 then .undef else .agg [.d (.i s.pl),.d (.i lv)]),
       (65,bif b 5 then .undef else .d (.i (cntL L1 s.pl lv))),(66,bif b 6 then .undef else .d (.i c)),(67,bif b 7 then .undef else .tup [.d (.i (cntL L1 s.pl lv)),.d (.i ((q1:Nat):Int))]),(68,bif b 8 then .undef else .d (.i ((q1:Nat):Int)))])
       (fun _=>[]) 9 (by kernel_rfl) (by kernel_rfl) (by kernel_rfl) (by decide) ?_ ?_ (Weak.refl _) ?_
      ·simp only [go_sem]
      ·refine⟨?_,?_,?_,?_,?_,?_,?_,?_,?_,trivial⟩
       all_goals
        intro b hbm hdm _
        simp only [depsM,Region.binds,true_and,and_true,Nat.zero_add,Nat.reduceAdd,reduceCtorEq,forall_const] at hdm
        refine⟨rfl,rfl,?_⟩
        cases hb7:b 7
        all_goals
         first | (exfalso;rw [hb7] at hbm;exact Bool.noConfusion hbm) | (exfalso;rw [hb7] at hdm;simp at hdm;done) | simp only [go_sem,hbm,hdm,hb7,hq1,hc']
      ·intro K hK
       simp only [go_sem,hb1]
       refine hK _ _ ?_
       clear hK K
       refine z11 ?_
       refine z6 ?_
       refine⟨rfl,?_⟩
       simp only [go_sem,hl1]
       refine weA ?_ ?_ <;> simp
     ·have hin:hasL L1 s.pl lv=false:=by simpa using hin
      obtain⟨hq1,hcz,hb1,hl1⟩:=z491 (p:=s.pl) (m:=lv) L1 0 0 hin
      have hsb:=z307 (d:=.i c) (k:=keyS s.pl lv) (z:=.i 0) L1 0
      have hc0:IntKind.i64.wrap (0 + 1)=c:=by rw [hc,hcz]
      rw [← hL2,show wr (0 + 1)=c from hc0] at hb1
      rw [← hb1] at hsb
      rw [← hL2] at hl1
      rw [keyS] at hq1 hsb
      simp only [Nat.zero_add] at hsb
      have hq1p:=z377 (d:=.i 0) (b:=L1.length) _ 0 hq1
      rw [Nat.zero_add] at hq1p
      refine z301 (fun b=>[(60,bif b 0 then .undef else .mp 31),(61,bif b 1 then .undef else .box 6 0),(62,bif b 2 then .undef else .d (.i s.pl)),(63,bif b 3 then .undef else .d (.i lv)),(64,bif b 4 then .undef else .agg [.d (.i s.pl),.d (.i lv)]),
       (65,bif b 5 then .undef else .d (.i 0)),(66,bif b 6 then .undef else .d (.i c)),(67,bif b 7 then .undef else .tup [.d (.i 0),.d (.i ((L1.length:Nat):Int))]),(68,bif b 8 then .undef else .d (.i ((L1.length:Nat):Int)))])
       (fun b=>[(31,bif b 7 then some (.mp (some [.i64,.i64]) (entsL L1 0) L1.length) else some (.mp (some [.i64,.i64]) (entsL L1 0++[(.s [(.i64,s.pl),(.i64,lv)],.i 0,L1.length)]) (L1.length + 1)))]) 9 (by kernel_rfl) (by kernel_rfl) (by kernel_rfl) (by decide) ?_ ?_ (Weak.refl _) ?_
      ·simp only [go_sem]
      ·refine⟨?_,?_,?_,?_,?_,?_,?_,?_,?_,trivial⟩
       all_goals
        intro b hbm hdm _
        simp only [depsM,Region.binds,true_and,and_true,Nat.zero_add,Nat.reduceAdd,reduceCtorEq,forall_const] at hdm
        refine⟨rfl,rfl,?_⟩
        cases hb7:b 7
        all_goals
         first | (exfalso;rw [hb7] at hbm;exact Bool.noConfusion hbm) | (exfalso;rw [hb7] at hdm;simp at hdm;done) | simp only [go_sem,hbm,hdm,hb7,hq1,hq1p,hc0]
      ·intro K hK
       simp only [go_sem,hsb]
       refine hK _ _ ?_
       clear hK K
       refine z11 ?_
       refine z6 ?_
       refine⟨rfl,?_⟩
       simp only [go_sem,hl1]
       refine weA ?_ ?_ <;> simp
    simp only [go_sem]
    repeat (first|refine nx ?_|(refine z3 fun K hK=>?_;simp only [go_sem,hq2];apply hK;clear hK K))
    refine z4 rfl (fun hcc=>?_) (fun hcc=>?_)
    ·have hcc':c > 1:=by simpa using hcc
     rw [if_pos hcc'] at hlv
     repeat (first|refine nx ?_|(refine z3 fun K hK=>?_;simp only [go_sem];apply hK;clear hK K))
     refine⟨rfl,(A1,L2),?_,by rw [hnext,hlv],hgA1⟩
     simp only [go_sem]
     refine weA ?_ ?_ <;> simp
    ·have hcc':¬ c > 1:=by simpa using hcc
     rw [if_neg hcc'] at hlv
     repeat (first|refine nx ?_|(refine z3 fun K hK=>?_;simp only [go_sem,c1];apply hK;clear hK K))
     refine z12 (fun (a:Nat × List Arv)=>[(83,.d (.i a.1))]) (fun a=>[(14,some (.mp (some [.i64,.i64]) (entsA a.2 0) a.2.length)),(150,some (.arr 108 2 (arvRows a.2)))])
      (fun a=>a.1≤n.paths.length∧goodA n x a.2∧a.2=pathsA n x s.pl s.mi lv a.1 A1) (fun a=>n.paths.length - a.1) (0,A1) ?_ ⟨Nat.zero_le _,hgA1,rfl⟩ ?_
     ·simp only [go_sem]
      refine weA ?_ ?_ <;> simp
     ·rintro⟨k,A2⟩ ⟨hk,hgA2,hA2⟩
      dsimp only at hk hgA2 hA2
      simp only [go_sem]
      repeat (first|refine nx ?_|(refine z3 fun K hK=>?_;simp only [go_sem];apply hK;clear hK K))
      refine z4 rfl (fun hkb=>?_) (fun hkb=>?_)
      ·have hkl:k<n.paths.length:=by simpa using hkb
       have hkw:IntKind.i64.wrap ((k:Int) + 1)=((k + 1:Nat):Int):=by rw [z9 (by omega)];simp
       obtain⟨y,hy⟩:∃ y,n.paths[k]?=some y:=⟨_,List.getElem?_eq_getElem hkl⟩
       obtain⟨ks,vs,cc,hT,hlook⟩:=z459 n x.party hy
       have c2:(huntC n x)[2]?=some (.mp none ks vs cc):=by rw [← hT];rfl
       have hyg:=hx.net.path y (List.mem_of_getElem? hy)
       have hpk:pathsA n x s.pl s.mi lv (k + 1) A1=pathA n x s.pl s.mi lv A2 k:=by rw [pathsA,List.range_succ,List.foldl_append,hA2];rfl
       rw [pathA,hy] at hpk
       dsimp only at hpk
       rcases hlook with ⟨hg,q,b,hf⟩ | ⟨hg,hf⟩
       ·repeat (first|refine nx ?_|(refine z3 fun K hK=>?_;simp only [go_sem,hy,List.getElem?_map,Path.row];apply hK;clear hK K))
        refine z7 (by kernel_rfl) (by kernel_rfl) fun K hK=>?_
        simp only [go_sem,c2,hf,Span.row]
        refine⟨by kernel_rfl,hK _ ?_⟩
        clear hK K
        by_cases hfr:y.frm=s.pl
        ·have hne:(y.frm != s.pl)=false:=by simp [hfr]
         rw [if_pos ⟨hfr,hg⟩] at hpk
         have h65:FnG Tryz.prog 65 [.box [.d (.ptr (huntC n x) 0),.mp 1,.own 2],.mp (some [.i64,.i64]) (entsA A2 0) A2.length,.arr 108 2 (arvRows A2)] [0] [.box 0 0,.d (.i lv)] (.fn 90 [.box 3 0,.box 4 0])
          [.box [.d (.ptr (huntC n x) 0),.mp 1,.own 2],.mp (some [.i64,.i64]) (entsA A2 0) A2.length,.arr 108 2 (arvRows A2),.box [.d (.i lv)],.box [.box 0 0]]:=z1322 _ A2 lv
         obtain⟨Ws,hWs⟩:∃ Ws,Ws=walksL x lv:=⟨_,rfl⟩
         have hit2:=z1297 n x lv (by omega) (by omega) (by omega)
         rw [← hWs] at hit2 hpk
         obtain⟨lo,hlo⟩:∃ lo,lo=wr (lv + (spanW y x.party).lo):=⟨_,rfl⟩
         obtain⟨hi,hhi⟩:∃ hi,hi=wr (lv + (spanW y x.party).hi):=⟨_,rfl⟩
         rw [← hlo,← hhi] at hpk
         have hlo':IntKind.i64.wrap (lv + (spanW y x.party).lo)=lo:=hlo.symm
         have hhi':IntKind.i64.wrap (lv + (spanW y x.party).hi)=hi:=hhi.symm
         repeat (first|refine nx ?_|(refine z3 fun K hK=>?_;simp only [go_sem,hne];apply hK;clear hK K))
         refine z5 rfl ?_
         repeat (first|refine z27 ?_|refine z47 ?_|refine z11 ?_|refine z6 ?_)
         refine z3 fun K hK=>?_
         simp only [go_sem]
         refine⟨_,.own (ns:=[16,14,150]) (news:=[154,155]) (bads:=[14,150]) (rd:=[]) (hf:=h65) (hnd:=by decide) (hl0:=rfl) (hl1:=rfl) (hm:=by repeat (first|exact trivial|refine And.intro ?_ ?_|rfl)) (hnew:=rfl) (hla:=rfl) (ha:=z88 (by repeat (first|exact trivial|refine And.intro ?_ ?_|exact z104 rfl|exact z74 rfl rfl))) (hrd:=rfl) (hsh:=z232 _) (hb:=rfl) (hfl:=.inl rfl),?_⟩
         simp only [go_sem,List.map_cons,List.map_nil]
         apply hK
         clear hK K
         repeat (first|refine z27 ?_|refine z47 ?_|refine z11 ?_|refine z6 ?_)
         refine z38 ?_
         have fin:∀ A3,walkA x.clues lo hi (fun t=>⟨y.to,t,s.pl,s.mi,k,lv⟩) Ws A2=A3→pathsA n x s.pl s.mi lv (k + 1) A1=A3:=fun A3 h=>by rw [hpk,h]
         refine z229 (fun _ h=>by cases h;exact hJ2) 16 16 ((trkB n x).map some) [154,155] rfl hit2 (fun b=>rfl) (by intro row hr;obtain⟨w,_,rfl⟩:=List.mem_map.1 hr;rfl)
          (fun _=>[(109,.undef)]) (fun (a:List Arv)=>[(154,none),(155,none),(14,some (.mp (some [.i64,.i64]) (entsA a 0) a.length)),(150,some (.arr 108 2 (arvRows a)))])
          (fun i a=>walkA x.clues lo hi (fun t=>⟨y.to,t,s.pl,s.mi,k,lv⟩) Ws A2=walkA x.clues lo hi (fun t=>⟨y.to,t,s.pl,s.mi,k,lv⟩) (Ws.drop i) a∧goodA n x a)
          (fun e a=>e=.exit 6∧walkA x.clues lo hi (fun t=>⟨y.to,t,s.pl,s.mi,k,lv⟩) Ws A2=a∧goodA n x a) A2 ?_ ?_ ⟨rfl,hgA2⟩ ?_ ?_ ?_ ?_
         ·exact⟨rfl,rfl,trivial⟩
         ·simp only [go_sem]
          refine weA ?_ ?_ <;> simp
         ·intro a
          simp only [go_sem]
          exact⟨rfl,rfl,trivial⟩
         ·rintro i2 A3 row hj2 ⟨hA3,hgA3⟩ l2 m2
          obtain⟨w,hw2,rfl⟩:∃ w,Ws[i2]?=some w∧row=[.i w.1,.bool w.2]:=by
           simp only [wkRows,List.getElem?_map,Option.map_eq_some_iff] at hj2
           obtain⟨w,h1,h2⟩:=hj2
           exact⟨w,h1,h2.symm⟩
          have hwr:=z295 (hWs ▸ List.mem_of_getElem? hw2)
          rw [z86 hw2,walkA] at hA3
          have hA3l:=z373 hgA3
          simp only [go_sem]
          repeat (first|refine nx ?_|(refine z3 fun K hK=>?_;simp only [go_sem];apply hK;clear hK K))
          intro J3 hJ3
          refine z38 ?_
          repeat (first|refine nx ?_|(refine z3 fun K hK=>?_;simp only [go_sem,hhi'];apply hK;clear hK K))
          refine z4 rfl (fun hc1=>?_) (fun hc1=>?_)
          ·have hc1':w.1 > hi:=by simpa using hc1
           rw [if_pos hc1'] at hA3
           repeat (first|refine nx ?_|(refine z3 fun K hK=>?_;simp only [go_sem];apply hK;clear hK K))
           refine⟨rfl,rfl,A3,?_,rfl,hA3,hgA3⟩
           simp only [go_sem]
           refine weA ?_ ?_ <;> simp
          ·have hc1':¬ w.1 > hi:=by simpa using hc1
           rw [if_neg hc1'] at hA3
           repeat (first|refine nx ?_|(refine z3 fun K hK=>?_;simp only [go_sem,hlo'];apply hK;clear hK K))
           refine z4 rfl (fun hc2=>?_) (fun hc2=>?_)
           ·have hc2':w.1 ≥ lo:=by simpa using hc2
            rw [if_pos hc2'] at hA3
            have h63':FnG Tryz.prog 63 [.box [.d (.ptr (huntC n x) 0),.mp 1,.own 2],.mp (some [.i64,.i64]) (entsA A3 0) A3.length,.arr 108 2 (arvRows A3)] [0] [.box 0 0,.d (.agg [.i y.to,.i w.1]),.d (.agg [.i s.pl,.i s.mi,.i k,.i lv])] (.tup [])
             [.box [.d (.ptr (huntC n x) 0),.mp 1,.own 2],.mp (some [.i64,.i64]) (entsA (arriveA x.clues A3 ⟨y.to,w.1,s.pl,s.mi,k,lv⟩) 0) (arriveA x.clues A3 ⟨y.to,w.1,s.pl,s.mi,k,lv⟩).length,.arr 108 2 (arvRows (arriveA x.clues A3 ⟨y.to,w.1,s.pl,s.mi,k,lv⟩))] :=
             z1367 n x A3 ⟨y.to,w.1,s.pl,s.mi,k,lv⟩ hyg.to.1 (by omega) (by omega)
            repeat (first|refine z27 ?_|refine z47 ?_)
            refine z3 fun K hK=>?_
            simp only [go_sem]
            refine⟨_,.own (ns:=[16,14,150]) (news:=[]) (bads:=[14,150]) (rd:=[]) (hf:=h63') (hnd:=by decide) (hl0:=rfl) (hl1:=rfl) (hm:=by repeat (first|exact trivial|refine And.intro ?_ ?_|rfl)) (hnew:=rfl) (hla:=rfl) (ha:=z88 (by repeat (first|exact trivial|refine And.intro ?_ ?_|exact z104 rfl|exact z74 rfl rfl))) (hrd:=rfl) (hsh:=z232 _) (hb:=rfl) (hfl:=.inl rfl),?_⟩
            simp only [go_sem,List.map_cons,List.map_nil]
            apply hK
            clear hK K
            repeat (first|refine nx ?_|(refine z3 fun K hK=>?_;simp only [go_sem];apply hK;clear hK K))
            refine⟨rfl,arriveA x.clues A3 ⟨y.to,w.1,s.pl,s.mi,k,lv⟩,?_,hA3,z136 hgA3 ⟨hyg.to,by dsimp only;omega⟩⟩
            simp only [go_sem]
            refine weA ?_ ?_ <;> simp
           ·have hc2':¬ w.1 ≥ lo:=by simpa using hc2
            rw [if_neg hc2'] at hA3
            repeat (first|refine nx ?_|(refine z3 fun K hK=>?_;simp only [go_sem];apply hK;clear hK K))
            refine⟨rfl,A3,?_,hA3,hgA3⟩
            simp only [go_sem]
            refine weA ?_ ?_ <;> simp
         ·rintro A3 ⟨hA3,hgA3⟩
          rw [wkRows,List.length_map,List.drop_length,walkA] at hA3
          simp only [go_sem]
          repeat (first|refine nx ?_|(refine z3 fun K hK=>?_;simp only [go_sem,hkw];apply hK;clear hK K))
          refine⟨rfl,(k + 1,A3),?_,⟨hkl,hgA3,(fin A3 hA3).symm⟩,by dsimp only;omega⟩
          simp only [go_sem]
          refine weA ?_ ?_ <;> simp
         ·rintro e A3 ⟨rfl,hA3,hgA3⟩ _
          refine z68 ?_
          refine z6 ?_
          simp only [go_sem]
          repeat (first|refine nx ?_|(refine z3 fun K hK=>?_;simp only [go_sem,hkw];apply hK;clear hK K))
          refine⟨rfl,(k + 1,A3),?_,⟨hkl,hgA3,(fin A3 hA3).symm⟩,by dsimp only;omega⟩
          simp only [go_sem]
          refine weA ?_ ?_ <;> simp
        ·have hne:(y.frm != s.pl)=true:=by simpa using hfr
         rw [if_neg (fun hc=>hfr hc.1)] at hpk
         repeat (first|refine nx ?_|(refine z3 fun K hK=>?_;simp only [go_sem,hne];apply hK;clear hK K))
         refine z8 rfl ?_
         repeat (first|refine nx ?_|(refine z3 fun K hK=>?_;simp only [go_sem,hkw];apply hK;clear hK K))
         refine⟨rfl,(k + 1,A2),?_,⟨hkl,hgA2,hpk.symm⟩,by dsimp only;omega⟩
         simp only [go_sem]
         refine weA ?_ ?_ <;> simp
       ·rw [if_neg (fun hc=>hg hc.2)] at hpk
        repeat (first|refine nx ?_|(refine z3 fun K hK=>?_;simp only [go_sem,hy,List.getElem?_map,Path.row];apply hK;clear hK K))
        refine z7 (by kernel_rfl) (by kernel_rfl) fun K hK=>?_
        simp only [go_sem,c2,hf]
        refine⟨by kernel_rfl,hK _ ?_⟩
        clear hK K
        by_cases hfr:y.frm=s.pl
        all_goals
         first | (have hne:(y.frm != s.pl)=false:=by simp [hfr]) | (have hne:(y.frm != s.pl)=true:=by simpa using hfr)
         repeat (first|refine nx ?_|(refine z3 fun K hK=>?_;simp only [go_sem,hne];apply hK;clear hK K))
         refine z8 rfl ?_
         repeat (first|refine nx ?_|(refine z3 fun K hK=>?_;simp only [go_sem,hkw];apply hK;clear hK K))
         refine⟨rfl,(k + 1,A2),?_,⟨hkl,hgA2,hpk.symm⟩,by dsimp only;omega⟩
         simp only [go_sem]
         refine weA ?_ ?_ <;> simp
      ·have he:k=n.paths.length:=by (have:¬ k<n.paths.length:=by simpa using hkb);omega
       subst he
       repeat (first|refine nx ?_|(refine z3 fun K hK=>?_;simp only [go_sem];apply hK;clear hK K))
       refine⟨rfl,(A2,L2),?_,by rw [hnext,hlv,hA2],hgA2⟩
       simp only [go_sem]
       refine weA ?_ ?_ <;> simp
   ·rintro⟨A1,L1⟩ ⟨hA1,hgA1⟩
    rw [minRows,List.length_map,List.take_length,hLs] at hA1
    have hA1:(A1,L1)=spotA n x s (A,L):=hA1
    have hln:A.length≤A1.length:=by
     have:=z1086 n x s (A,L)
     rw [← hA1] at this
     exact this
    rw [show boundN n x + 1 - i=(boundN n x - i) + 1 by omega,followF] at hRi
    dsimp only at hRi
    rw [hs] at hRi
    dsimp only at hRi
    rw [← hA1] at hRi
    simp only [go_sem]
    repeat (first|refine nx ?_|(refine z3 fun K hK=>?_;simp only [go_sem,hw];apply hK;clear hK K))
    refine⟨rfl,(i + 1,A1,L1),?_,⟨?_,hgA1,?_⟩,by dsimp only;omega⟩
    ·simp only [go_sem]
     refine weA ?_ ?_ <;> simp
    ·dsimp only at hgA1 ⊢;omega
    ·dsimp only
     rw [show boundN n x + 1 - (i + 1)=boundN n x - i by omega]
     exact hRi
  ·have he:i=A.length:=by (have:¬ i<A.length:=by simpa using hb);omega
   have hRe:R=(A,L):=by
    rw [hRi]
    cases hf:boundN n x + 1 - i with
    | zero=>rfl
    | succ f=>rw [followF];dsimp only;rw [List.getElem?_eq_none (by omega)]
   rw [hRe]
   repeat (first|refine nx ?_|(refine z3 fun K hK=>?_;simp only [go_sem];apply hK;clear hK K))
   simp only [go_sem,trkM,legsB]
end Go.Ab
namespace Go.Ab
open Go.RowKit Go.Proofs
set_option maxHeartbeats 16000000
set_option maxRecDepth 20000
attribute [local irreducible] WalkL Walk
structure EndT where
 pl:Int
 mi:Int
 pa:Int
 lv:Int
def EndT.row (e:EndT):List DV:=[.i e.pl,.i e.mi,.i e.pa,.i e.lv]
def endRows (l:List EndT):List (List DV):=l.map fun e=>[.agg e.row]
def seenF (l:List Clue):Int:=l.foldl (fun a c=>if c.seen then max a c.minute else a) 0
def endIn (x:Missed) (s:Arv) (m:Int):Option EndT:=if m=x.now then some ⟨s.pl,s.mi,-1,x.now⟩ else none
def endOn (n:Net) (x:Missed) (s:Arv) (lv:Int) (k:Nat):Option EndT:=match n.paths[k]? with
 | some y=>if y.grade≤x.party.grade∧y.frm=s.pl then some ⟨s.pl,s.mi,k,lv⟩ else none
 | none=>none
def endLv (n:Net) (x:Missed) (s:Arv) (lv:Int):List EndT:=if lv=x.now∨lv<seenF x.clues then [] else (List.range n.paths.length).filterMap (endOn n x s lv)
def endOf8 (n:Net) (x:Missed) (s:Arv):List EndT:=(staysL x s.pl s.mi x.now).filterMap (endIn x s)++(staysL x s.pl s.mi (wr (s.mi + x.rest))).flatMap (endLv n x s)
def endsL (n:Net) (x:Missed) (A:List Arv):List EndT:=A.flatMap (endOf8 n x)
theorem z497 {I X Y:List EndT} {e:EndT} (h:I=X++e::Y):(endRows I)[X.length]?=some [.agg e.row]:=by
 rw [h];simp [endRows]
theorem z1299 (n:Net) (x:Missed) (hx:Hunted n x) (A:List Arv) (b:DV) (hgA:goodA n x A) :
  IterE Tryz.prog 45 [] (fun l=>[.d (.ptr [.ptr (huntC n x) 0,b,.sl (arvRows A)] 0),.d (.yld l)]) (endRows (endsL n x A)):=by
 have c11:(huntC n x)[11]?=some (.sl (x.clues.map Clue.row)):=rfl
 have c9:(huntC n x)[9]?=some (.i x.now):=rfl
 have c10:(huntC n x)[10]?=some (.i x.rest):=rfl
 have c1:(huntC n x)[1]?=some (.sl (n.paths.map Path.row)):=rfl
 have hst:=hx.start
 have hno:=hx.now
 have hre:=hx.rest
 have hcl:=hx.clues
 have hpl:=hx.net.paths
 have hAl:=z373 hgA
 have hN:=z751 hx
 obtain⟨H,hH⟩:∃ H,H=huntC n x:=⟨_,rfl⟩
 refine z278 160 Tryz.call45 Tryz.func45 rfl rfl fun l J hG=>?_
 simp only [go_sem,St.startG,Tryz.ntmps45,Tryz.results45,List.map_cons,List.map_nil,List.range_succ,  ]
 repeat (first|refine nx ?_|(refine z3 fun K hK=>?_;simp only [go_sem,c11];apply hK;clear hK K))
 refine z12 (fun (i:Nat)=>[(24,.d (.i i))]) (fun i=>[(4,some (.box [.d (.i (seenF (x.clues.take i)))]))]) (fun i=>i≤x.clues.length) (fun i=>x.clues.length - i) 0 ?_ (Nat.zero_le _) ?_
 ·simp only [go_sem,seenF,List.take_zero,List.foldl_nil]
  refine weA ?_ ?_ <;> simp
 ·intro i hi
  simp only [go_sem]
  repeat (first|refine nx ?_|(refine z3 fun K hK=>?_;simp only [go_sem];apply hK;clear hK K))
  refine z4 rfl (fun hb=>?_) (fun hb=>?_)
  ·have hlt:i<x.clues.length:=by simpa using hb
   have hw:IntKind.i64.wrap ((i:Int) + 1)=((i + 1:Nat):Int):=by rw [z9 (by omega)];simp
   obtain⟨c,hc⟩:∃ c,x.clues[i]?=some c:=⟨_,List.getElem?_eq_getElem hlt⟩
   have hs1:seenF (x.clues.take (i + 1))=if c.seen then max (seenF (x.clues.take i)) c.minute else seenF (x.clues.take i):=by
    rw [seenF,z28 _ _ _ _ _ hc];rfl
   repeat (first|refine nx ?_|(refine z3 fun K hK=>?_;simp only [go_sem,hc,List.getElem?_map,Clue.row];apply hK;clear hK K))
   cases hcs:c.seen
   ·rw [hcs] at hs1
    refine z5 rfl ?_
    repeat (first|refine nx ?_|(refine z3 fun K hK=>?_;simp only [go_sem,hw];apply hK;clear hK K))
    refine⟨rfl,i + 1,?_,hlt,by omega⟩
    simp only [go_sem,hs1,Bool.false_eq_true,if_false]
    refine weA ?_ ?_ <;> simp
   ·rw [hcs] at hs1
    refine z8 rfl ?_
    repeat (first|refine nx ?_|(refine z3 fun K hK=>?_;simp only [go_sem,hw];apply hK;clear hK K))
    refine⟨rfl,i + 1,?_,hlt,by omega⟩
    simp only [go_sem,hs1,if_true]
    refine weA ?_ ?_ <;> simp
  ·have he:i=x.clues.length:=by (have:¬ i<x.clues.length:=by simpa using hb);omega
   subst he
   rw [List.take_length]
   have hrl:=z387 A
   repeat (first|refine nx ?_|(refine z3 fun K hK=>?_;simp only [go_sem,hrl];apply hK;clear hK K))
   obtain⟨I,hI⟩:∃ I,I=endsL n x A:=⟨_,rfl⟩
   rw [← hI] at hG ⊢
   refine z78 (fun (i:Nat)=>[(40,.d (.i i))]) (fun _=>[]) (fun k i=>i≤A.length∧∃ X,k=some X.length∧I=X++(A.drop i).flatMap (endOf8 n x)) (fun i=>A.length - i) 0 ?_ ⟨Nat.zero_le _,[],rfl,by rw [hI];rfl⟩ ?_
   ·simp only [go_sem]
    refine weA ?_ ?_ <;> simp
   ·rintro k i ⟨hi,X,rfl,hX⟩
    simp only [go_sem]
    repeat (first|refine nx ?_|(refine z3 fun K hK=>?_;simp only [go_sem];apply hK;clear hK K))
    refine z4 rfl (fun hb=>?_) (fun hb=>?_)
    ·have hlt:i<A.length:=by simpa using hb
     have hw:IntKind.i64.wrap ((i:Int) + 1)=((i + 1:Nat):Int):=by rw [z9 (by omega)];simp
     obtain⟨s,hs⟩:∃ s,A[i]?=some s:=⟨_,List.getElem?_eq_getElem hlt⟩
     have hrow:=z388 hs
     have hgs:=hgA.1 s (List.mem_of_getElem? hs)
     rw [z86 hs,List.flatMap_cons,endOf8] at hX
     have h64a:=z1366 [.ptr (huntC n x) 0,b,.sl (arvRows A)] s.pl s.mi x.now
     have h64b:=z1366 [.ptr (huntC n x) 0,b,.sl (arvRows A)] s.pl s.mi (wr (s.mi + x.rest))
     have hit1:=z1126 n x b (.sl (arvRows A)) s.pl s.mi x.now hgs.1.1 (by omega) (by omega) (by omega)
     have hit2:=z1126 n x b (.sl (arvRows A)) s.pl s.mi (wr (s.mi + x.rest)) hgs.1.1 (by omega) (by omega) (by omega)
     obtain⟨L1,hL1⟩:∃ L,L=staysL x s.pl s.mi x.now:=⟨_,rfl⟩
     obtain⟨L2,hL2⟩:∃ L,L=staysL x s.pl s.mi (wr (s.mi + x.rest)):=⟨_,rfl⟩
     rw [← hL1] at hit1 hX
     rw [← hL2] at hit2 hX
     obtain⟨Z,hZ⟩:∃ Z,Z=(A.drop (i + 1)).flatMap (endOf8 n x):=⟨_,rfl⟩
     rw [← hZ] at hX
     repeat (first|refine nx ?_|(refine z3 fun K hK=>?_;simp only [go_sem,hrow];apply hK;clear hK K))
     refine z7 (by kernel_rfl) (by kernel_rfl) fun K hK=>?_
     simp only [go_sem,c9]
     refine⟨_,.fn (hf:=h64a) (hd:=rfl) (hr:=.inr rfl),?_⟩
     simp only [go_sem]
     refine⟨by kernel_rfl,hK _ ?_⟩
     clear hK K
     refine z38 ?_
     refine z181 rfl hit1 (by intro row hr;obtain⟨w,_,rfl⟩:=List.mem_map.1 hr;rfl) (fun (_:Unit)=>[]) (fun _=>[]) (fun k' j _=>∃ Y,k'=some Y.length∧I=Y++((L1.drop j).filterMap (endIn x s)++(L2.flatMap (endLv n x s)++Z)))
      (fun e k' _=>e=.ret∧k'=none) () ?_ ⟨X,rfl,by simpa using hX⟩ ?_ ?_ ?_
     ·simp only [go_sem]
      refine weA ?_ ?_ <;> simp
     ·rintro X0 W0 k' j _ row hj ⟨Y,rfl,hY⟩ l1 m1
      obtain⟨m,hm,rfl⟩:∃ m,L1[j]?=some m∧row=[.i m]:=by
       simp only [minRows,List.getElem?_map,Option.map_eq_some_iff] at hj
       obtain⟨lv,h1,h2⟩:=hj
       exact⟨lv,h1,h2.symm⟩
      have hG1:=z281 hG X0 W0
      rw [z86 hm,List.filterMap_cons] at hY
      simp only [go_sem]
      repeat (first|refine nx ?_|(refine z3 fun K hK=>?_;simp only [go_sem];apply hK;clear hK K))
      by_cases hmn:m=x.now
      ·have hme:(m == x.now)=true:=by simpa using hmn
       have hei:endIn x s m=some ⟨s.pl,s.mi,-1,x.now⟩:=by rw [endIn,if_pos hmn]
       rw [hei] at hY
       dsimp only at hY
       rw [List.cons_append] at hY
       refine z80 hG1 [] 22 (by kernel_rfl) (by kernel_rfl) (by kernel_rfl) (by decide) fun K hK=>?_
       simp only [go_sem,c9,hme]
       refine⟨by kernel_rfl,?_⟩
       refine⟨rfl,Y.length,_,rfl,rfl,rfl,z497 hY,?_,?_⟩
       ·simp only [go_sem]
        refine hK _ _ ?_
        clear hK K
        refine z5 rfl ?_
        repeat (first|refine nx ?_|(refine z3 fun K hK=>?_;simp only [go_sem];apply hK;clear hK K))
        refine⟨(),?_,Y++[⟨s.pl,s.mi,-1,x.now⟩],by simp,by rw [hY];simp⟩
        simp only [go_sem]
        refine weA ?_ ?_ <;> simp
       ·simp only [go_sem]
        refine hK _ _ ?_
        clear hK K
        refine z8 rfl ?_
        repeat (first|refine nx ?_|(refine z3 fun K hK=>?_;simp only [go_sem];apply hK;clear hK K))
        refine⟨rfl,(),?_,rfl,rfl⟩
        simp only [go_sem]
        refine weA ?_ ?_ <;> simp
      ·have hme:(m == x.now)=false:=by simpa using hmn
       have hei:endIn x s m=none:=by rw [endIn,if_neg hmn]
       rw [hei] at hY
       dsimp only at hY
       refine z80 hG1 [] 22 (by kernel_rfl) (by kernel_rfl) (by kernel_rfl) (by decide) fun K hK=>?_
       simp only [go_sem,c9,hme]
       refine⟨by kernel_rfl,?_⟩
       refine hK _ _ ?_
       clear hK K
       refine z5 rfl ?_
       repeat (first|refine nx ?_|(refine z3 fun K hK=>?_;simp only [go_sem];apply hK;clear hK K))
       refine⟨(),?_,Y,rfl,hY⟩
       simp only [go_sem]
       refine weA ?_ ?_ <;> simp
     ·rintro k' _ ⟨Y,rfl,hY⟩
      rw [minRows,List.length_map,List.drop_length,List.filterMap_nil,List.nil_append] at hY
      simp only [go_sem]
      repeat (first|refine nx ?_|(refine z3 fun K hK=>?_;simp only [go_sem];apply hK;clear hK K))
      refine z7 (by kernel_rfl) (by kernel_rfl) fun K hK=>?_
      simp only [go_sem,c10]
      refine⟨_,.fn (hf:=h64b) (hd:=rfl) (hr:=.inr rfl),?_⟩
      simp only [go_sem]
      refine⟨by kernel_rfl,hK _ ?_⟩
      clear hK K
      refine z38 ?_
      refine z181 rfl hit2 (by intro row hr;obtain⟨w,_,rfl⟩:=List.mem_map.1 hr;rfl) (fun (_:Unit)=>[]) (fun _=>[]) (fun k' j _=>∃ Y,k'=some Y.length∧I=Y++((L2.drop j).flatMap (endLv n x s)++Z))
       (fun e k' _=>e=.ret∧k'=none) () ?_ ⟨Y,rfl,by simpa using hY⟩ ?_ ?_ ?_
      ·simp only [go_sem]
       refine weA ?_ ?_ <;> simp
      ·rintro X0 W0 k' j _ row hj ⟨Y,rfl,hY⟩ l1 m1
       obtain⟨lv,hlv,rfl⟩:∃ m,L2[j]?=some m∧row=[.i m]:=by
        simp only [minRows,List.getElem?_map,Option.map_eq_some_iff] at hj
        obtain⟨lv,h1,h2⟩:=hj
        exact⟨lv,h1,h2.symm⟩
       have hG1:=z281 hG X0 W0
       rw [z86 hlv,List.flatMap_cons] at hY
       simp only [go_sem]
       repeat (first|refine nx ?_|(refine z3 fun K hK=>?_;simp only [go_sem];apply hK;clear hK K))
       by_cases hmn:lv=x.now
       ·have hme:(lv == x.now)=true:=by simpa using hmn
        rw [endLv,if_pos (.inl hmn),List.nil_append] at hY
        repeat (first|refine nx ?_|(refine z3 fun K hK=>?_;simp only [go_sem,c9,hme];apply hK;clear hK K))
        refine z8 rfl ?_
        repeat (first|refine nx ?_|(refine z3 fun K hK=>?_;simp only [go_sem];apply hK;clear hK K))
        refine⟨(),?_,Y,rfl,hY⟩
        simp only [go_sem]
        refine weA ?_ ?_ <;> simp
       ·have hme:(lv == x.now)=false:=by simpa using hmn
        by_cases hls:lv<seenF x.clues
        ·have hle:decide (lv<seenF x.clues)=true:=by simpa using hls
         rw [endLv,if_pos (.inr hls),List.nil_append] at hY
         repeat (first|refine nx ?_|(refine z3 fun K hK=>?_;simp only [go_sem,c9,hme,hle];apply hK;clear hK K))
         refine z8 rfl ?_
         repeat (first|refine nx ?_|(refine z3 fun K hK=>?_;simp only [go_sem];apply hK;clear hK K))
         refine⟨(),?_,Y,rfl,hY⟩
         simp only [go_sem]
         refine weA ?_ ?_ <;> simp
        ·have hle:decide (lv<seenF x.clues)=false:=by simpa using hls
         rw [endLv,if_neg (fun hc=>hc.elim hmn hls)] at hY
         repeat (first|refine nx ?_|(refine z3 fun K hK=>?_;simp only [go_sem,c9,hme,hle];apply hK;clear hK K))
         refine z5 rfl ?_
         repeat (first|refine nx ?_|(refine z3 fun K hK=>?_;simp only [go_sem,c1];apply hK;clear hK K))
         obtain⟨V,hV⟩:∃ V,V=(L2.drop (j + 1)).flatMap (endLv n x s)++Z:=⟨_,rfl⟩
         rw [List.append_assoc,← hV] at hY
         refine z78 (fun (q:Nat)=>[(121,.d (.i q))]) (fun _=>[]) (fun k q=>q≤n.paths.length∧∃ Y,k=some Y.length∧I=Y++((List.range' q (n.paths.length - q)).filterMap (endOn n x s lv)++V)) (fun q=>n.paths.length - q) 0 ?_ ⟨Nat.zero_le _,Y,rfl,by rw [Nat.sub_zero,← List.range_eq_range'];exact hY⟩ ?_
         ·try simp only [go_sem]
          refine weA ?_ ?_ <;> simp
         ·rintro k q ⟨hq,Y,rfl,hY⟩
          simp only [go_sem]
          repeat (first|refine nx ?_|(refine z3 fun K hK=>?_;simp only [go_sem];apply hK;clear hK K))
          refine z4 rfl (fun hkb=>?_) (fun hkb=>?_)
          ·have hkl:q<n.paths.length:=by simpa using hkb
           have hkw:IntKind.i64.wrap ((q:Int) + 1)=((q + 1:Nat):Int):=by rw [z9 (by omega)];simp
           obtain⟨y,hy⟩:∃ y,n.paths[q]?=some y:=⟨_,List.getElem?_eq_getElem hkl⟩
           obtain⟨ks,vs,cc,hT,hlook⟩:=z459 n x.party hy
           have c2:(huntC n x)[2]?=some (.mp none ks vs cc):=by rw [← hT];rfl
           rw [show n.paths.length - q=(n.paths.length - (q + 1)) + 1 by omega,List.range'_succ,List.filterMap_cons] at hY
           rcases hlook with ⟨hg,fq,fb,hf⟩ | ⟨hg,hf⟩
           ·by_cases hfr:y.frm=s.pl
            ·have hne:(y.frm == s.pl)=true:=by simpa using hfr
             have heo:endOn n x s lv q=some ⟨s.pl,s.mi,q,lv⟩:=by rw [endOn,hy];dsimp only;rw [if_pos ⟨hg,hfr⟩]
             rw [heo] at hY
             dsimp only at hY
             rw [List.cons_append] at hY
             repeat (first|refine nx ?_|(refine z3 fun K hK=>?_;simp only [go_sem,hy,List.getElem?_map,Path.row,c2,hf,Span.row];apply hK;clear hK K))
             refine z161 hG1 [] fun K hK=>?_
             simp only [go_sem,hne]
             refine⟨rfl,Y.length,_,rfl,rfl,rfl,z497 hY,?_,?_⟩
             ·simp only [go_sem]
              refine hK _ _ ?_
              clear hK K
              refine z5 rfl ?_
              repeat (first|refine nx ?_|(refine z3 fun K hK=>?_;simp only [go_sem,hkw];apply hK;clear hK K))
              refine⟨q + 1,?_,⟨hkl,Y++[⟨s.pl,s.mi,q,lv⟩],by simp,by rw [hY];simp⟩,by omega⟩
              try simp only [go_sem]
              refine weA ?_ ?_ <;> simp
             ·simp only [go_sem]
              refine hK _ _ ?_
              clear hK K
              refine z8 rfl ?_
              repeat (first|refine nx ?_|(refine z3 fun K hK=>?_;simp only [go_sem];apply hK;clear hK K))
              refine⟨rfl,(),?_,rfl,rfl⟩
              try simp only [go_sem]
              refine weA ?_ ?_ <;> simp
            ·have hne:(y.frm == s.pl)=false:=by simpa using hfr
             have heo:endOn n x s lv q=none:=by rw [endOn,hy];dsimp only;rw [if_neg (fun hc=>hfr hc.2)]
             rw [heo] at hY
             dsimp only at hY
             repeat (first|refine nx ?_|(refine z3 fun K hK=>?_;simp only [go_sem,hy,List.getElem?_map,Path.row,c2,hf,Span.row];apply hK;clear hK K))
             refine z161 hG1 [] fun K hK=>?_
             simp only [go_sem,hne]
             refine hK _ _ ?_
             clear hK K
             refine z5 rfl ?_
             repeat (first|refine nx ?_|(refine z3 fun K hK=>?_;simp only [go_sem,hkw];apply hK;clear hK K))
             refine⟨q + 1,?_,⟨hkl,Y,rfl,hY⟩,by omega⟩
             try simp only [go_sem]
             refine weA ?_ ?_ <;> simp
           ·have heo:endOn n x s lv q=none:=by rw [endOn,hy];dsimp only;rw [if_neg (fun hc=>hg hc.1)]
            rw [heo] at hY
            dsimp only at hY
            repeat (first|refine nx ?_|(refine z3 fun K hK=>?_;simp only [go_sem,hy,List.getElem?_map,Path.row,c2,hf];apply hK;clear hK K))
            refine z5 rfl ?_
            repeat (first|refine nx ?_|(refine z3 fun K hK=>?_;simp only [go_sem,hkw];apply hK;clear hK K))
            refine⟨q + 1,?_,⟨hkl,Y,rfl,hY⟩,by omega⟩
            try simp only [go_sem]
            refine weA ?_ ?_ <;> simp
          ·have he:q=n.paths.length:=by (have:¬ q<n.paths.length:=by simpa using hkb);omega
           subst he
           rw [Nat.sub_self,List.range'_zero,List.filterMap_nil,List.nil_append] at hY
           repeat (first|refine nx ?_|(refine z3 fun K hK=>?_;simp only [go_sem];apply hK;clear hK K))
           refine⟨(),?_,Y,rfl,by rw [hY,hV]⟩
           try simp only [go_sem]
           refine weA ?_ ?_ <;> simp
      ·rintro k' _ ⟨Y,rfl,hY⟩
       rw [minRows,List.length_map,List.drop_length,List.flatMap_nil,List.nil_append] at hY
       simp only [go_sem]
       repeat (first|refine nx ?_|(refine z3 fun K hK=>?_;simp only [go_sem,hw];apply hK;clear hK K))
       refine⟨i + 1,?_,⟨hlt,Y,rfl,by rw [hY,hZ]⟩,by omega⟩
       try simp only [go_sem]
       refine weA ?_ ?_ <;> simp
      ·rintro e k' _ ⟨rfl,rfl⟩ _
       repeat (first|refine z124 ?_|refine z146 ?_)
       exact⟨trivial,.inr rfl⟩
     ·rintro e k' _ ⟨rfl,rfl⟩ _
      repeat (first|refine z124 ?_|refine z146 ?_)
      exact⟨trivial,.inr rfl⟩
    ·have he:i=A.length:=by (have:¬ i<A.length:=by simpa using hb);omega
     subst he
     rw [List.drop_length,List.flatMap_nil,List.append_nil] at hX
     repeat (first|refine nx ?_|(refine z3 fun K hK=>?_;simp only [go_sem];apply hK;clear hK K))
     exact⟨trivial,.inl (by rw [hX,endRows,List.length_map])⟩
end Go.Ab
namespace Go.Ab
open Go.RowKit Go.Proofs
set_option maxHeartbeats 16000000
set_option maxRecDepth 20000
attribute [local irreducible] WalkL Walk
def posL (l:List Int):List Int:=selL (fun i=>decide (getI l i > 0)) l.length
theorem z1176 {q:Nat→Bool} {k:Nat} (h:selL q k=[]) {i:Nat} (hi:i<k):q i=false:=by
 cases hq:q i
 ·rfl
 ·exfalso
  have:(i:Int) ∈ selL q k:=List.mem_map.2 ⟨i,List.mem_filter.2 ⟨List.mem_range.2 hi,hq⟩,rfl⟩
  rw [h] at this
  simp at this
theorem z1245 (l:List Int) (hl:l.length<2 ^ 30) (hp:posL l=[]):Fn Tryz.prog 46 [.sl (intRows l)] .nilsl:=by
 have hrl:=z14 l
 refine z1227 20 Tryz.call46 Tryz.func46 rfl (by decide) fun J=>?_
 simp only [go_sem,St.start,Tryz.ntmps46,Tryz.results46]
 repeat (first|refine nx ?_|(refine z3 fun K hK=>?_;simp only [go_sem,hrl];apply hK;clear hK K))
 refine z12 (fun (i:Nat)=>[(7,.d (.i i)),(2,.nil)]) (fun _=>[]) (fun i=>i≤l.length) (fun i=>l.length - i) 0 ?_ (Nat.zero_le _) ?_
 ·simp only [go_sem]
  refine weA ?_ ?_ <;> simp
 ·intro i hi
  simp only [go_sem]
  repeat (first|refine nx ?_|(refine z3 fun K hK=>?_;simp only [go_sem];apply hK;clear hK K))
  refine z4 rfl (fun hb=>?_) (fun hb=>?_)
  ·have hlt:i<l.length:=by simpa using hb
   have hw:IntKind.i64.wrap ((i:Int) + 1)=((i + 1:Nat):Int):=by rw [z9 (by omega)];simp
   have hg:(intRows l)[i]?=some [.i (getI l i)]:=by simpa using z97 (l:=l) (i:=(i:Int)) (by omega) (by simpa using hlt)
   have hil:i<(intRows l).length:=by omega
   have hq:=z1176 hp hlt
   repeat (first|refine nx ?_|(refine z3 fun K hK=>?_;simp only [go_sem,hg,hil,hq];apply hK;clear hK K))
   refine z5 rfl ?_
   repeat (first|refine nx ?_|(refine z3 fun K hK=>?_;simp only [go_sem,hw];apply hK;clear hK K))
   refine⟨rfl,i + 1,?_,hlt,by omega⟩
   try simp only [go_sem]
   refine weA ?_ ?_ <;> simp
  ·have he:i=l.length:=by (have:¬ i<l.length:=by simpa using hb);omega
   subst he
   repeat (first|refine nx ?_|(refine z3 fun K hK=>?_;simp only [go_sem];apply hK;clear hK K))
   simp only [go_sem,retN]
theorem z1244 (l:List Int) (hl:l.length<2 ^ 30):FnS Tryz.prog 46 [.sl (intRows l)] 3 1 (intRows (posL l)):=by
 have hrl:=z14 l
 refine z249 24 Tryz.call46 Tryz.func46 rfl (by decide) fun J=>?_
 simp only [go_sem,St.start,Tryz.ntmps46,Tryz.results46,]
 repeat (first|refine nx ?_|(refine z3 fun K hK=>?_;simp only [go_sem,hrl];apply hK;clear hK K))
 refine z12 (fun (i:Nat)=>[(7,.d (.i i)),(2,.own 22)]) (fun i=>[(22,some (.arr 3 1 (intRows (selL (fun j=>decide (getI l j > 0)) i))))]) (fun i=>i≤l.length) (fun i=>l.length - i) 0 ?_ (Nat.zero_le _) ?_
 ·simp only [go_sem]
  refine z32 [22] ?_ ?_ ?_ ?_
  ·simp [lessT,z96,AV.less]
  ·simp [lessM,lessB,lessT,z96,AV.less,selL,intRows]
  ·first | rfl | simp [liveB,AV.refs,AV.refs.AV.refss,selL,intRows]
  ·first | rfl | simp [liveM,liveB,AV.refs,AV.refs.AV.refss,selL,intRows]
 ·intro i hi
  have hsl:=z1177 (fun j=>decide (getI l j > 0)) i
  have hs1:=z1088 (fun j=>decide (getI l j > 0)) i
  have hr39:(intRows (selL (fun j=>decide (getI l j > 0)) i)).length≤549755813887:=by rw [z14];omega
  simp only [go_sem]
  repeat (first|refine nx ?_|(refine z3 fun K hK=>?_;simp only [go_sem];apply hK;clear hK K))
  refine z4 rfl (fun hb=>?_) (fun hb=>?_)
  ·have hlt:i<l.length:=by simpa using hb
   have hw:IntKind.i64.wrap ((i:Int) + 1)=((i + 1:Nat):Int):=by rw [z9 (by omega)];simp
   have hg:(intRows l)[i]?=some [.i (getI l i)]:=by simpa using z97 (l:=l) (i:=(i:Int)) (by omega) (by simpa using hlt)
   have hil:i<(intRows l).length:=by omega
   by_cases hq:getI l i > 0
   ·have hq:decide (getI l i > 0)=true:=decide_eq_true hq
    rw [hq,if_pos rfl] at hs1
    repeat (first|refine nx ?_|(refine z3 fun K hK=>?_;simp only [go_sem,hg,hil,hq];apply hK;clear hK K))
    refine z8 rfl ?_
    repeat (first|refine nx ?_|(refine z3 fun K hK=>?_;simp only [go_sem,hr39,hw];apply hK;clear hK K))
    refine⟨rfl,i + 1,?_,hlt,by omega⟩
    try simp only [go_sem,hs1,intRows,List.map_append,List.map_cons,List.map_nil]
    refine weA ?_ ?_ <;> simp
   ·have hq:decide (getI l i > 0)=false:=decide_eq_false hq
    rw [hq] at hs1
    simp only [Bool.false_eq_true,if_false,List.append_nil] at hs1
    repeat (first|refine nx ?_|(refine z3 fun K hK=>?_;simp only [go_sem,hg,hil,hq];apply hK;clear hK K))
    refine z5 rfl ?_
    repeat (first|refine nx ?_|(refine z3 fun K hK=>?_;simp only [go_sem,hw];apply hK;clear hK K))
    refine⟨rfl,i + 1,?_,hlt,by omega⟩
    try simp only [go_sem,hs1]
    refine weA ?_ ?_ <;> simp
  ·have he:i=l.length:=by (have:¬ i<l.length:=by simpa using hb);omega
   subst he
   repeat (first|refine nx ?_|(refine z3 fun K hK=>?_;simp only [go_sem];apply hK;clear hK K))
   simp only [go_sem,posL]
end Go.Ab
namespace Go.Ab
open Go.RowKit Go.Proofs
set_option maxHeartbeats 16000000
set_option maxRecDepth 20000
attribute [local irreducible] WalkL Walk
def bump1 (l:List Int) (i:Int):List Int:=l.set i.toNat (wr (getI l i + 1))
def tally (a:List Int × List Int) (e:EndT):List Int × List Int:=if e.pa<0 then (bump1 a.1 e.pl,a.2) else (a.1,bump1 a.2 e.pa)
def tallyE (n:Net) (E:List EndT):List Int × List Int:=E.foldl tally (List.replicate n.places.toNat 0,List.replicate n.paths.length 0)
def huntedA (n:Net) (x:Missed):List Arv:=(followF n x (boundN n x + 1) 0 (startA x,[])).1
def whereP (n:Net) (x:Missed):List Int:=posL (tallyE n (endsL n x (huntedA n x))).1
def whereW (n:Net) (x:Missed):List Int:=posL (tallyE n (endsL n x (huntedA n x))).2
def whereC (n:Net) (x:Missed):List Int × List Int × Int :=
 if openX n x≠0 then ([],[],openX n x) else if whereP n x=[]∧whereW n x=[] then ([],[],3) else (whereP n x,whereW n x,0)
def whereD (n:Net) (x:Missed):DV:=.tup [.sl (intRows (whereC n x).1),.sl (intRows (whereC n x).2.1),.i (whereC n x).2.2]
theorem z1149 (l:List Int) (i:Int):(bump1 l i).length=l.length:=by simp [bump1]
theorem z600 (a:List Int × List Int) (e:EndT):(tally a e).1.length=a.1.length∧(tally a e).2.length=a.2.length:=by
 rw [tally];split <;> simp [z1149]
theorem z262:∀ (E:List EndT) (a:List Int × List Int),(E.foldl tally a).1.length=a.1.length∧(E.foldl tally a).2.length=a.2.length
 | [],a=>⟨rfl,rfl⟩
 | e::E,a=>by
  have h:=z262 E (tally a e)
  rw [(z600 a e).1,(z600 a e).2] at h
  exact h
theorem z885 {n:Net} {x:Missed} (hl:x.clues.length<2 ^ 30) (h:openX n x=0):Hunted n x:=by
 have hc:checkPartyF n x.party=0:=by
  rw [openX] at h
  split at h
  ·rename_i h1;exact absurd h h1
  ·rename_i h1;exact Classical.not_not.1 h1
 have hb:badHunt n x=false:=by
  cases hb:badHunt n x
  ·rfl
  ·simp [openX,hc,hb] at h
 have hn:¬ badNet n=true:=fun hb=>by rw [checkPartyF,if_pos hb] at hc;simp at hc
 have hp:¬ badParty x.party=true:=fun hb=>by rw [checkPartyF,if_neg hn,if_pos hb] at hc;simp at hc
 simp only [badHunt,Bool.or_eq_false_iff,Bool.not_eq_false',z20] at hb
 obtain⟨h1,h2,h3,h4⟩:=hb
 exact⟨z113.1 hn,z191.1 hp,⟨h1.1,by omega⟩,⟨h2.1,h4.1⟩,h4.2,h3,hl⟩
theorem z484 {n:Net} {x:Missed} {lo hi:Int} {mk:Int→Arv} (hmk:∀ t,(0≤(mk t).pl∧(mk t).pl<n.places)∧(mk t).mi=t):∀ {ws:List (Int × Bool)} {A:List Arv},(∀ w ∈ ws,x.start≤w.1∧w.1≤x.now)→goodA n x A→goodA n x (walkA x.clues lo hi mk ws A)
 | [],A,_,hA=>hA
 | w::ws,A,hw,hA=>by
  rw [walkA]
  split
  ·exact hA
  ·refine z484 hmk (fun v hv=>hw v (by simp [hv])) ?_
   split
   ·have:=hmk w.1
    exact z136 hA ⟨this.1,by rw [this.2];exact (hw w (by simp))⟩
   ·exact hA
theorem z1044 {n:Net} {x:Missed} (hx:Hunted n x) {p m lv:Int} {A:List Arv} {k:Nat} (hlv:x.start≤lv) (hA:goodA n x A):goodA n x (pathA n x p m lv A k):=by
 rw [pathA]
 split
 ·rename_i y hy
  split
  ·refine z484 (fun t=>⟨(hx.net.path y (List.mem_of_getElem? hy)).to,rfl⟩) (fun w hw=>?_) hA
   have:=z295 hw
   omega
  ·exact hA
 ·exact hA
theorem z899 {n:Net} {x:Missed} (hx:Hunted n x) {p m lv:Int} {a:List Arv × List Cnt} (hlv:x.start≤lv) (hA:goodA n x a.1):goodA n x (leaveA n x p m a lv).1:=by
 rw [leaveA]
 split
 ·exact hA
 ·rw [pathsA]
  have:∀ (l:List Nat) (A:List Arv),goodA n x A→goodA n x (l.foldl (pathA n x p m lv) A):=fun l=>by
   induction l with
   | nil=>exact fun A h=>h
   | cons k l ih=>exact fun A h=>ih _ (z1044 hx hlv h)
  exact this _ _ hA
theorem z1043 {n:Net} {x:Missed} (hx:Hunted n x) {s:Arv} {a:List Arv × List Cnt} (hs:x.start≤s.mi) (hA:goodA n x a.1):goodA n x (spotA n x s a).1:=by
 rw [spotA]
 have:∀ (l:List Int) (a:List Arv × List Cnt),(∀ v ∈ l,x.start≤v)→goodA n x a.1→goodA n x (l.foldl (leaveA n x s.pl s.mi) a).1:=fun l=>by
  induction l with
  | nil=>exact fun a _ h=>h
  | cons k l ih=>exact fun a hl h=>ih _ (fun v hv=>hl v (by simp [hv])) (z899 hx (hl k (by simp)) h)
 exact this _ _ (fun v hv=>by have:=z304 hv;omega) hA
theorem z315 {n:Net} {x:Missed} (hx:Hunted n x):∀ (f i:Nat) (a:List Arv × List Cnt),goodA n x a.1→goodA n x (followF n x f i a).1
 | 0,_,a,h=>h
 | f + 1,i,a,h=>by
  rw [followF]
  split
  ·rename_i s hs
   exact z315 hx f _ _ (z1043 hx (h.1 s (List.mem_of_getElem? hs)).2.1 h)
  ·exact h
theorem z900 {n:Net} {x:Missed} (hx:Hunted n x):goodA n x (huntedA n x) :=
 z315 hx _ _ _ (z136 ⟨fun a ha=>(by simp at ha),by simp⟩ ⟨hx.place,Int.le_refl _,hx.start.2⟩)
theorem z1050 {n:Net} {x:Missed} {A:List Arv} (hA:goodA n x A) {e:EndT} (h:e ∈ endsL n x A):(0≤e.pl∧e.pl<n.places)∧(e.pa<0∨0≤e.pa∧e.pa.toNat<n.paths.length):=by
 rw [endsL] at h
 obtain⟨s,hs,h⟩:=List.mem_flatMap.1 h
 have hg:=(hA.1 s hs).1
 rw [endOf8] at h
 rcases List.mem_append.1 h with h | h
 ·obtain⟨m,_,hm⟩:=List.mem_filterMap.1 h
  rw [endIn] at hm
  split at hm
  ·cases hm;exact⟨hg,.inl (show (-1:Int)<0 by decide)⟩
  ·cases hm
 ·obtain⟨lv,_,hm⟩:=List.mem_flatMap.1 h
  rw [endLv] at hm
  split at hm
  ·simp at hm
  ·obtain⟨k,hk,hm⟩:=List.mem_filterMap.1 hm
   rw [endOn] at hm
   split at hm
   ·split at hm
    ·cases hm;exact⟨hg,.inr ⟨Int.natCast_nonneg k,by simpa using List.mem_range.1 hk⟩⟩
    ·cases hm
   ·cases hm
theorem z1099 {h:DV} {A:List Arv}:∃ b,reify ((trkM h A).map some) Ab.deep (.box 0 0)=some (.ptr [h,b,.sl (arvRows A)] 0):=by
 refine⟨_,rfl⟩
theorem z1412 (n:Net) (x:Missed) (hs:n.Small) (hl:x.clues.length<2 ^ 30):Fn Tryz.prog 18 [.agg n.cells,.agg x.row] (whereD n x):=by
 have h38:=z1406 n x hs hl
 rw [Net.cells,Missed.row] at h38
 refine z10 61 Tryz.call18 Tryz.func18 rfl (by decide) fun J=>?_
 simp only [go_sem,St.start,Tryz.ntmps18,Tryz.results18,Net.cells,Missed.row]
 by_cases hok:openX n x=0
 ·have hx:=z885 hl hok
  rw [openD,if_pos hok,hok] at h38
  obtain⟨A,hA⟩:∃ A,A=huntedA n x:=⟨_,rfl⟩
  have hgA:goodA n x A:=hA ▸ z900 hx
  have g39:=z1405 n x hx
  rw [← huntedA,← hA] at g39
  obtain⟨b,hb⟩:=z1099 (h:=.ptr (huntC n x) 0) (A:=A)
  have h39:=FnG.deep (args:=[.ptr (huntC n x) 0]) g39 hb
  have hit:=z1299 n x hx A b hgA
  have hpl:=hx.net.places
  have hpt:=hx.net.paths
  repeat (first|refine nx ?_|(refine z3 fun K hK=>?_;simp only [go_sem];(repeat (first|(refine⟨_,.lent (hf:=h38) (hd:=rfl) (hr:=rfl),?_⟩;simp only [go_sem])|(refine⟨_,.given (hf:=h38) (hd:=rfl) (ha:=rfl),?_⟩;simp only [go_sem])));apply hK;clear hK K))
  refine z5 rfl ?_
  repeat (first|refine nx ?_|(refine z3 fun K hK=>?_;simp only [go_sem];apply hK;clear hK K))
  obtain⟨m,hm⟩:∃ m:Nat,n.places=m:=⟨n.places.toNat,by omega⟩
  obtain⟨E,hE⟩:∃ E,E=endsL n x A:=⟨_,rfl⟩
  rw [← hE] at hit
  have hrep:∀ k,List.replicate k [DV.int .i64 0]=intRows (List.replicate k 0):=fun k=>by simp [intRows]
  have q1:(m:Int)≤1099511627776:=by omega
  have q2:(n.paths.length:Int)≤1099511627776:=by omega
  have q3:¬ ((m:Int)<0):=by omega
  refine z7 (by kernel_rfl) (by kernel_rfl) fun K hK=>?_
  simp only [go_sem,hm,q1,q2,q3,hrep,List.length_map,true_and]
  refine⟨by kernel_rfl,hK _ ?_⟩
  clear hK K
  repeat (first|refine nx ?_|(refine z3 fun K hK=>?_;simp only [go_sem];(repeat (first|(refine⟨_,.lent (hf:=h39) (hd:=rfl) (hr:=rfl),?_⟩;simp only [go_sem])|(refine⟨_,.given (hf:=h39) (hd:=rfl) (ha:=rfl),?_⟩;simp only [go_sem])));apply hK;clear hK K))
  refine z181 rfl hit (by intro row hr;obtain⟨w,_,rfl⟩:=List.mem_map.1 hr;rfl) (fun _=>[]) (fun (a:List Int × List Int)=>[(22,some (.arr 3 1 (intRows a.1))),(26,some (.arr 3 1 (intRows a.2)))])
   (fun k' j a=>k'=some 0∧a=(E.take j).foldl tally (List.replicate m 0,List.replicate n.paths.length 0)) (fun _ _ _=>False) (List.replicate m 0,List.replicate n.paths.length 0) ?_ ⟨rfl,by simp⟩ ?_ ?_ (fun _ _ _ h=>h.elim)
  ·simp only [go_sem]
   refine weA ?_ ?_ <;> simp
  ·rintro X0 W0 k' j a row hj ⟨rfl,ha⟩ l1 m1
   obtain⟨e,he,rfl⟩:∃ e,E[j]?=some e∧row=[.agg e.row]:=by
    simp only [endRows,List.getElem?_map,Option.map_eq_some_iff] at hj
    obtain⟨e,h1,h2⟩:=hj
    exact⟨e,h1,h2.symm⟩
   have hr:=z1050 hgA (hE ▸ List.mem_of_getElem? he)
   have ha':(E.take (j + 1)).foldl tally (List.replicate m 0,List.replicate n.paths.length 0)=tally a e:=by rw [z28 _ _ _ _ _ he,← ha]
   have hl:=z262 (E.take j) (List.replicate m 0,List.replicate n.paths.length 0)
   rw [← ha] at hl
   simp only [List.length_replicate] at hl
   have hil:=z14 a.1
   have hil2:=z14 a.2
   rw [hl.1] at hil
   rw [hl.2] at hil2
   simp only [go_sem,EndT.row]
   by_cases hp:e.pa<0
   ·have hpb:decide (e.pa<0)=true:=decide_eq_true hp
    have h0:0≤e.pl:=hr.1.1
    have h1:e.pl.toNat<m:=by omega
    have hg:=z97 (l:=a.1) (i:=e.pl) hr.1.1 (by omega)
    repeat (first|refine nx ?_|(refine z3 fun K hK=>?_;simp only [go_sem,hpb];apply hK;clear hK K))
    refine z8 rfl ?_
    repeat (first|refine nx ?_|(refine z3 fun K hK=>?_;simp only [go_sem,hil,h0,h1,hg,z44];apply hK;clear hK K))
    refine⟨(bump1 a.1 e.pl,a.2),?_,rfl,by rw [ha',tally,if_pos hp]⟩
    rw [bump1]
    refine weA ?_ ?_ <;> simp
   ·have hpb:decide (e.pa<0)=false:=decide_eq_false hp
    have h0:0≤e.pa:=by omega
    have h1:e.pa.toNat<n.paths.length:=by rcases hr.2 with h | h <;> omega
    have hg:=z97 (l:=a.2) (i:=e.pa) (by omega) (by omega)
    repeat (first|refine nx ?_|(refine z3 fun K hK=>?_;simp only [go_sem,hpb];apply hK;clear hK K))
    refine z5 rfl ?_
    repeat (first|refine nx ?_|(refine z3 fun K hK=>?_;simp only [go_sem,hil2,h0,h1,hg,z44];apply hK;clear hK K))
    refine⟨(a.1,bump1 a.2 e.pa),?_,rfl,by rw [ha',tally,if_neg hp]⟩
    rw [bump1]
    refine weA ?_ ?_ <;> simp
  ·rintro k' a ⟨rfl,ha⟩
   rw [endRows,List.length_map,List.take_length] at ha
   have ht:tallyE n (endsL n x (huntedA n x))=a:=by rw [tallyE,← hA,← hE,ha,hm];rfl
   have hl:=z262 E (List.replicate m 0,List.replicate n.paths.length 0)
   rw [← ha] at hl
   simp only [List.length_replicate] at hl
   have hP:whereP n x=posL a.1:=by rw [whereP,ht]
   have hW:whereW n x=posL a.2:=by rw [whereW,ht]
   simp only [go_sem]
   repeat (first|refine z27 ?_|refine z47 ?_|refine z11 ?_|refine z227 ?_|refine z90 ?_|refine z68 ?_|refine z139 rfl ?_|refine z124 ?_|refine z72 ?_|refine z146 ?_|refine z92 ?_|refine z6 ?_)
   have nz:∀ l:List Int,l≠[]→(intRows l).isEmpty=false:=fun l h=>by cases l <;> simp_all [intRows]
   by_cases p1:posL a.1=[]
   ·have zf1:=z1245 a.1 (by omega) p1
    by_cases p2:posL a.2=[]
    ·have zf2:=z1245 a.2 (by omega) p2
     have hw:whereD n x=.tup [.sl [],.sl [],.i 3]:=by rw [whereD,whereC,if_neg (fun h=>h hok),if_pos ⟨by rw [hP,p1],by rw [hW,p2]⟩];rfl
     rw [hw]
     refine z7 (by kernel_rfl) (by kernel_rfl) fun K hK=>?_
     simp only [go_sem]
     refine⟨_,.fn (hf:=zf1) (hd:=rfl) (hr:=.inl rfl),?_⟩
     simp only [go_sem]
     refine⟨_,.fn (hf:=zf2) (hd:=rfl) (hr:=.inl rfl),?_⟩
     simp only [go_sem]
     refine⟨by kernel_rfl,hK _ ?_⟩
     clear hK K
     repeat (first|refine nx ?_|(refine z3 fun K hK=>?_;simp only [go_sem];apply hK;clear hK K))
     refine z8 rfl ?_
     repeat (first|refine nx ?_|(refine z3 fun K hK=>?_;simp only [go_sem];apply hK;clear hK K))
     simp only [go_sem,retN]
    ·have zf2:=z1244 a.2 (by omega)
     have hw:whereD n x=.tup [.sl [],.sl (intRows (posL a.2)),.i 0]:=by rw [whereD,whereC,if_neg (fun h=>h hok),if_neg (fun h=>p2 (by rw [← hW,h.2])),hP,p1,hW];rfl
     rw [hw]
     refine z7 (by kernel_rfl) (by kernel_rfl) fun K hK=>?_
     simp only [go_sem]
     refine⟨_,.fn (hf:=zf1) (hd:=rfl) (hr:=.inl rfl),?_⟩
     simp only [go_sem]
     refine⟨_,.fnS (hdst:=rfl) (hf:=zf2) (hd:=rfl) (hr:=.inl (z106 _)) (hfr:=rfl),?_⟩
     simp only [go_sem]
     refine⟨by kernel_rfl,hK _ ?_⟩
     clear hK K
     refine z159 [52] ?_
     simp only [go_sem]
     repeat (first|refine nx ?_|(refine z3 fun K hK=>?_;simp only [go_sem,nz _ p2];apply hK;clear hK K))
     refine z5 rfl ?_
     refine z47 ?_
     refine z454 4 ?_
     simp only [go_sem]
     repeat (first|refine nx ?_|(refine z3 fun K hK=>?_;simp only [go_sem];apply hK;clear hK K))
     simp only [go_sem,retN]
   ·have zf1:=z1244 a.1 (by omega)
    by_cases p2:posL a.2=[]
    ·have zf2:=z1245 a.2 (by omega) p2
     have hw:whereD n x=.tup [.sl (intRows (posL a.1)),.sl [],.i 0]:=by rw [whereD,whereC,if_neg (fun h=>h hok),if_neg (fun h=>p1 (by rw [← hP,h.1])),hP,hW,p2];rfl
     rw [hw]
     refine z7 (by kernel_rfl) (by kernel_rfl) fun K hK=>?_
     simp only [go_sem]
     refine⟨_,.fnS (hdst:=rfl) (hf:=zf1) (hd:=rfl) (hr:=.inl (z106 _)) (hfr:=rfl),?_⟩
     simp only [go_sem]
     refine⟨_,.fn (hf:=zf2) (hd:=rfl) (hr:=.inl rfl),?_⟩
     simp only [go_sem]
     refine⟨by kernel_rfl,hK _ ?_⟩
     clear hK K
     refine z159 [50] ?_
     simp only [go_sem]
     repeat (first|refine nx ?_|(refine z3 fun K hK=>?_;simp only [go_sem,nz _ p1];apply hK;clear hK K))
     refine z5 rfl ?_
     refine z47 ?_
     refine z454 5 ?_
     simp only [go_sem]
     repeat (first|refine nx ?_|(refine z3 fun K hK=>?_;simp only [go_sem];apply hK;clear hK K))
     simp only [go_sem,retN]
    ·have zf2:=z1244 a.2 (by omega)
     have hw:whereD n x=.tup [.sl (intRows (posL a.1)),.sl (intRows (posL a.2)),.i 0]:=by rw [whereD,whereC,if_neg (fun h=>h hok),if_neg (fun h=>p1 (by rw [← hP,h.1])),hP,hW]
     rw [hw]
     refine z7 (by kernel_rfl) (by kernel_rfl) fun K hK=>?_
     simp only [go_sem]
     refine⟨_,.fnS (hdst:=rfl) (hf:=zf1) (hd:=rfl) (hr:=.inl (z106 _)) (hfr:=rfl),?_⟩
     simp only [go_sem]
     refine⟨_,.fnS (hdst:=rfl) (hf:=zf2) (hd:=rfl) (hr:=.inl (z106 _)) (hfr:=rfl),?_⟩
     simp only [go_sem]
     refine⟨by kernel_rfl,hK _ ?_⟩
     clear hK K
     refine z159 [50,52] ?_
     simp only [go_sem]
     repeat (first|refine nx ?_|(refine z3 fun K hK=>?_;simp only [go_sem,nz _ p1,nz _ p2];apply hK;clear hK K))
     refine z5 rfl ?_
     repeat (first|refine nx ?_|(refine z3 fun K hK=>?_;simp only [go_sem];apply hK;clear hK K))
     simp only [go_sem,retN]
 ·rw [openD,if_neg hok] at h38
  have hne:(openX n x != 0)=true:=by simpa using hok
  have hw:whereD n x=.tup [.sl [],.sl [],.i (openX n x)]:=by rw [whereD,whereC,if_pos hok];rfl
  rw [hw]
  repeat (first|refine nx ?_|(refine z3 fun K hK=>?_;simp only [go_sem,hne];(repeat (first|(refine⟨_,.lent (hf:=h38) (hd:=rfl) (hr:=rfl),?_⟩;simp only [go_sem,hne])|(refine⟨_,.given (hf:=h38) (hd:=rfl) (ha:=rfl),?_⟩;simp only [go_sem,hne])));apply hK;clear hK K))
  refine z8 rfl ?_
  repeat (first|refine nx ?_|(refine z3 fun K hK=>?_;simp only [go_sem];apply hK;clear hK K))
  simp only [go_sem,retN]
end Go.Ab
namespace Go.Ab
open Go.RowKit Go.Proofs
set_option maxRecDepth 100000
deriving instance DecidableEq for Arv
deriving instance DecidableEq for Cnt
def goF (n:Net) (x:Missed):Nat→Nat→List Arv × List Cnt→List Arv × List Cnt
 | 0,_,a=>a
 | k + 1,i,a=>match a.1[i]? with
  | some s=>goF n x k (i + 1) (spotA n x s a)
  | none=>a
theorem z316 {n:Net} {x:Missed} {i:Nat} {a:List Arv × List Cnt} (h:a.1[i]?=none):∀ f,followF n x f i a=a
 | 0=>rfl
 | f + 1=>by rw [followF,h]
theorem z42 {n:Net} {x:Missed}:∀ (k i f:Nat) (a:List Arv × List Cnt),followF n x (f + k) i a=followF n x f (i + k) (goF n x k i a)
 | 0,i,f,a=>rfl
 | k + 1,i,f,a=>by
  rw [show f + (k + 1)=(f + k) + 1 by omega,followF,goF]
  cases h:a.1[i]? with
  | some s=>dsimp only;rw [z42 k (i + 1) f,show i + 1 + k=i + (k + 1) by omega]
  | none=>dsimp only;rw [z316 (List.getElem?_eq_none (by have:=List.getElem?_eq_none_iff.1 h;omega))]
def runX8 (n:Nat) (a d:Arv):List Arv:=(List.range n).map fun (i:Nat)=>⟨a.pl + i * d.pl,a.mi + i * d.mi,a.fp + i * d.fp,a.fm + i * d.fm,a.pa + i * d.pa,a.lv + i * d.lv⟩
def runN8 (l:List (Nat × Int × Int)):List Int:=l.flatMap fun r=>(List.range r.1).map fun (i:Nat)=>r.2.1 + i * r.2.2
def exA:List Arv:=runX8 1 ⟨0,300,0,0,-1,0⟩ ⟨0,0,0,0,0,0⟩++runX8 21 ⟨1,400,0,300,0,300⟩ ⟨0,1,0,0,0,0⟩++runX8 8 ⟨2,492,1,400,1,420⟩ ⟨0,1,0,0,0,0⟩++runX8 55 ⟨2,501,1,400,1,420⟩ ⟨0,1,0,0,0,0⟩++runX8 4 ⟨2,556,1,400,1,421⟩ ⟨0,1,0,0,0,1⟩++runX8 8 ⟨3,552,2,492,2,492⟩ ⟨0,1,0,0,0,1⟩
def exK:List (Int × Int):=(runN8 [(31,0,0),(51,1,0),(8,2,0),(59,2,0),(38,3,0)]).zip (runN8 [(31,300,1),(51,400,1),(8,492,1),(59,501,1),(38,552,1)])
def exC (l:List (Nat × Int × Int)):List Cnt:=(exK.zip (runN8 l)).map fun q=>⟨q.1.1,q.1.2,q.2⟩
def ex0:List Arv × List Cnt:=(exA.take 1,exC [])
def ex8:List Arv × List Cnt:=(exA.take 89,exC [(32,1,0),(6,2,1),(24,7,0),(6,6,-1)])
def ex16:List Arv × List Cnt:=(exA.take 89,exC [(32,1,0),(14,2,1),(16,15,0),(14,14,-1)])
def ex24:List Arv × List Cnt:=(exA.take 97,exC [(32,1,0),(20,2,1),(10,21,0),(20,20,-1),(1,1,0),(7,2,0)])
def ex32:List Arv × List Cnt:=(exA.take 97,exC [(32,1,0),(20,2,1),(10,21,0),(20,20,-1),(8,1,1),(1,1,0),(30,2,0),(1,1,0)])
def ex40:List Arv × List Cnt:=(exA.take 97,exC [(32,1,0),(20,2,1),(10,21,0),(20,20,-1),(8,1,1),(10,1,1),(21,10,0),(9,9,-1)])
def ex48:List Arv × List Cnt:=(exA.take 97,exC [(32,1,0),(20,2,1),(10,21,0),(20,20,-1),(8,1,1),(18,1,1),(13,18,0),(17,17,-1)])
def ex56:List Arv × List Cnt:=(exA.take 97,exC [(32,1,0),(20,2,1),(10,21,0),(20,20,-1),(8,1,1),(26,1,1),(5,26,0),(25,25,-1)])
def ex64:List Arv × List Cnt:=(exA.take 97,exC [(32,1,0),(20,2,1),(10,21,0),(20,20,-1),(8,1,1),(31,1,1),(3,31,0),(25,30,-1)])
def ex72:List Arv × List Cnt:=(exA.take 97,exC [(32,1,0),(20,2,1),(10,21,0),(20,20,-1),(8,1,1),(31,1,1),(11,31,0),(17,30,-1)])
def ex80:List Arv × List Cnt:=(exA.take 97,exC [(32,1,0),(20,2,1),(10,21,0),(20,20,-1),(8,1,1),(31,1,1),(19,31,0),(9,30,-1)])
def ex88:List Arv × List Cnt:=(exA.take 97,exC [(32,1,0),(20,2,1),(10,21,0),(20,20,-1),(8,1,1),(31,1,1),(27,31,0),(1,30,0)])
def ex96:List Arv × List Cnt:=(exA.take 97,exC [(32,1,0),(20,2,1),(10,21,0),(20,20,-1),(8,1,1),(31,1,1),(28,31,0),(7,1,1),(24,7,0),(6,6,-1)])
def ex104:List Arv × List Cnt:=(exA.take 97,exC [(32,1,0),(20,2,1),(10,21,0),(20,20,-1),(8,1,1),(31,1,1),(28,31,0),(8,1,1),(23,8,0),(7,7,-1)])
theorem z1418:goF exN exM 8 0 ex0=ex8:=by decide +kernel
theorem z1352:goF exN exM 8 8 ex8=ex16:=by decide +kernel
theorem z1351:goF exN exM 8 16 ex16=ex24:=by decide +kernel
theorem z1350:goF exN exM 8 24 ex24=ex32:=by decide +kernel
theorem z1349:goF exN exM 8 32 ex32=ex40:=by decide +kernel
theorem z1348:goF exN exM 8 40 ex40=ex48:=by decide +kernel
theorem z1347:goF exN exM 8 48 ex48=ex56:=by decide +kernel
theorem z1346:goF exN exM 8 56 ex56=ex64:=by decide +kernel
theorem z1345:goF exN exM 8 64 ex64=ex72:=by decide +kernel
theorem z1344:goF exN exM 8 72 ex72=ex80:=by decide +kernel
theorem z1343:goF exN exM 8 80 ex80=ex88:=by decide +kernel
theorem z1342:goF exN exM 8 88 ex88=ex96:=by decide +kernel
theorem z1306:goF exN exM 8 96 ex96=ex104:=by decide +kernel
theorem z1229:startA exM=ex0.1:=by decide +kernel
theorem z1133:huntedA exN exM=ex104.1:=by
 rw [huntedA,show boundN exN exM + 1=1101 + 8 + 8 + 8 + 8 + 8 + 8 + 8 + 8 + 8 + 8 + 8 + 8 + 8 by decide +kernel,z1229,show (ex0.1,([]:List Cnt))=ex0 from rfl]
 rw [z42 8 0,z1418,show 0 + 8=8 from rfl]
 rw [z42 8 8,z1352,show 8 + 8=16 from rfl]
 rw [z42 8 16,z1351,show 16 + 8=24 from rfl]
 rw [z42 8 24,z1350,show 24 + 8=32 from rfl]
 rw [z42 8 32,z1349,show 32 + 8=40 from rfl]
 rw [z42 8 40,z1348,show 40 + 8=48 from rfl]
 rw [z42 8 48,z1347,show 48 + 8=56 from rfl]
 rw [z42 8 56,z1346,show 56 + 8=64 from rfl]
 rw [z42 8 64,z1345,show 64 + 8=72 from rfl]
 rw [z42 8 72,z1344,show 72 + 8=80 from rfl]
 rw [z42 8 80,z1343,show 80 + 8=88 from rfl]
 rw [z42 8 88,z1342,show 88 + 8=96 from rfl]
 rw [z42 8 96,z1306,show 96 + 8=104 from rfl]
 rw [z316 (show ex104.1[104]?=none by decide +kernel)]
theorem z214 {α β γ:Type} (g:γ→β→γ) (f:α→List β):∀ (l:List α) (c:γ),(l.flatMap f).foldl g c=l.foldl (fun c a=>(f a).foldl g c) c
 | [],c=>rfl
 | a::l,c=>by rw [List.flatMap_cons,List.foldl_append,z214 g f l,List.foldl_cons]
theorem z1171:tallyE exN (endsL exN exM (huntedA exN exM))=([0,0,0,8],[0,0,0,0,212]):=by
 rw [z1133,tallyE,endsL,z214]
 decide +kernel
end Go.Ab
namespace Go.Ab
open Go.RowKit Go.Proofs
set_option maxHeartbeats 8000000
set_option maxRecDepth 20000
attribute [local irreducible] WalkL Walk
theorem z1253:openX exN exM=0:=by decide +kernel
theorem z1193:posL [0,0,0,8]=[3]:=by decide +kernel
theorem z1192:posL [0,0,0,0,212]=[4]:=by decide +kernel
theorem z1162:whereC exN exM=([3],[4],0):=by
 rw [whereC,if_neg (by rw [z1253];simp),whereP,whereW,z1171,z1193,z1192,if_neg (by simp)]
end Go.Ab
namespace Go.Ab
open Go.RowKit Go.Proofs
set_option maxHeartbeats 8000000
set_option maxRecDepth 20000
attribute [local irreducible] WalkL Walk
theorem z1318 (a b:List Int) (ha:a.length<2 ^ 30):Fn Tryz.prog 13 [.sl (intRows a),.sl (intRows b)] (.bool (decide (a=b))):=by
 refine z10 26 Tryz.call13 Tryz.func13 rfl (by decide) fun J=>?_
 simp only [go_sem,St.start,Tryz.ntmps13,Tryz.results13]
 repeat (first|refine nx ?_|(refine z3 fun K hK=>?_;simp only [go_sem,z14];apply hK;clear hK K))
 by_cases hl:a.length=b.length
 ·have hne:((a.length:Int) != (b.length:Int))=false:=by simp [hl]
  simp only [go_sem,hne]
  refine z5 rfl ?_
  repeat (first|refine nx ?_|(refine z3 fun K hK=>?_;simp only [go_sem];apply hK;clear hK K))
  refine z12 (fun (i:Nat)=>[(5,.d (.i i))]) (fun _=>[]) (fun i=>i≤a.length∧a.take i=b.take i) (fun i=>a.length - i) 0 ?_ ⟨Nat.zero_le _,by simp⟩ ?_
  ·simp only [go_sem]
   refine weA ?_ ?_ <;> simp
  ·intro i ⟨hi,heq⟩
   simp only [go_sem]
   repeat (first|refine nx ?_|(refine z3 fun K hK=>?_;simp only [go_sem,z14];apply hK;clear hK K))
   refine z4 rfl (fun hb=>?_) (fun hb=>?_)
   ·have hlt:i<a.length:=by simpa using hb
    have hw:IntKind.i64.wrap ((i:Int) + 1)=((i + 1:Nat):Int):=by rw [z9 (by omega)];simp
    obtain⟨x,hx⟩:∃ x,a[i]?=some x:=⟨_,List.getElem?_eq_getElem hlt⟩
    obtain⟨y,hy⟩:∃ y,b[i]?=some y:=⟨_,List.getElem?_eq_getElem (hl ▸ hlt)⟩
    have g1:=z208 hx
    have g2:=z208 hy
    repeat (first|refine nx ?_|(refine z3 fun K hK=>?_;simp only [go_sem];apply hK;clear hK K))
    refine z7 (by kernel_rfl) (by kernel_rfl) fun K hK=>?_
    simp only [go_sem,g1,g2]
    refine⟨by kernel_rfl,hK _ ?_⟩
    clear hK K
    refine z4 rfl (fun hc=>?_) (fun hc=>?_)
    ·have hc:¬ x=y:=by simpa using hc
     have hab:¬ a=b:=by rintro rfl;rw [hx] at hy;cases hy;exact hc rfl
     repeat (first|refine nx ?_|(refine z3 fun K hK=>?_;simp only [go_sem];apply hK;clear hK K))
     simp only [go_sem,hab]
    ·have hc:x=y:=by simpa using hc
     repeat (first|refine nx ?_|(refine z3 fun K hK=>?_;simp only [go_sem,hw];apply hK;clear hK K))
     refine⟨rfl,i + 1,?_,⟨hlt,by rw [List.take_add_one,List.take_add_one,heq,hx,hy,hc]⟩,by omega⟩
     refine weA ?_ ?_ <;> simp
   ·have he:i=a.length:=by (have:¬ i<a.length:=by simpa using hb);omega
    subst he
    have hab:a=b:=z364 hl heq
    repeat (first|refine nx ?_|(refine z3 fun K hK=>?_;simp only [go_sem];apply hK;clear hK K))
    simp only [go_sem,hab]
 ·have hne:((a.length:Int) != (b.length:Int))=true:=by simp;omega
  have hab:¬ a=b:=by rintro rfl;exact hl rfl
  simp only [go_sem,hne]
  refine z8 rfl ?_
  repeat (first|refine nx ?_|(refine z3 fun K hK=>?_;simp only [go_sem];apply hK;clear hK K))
  simp only [go_sem,hab]
def exS:List SpotT:=[⟨3,50,60⟩,⟨1,30,20⟩,⟨2,20,40⟩]
def exW:List (List Int):=[[0,120,255,315],[435,0,135,195],[300,420,0,60],[240,360,495,0]]
def ordB (F:Mat) (S:List SpotT):Nat→Nat→Nat→MemB→Bool
 | 0,_,s,_=>s == 0
 | f + 1,p,s,m=>s == 0 || (elems s).any fun i=>decide ((bestM F S 5 p s m).1.2=(i:Int)) && ordB F S f (nextP S i) (s - 2 ^ i) (bestM F S 5 p s m).2
theorem z1106 {F:Mat} {S:List SpotT}:∀ (f p s:Nat) (m:MemB),ordB F S f p s m=true→OrdOk F S f p s m
 | 0,_,_,_,h=>by simpa [ordB,OrdOk] using h
 | f + 1,p,s,m,h=>by
  rw [ordB,Bool.or_eq_true,beq_iff_eq,List.any_eq_true] at h
  rcases h with h | ⟨i,hi,h⟩
  ·exact .inl h
  ·rw [Bool.and_eq_true,decide_eq_true_eq] at h
   exact .inr ⟨i,hi,h.1,z1106 f _ _ _ h.2⟩
theorem z1276:exN.Good:=z113.1 fun hb=>by
 have hok:checkPartyF exN exP=0:=by decide +kernel
 rw [checkPartyF,if_pos hb] at hok;simp at hok
theorem z1274:allLL exN exP=exW:=by decide +kernel
theorem z1308:matM exN.places.toNat (allM exN exP)=matM exN.places.toNat (getL exW):=by
 rw [← z1281 exP z1276,z1274]
 decide +kernel
theorem z1307:ordB (getL exW) exS 5 0 (fullN exS) (bestP (getL exW) exS 0).2=true:=by decide +kernel
theorem z1275:planC exN exP (getL exW) 0 exS=([1,2,0],32250,0):=by decide +kernel
theorem zf6:Fn Tryz.prog 6 [] (.bool true):=by
 have h46:=z1413
 have h15:=z1412 exN exM z940 (by decide)
 have h21:=z1380 exN exP (getL exW) 0 exS z940 (.inl (by decide)) (by decide) (fun _=>z1308) (fun _ _=>z1106 _ _ _ _ z1307)
 have h47:=z1318 [3] [3] (by decide)
 have h48:=z1318 [4] [4] (by decide)
 have h49:=z1318 [1,2,0] [1,2,0] (by decide)
 rw [whereD,z1162] at h15
 rw [planD,z1275] at h21
 rw [Missed.row,exM] at h15 h46
 rw [exSpots] at h46
 simp only [exS,intRows,SpotT.row,List.map_cons,List.map_nil,decide_true] at h15 h21 h47 h48 h49
 obtain⟨N,hN⟩:∃ N,N=exN:=⟨_,rfl⟩
 obtain⟨p,hp⟩:∃ p,p=exP:=⟨_,rfl⟩
 rw [← hN,← hp] at *
 rw [Net.cells] at *
 rw [Party.cells] at *
 refine z10 56 Tryz.call6 Tryz.func6 rfl (by decide) fun J=>?_
 simp only [go_sem,St.start,Tryz.ntmps6,Tryz.results6,]
 repeat (first|refine nx ?_|(refine z3 fun K hK=>?_;simp only [go_sem];(repeat (first|(refine⟨_,.lent (hf:=h46) (hd:=rfl) (hr:=rfl),?_⟩;simp only [go_sem])|(refine⟨_,.lent (hf:=h15) (hd:=rfl) (hr:=rfl),?_⟩;simp only [go_sem])|(refine⟨_,.lent (hf:=h21) (hd:=rfl) (hr:=rfl),?_⟩;simp only [go_sem])|(refine⟨_,.lent (hf:=h47) (hd:=rfl) (hr:=rfl),?_⟩;simp only [go_sem])|(refine⟨_,.lent (hf:=h48) (hd:=rfl) (hr:=rfl),?_⟩;simp only [go_sem])|(refine⟨_,.lent (hf:=h49) (hd:=rfl) (hr:=rfl),?_⟩;simp only [go_sem])|(refine⟨_,.given (hf:=h46) (hd:=rfl) (ha:=rfl),?_⟩;simp only [go_sem])|(refine⟨_,.given (hf:=h15) (hd:=rfl) (ha:=rfl),?_⟩;simp only [go_sem])|(refine⟨_,.given (hf:=h21) (hd:=rfl) (ha:=rfl),?_⟩;simp only [go_sem])|(refine⟨_,.given (hf:=h47) (hd:=rfl) (ha:=rfl),?_⟩;simp only [go_sem])|(refine⟨_,.given (hf:=h48) (hd:=rfl) (ha:=rfl),?_⟩;simp only [go_sem])|(refine⟨_,.given (hf:=h49) (hd:=rfl) (ha:=rfl),?_⟩;simp only [go_sem])));apply hK;clear hK K))
 simp only [go_sem]
end Go.Ab
namespace Go.Ab
open Go.RowKit Go.Proofs
set_option maxHeartbeats 4000000
set_option maxRecDepth 20000
attribute [local irreducible] WalkL Walk
theorem z1314 (n lo hi:Int):Fn Tryz.prog 57 [.i n,.i lo,.i hi] (.bool (withinB n lo hi)):=by
 refine z10 15 Tryz.call57 Tryz.func57 rfl (by decide) fun J=>?_
 simp only [go_sem,St.start,Tryz.ntmps57,Tryz.results57]
 by_cases h:lo≤n
 ·repeat (first|refine nx ?_|(refine z3 fun K hK=>?_;simp only [go_sem,h,ge_iff_le];apply hK;clear hK K))
  simp only [go_sem,withinB,h]
 ·repeat (first|refine nx ?_|(refine z3 fun K hK=>?_;simp only [go_sem,h,ge_iff_le];apply hK;clear hK K))
  simp only [go_sem,withinB,h]
def farM (n:Net):Bool:=decide ((n.paths.length:Int) > 60) || (n.paths.any (fun x=>decide ((x.opens.length:Int) > 20)) || (!badNet n && (decide (n.places > 5) || decide ((n.paths.length:Int) > 8))))
theorem zf4 (n:Net) (hs:n.Small):Fn Tryz.prog 4 [.agg n.cells] (.bool (farM n)):=by
 have h27:=z1330 n hs
 have hb0:=hs.paths
 refine z10 37 Tryz.call4 Tryz.func4 rfl (by decide) fun J=>?_
 simp only [go_sem,St.start,Tryz.ntmps4,Tryz.results4,Net.cells]
 repeat (first|refine nx ?_|(refine z3 fun K hK=>?_;simp only [go_sem];apply hK;clear hK K))
 refine z4 rfl (fun hc=>?_) (fun hc=>?_)
 ·repeat (first|refine nx ?_|(refine z3 fun K hK=>?_;simp only [go_sem];apply hK;clear hK K))
  simp only [go_sem,farM,hc]
 ·repeat (first|refine nx ?_|(refine z3 fun K hK=>?_;simp only [go_sem];apply hK;clear hK K))
  refine z12 (fun (i:Nat)=>[(3,.d (.i i))]) (fun _=>[]) (fun i=>i≤n.paths.length∧(n.paths.take i).any (fun x=>decide ((x.opens.length:Int) > 20))=false) (fun i=>n.paths.length - i) 0 ?_ ⟨Nat.zero_le _,rfl⟩ ?_
  ·simp only [go_sem]
   refine weA ?_ ?_ <;> simp
  ·intro i ⟨hi,hall⟩
   simp only [go_sem]
   repeat (first|refine nx ?_|(refine z3 fun K hK=>?_;simp only [go_sem];apply hK;clear hK K))
   refine z4 rfl (fun hb=>?_) (fun hb=>?_)
   ·have hlt:i<n.paths.length:=by simpa using hb
    have hw:IntKind.i64.wrap ((i:Int) + 1)=((i + 1:Nat):Int):=by rw [z9 (by omega)];simp
    obtain⟨x,hx⟩:∃ x,n.paths[i]?=some x:=⟨_,List.getElem?_eq_getElem hlt⟩
    repeat (first|refine nx ?_|(refine z3 fun K hK=>?_;simp only [go_sem,hx,List.getElem?_map,Path.row];apply hK;clear hK K))
    refine z4 rfl (fun hd=>?_) (fun hd=>?_)
    ·repeat (first|refine nx ?_|(refine z3 fun K hK=>?_;simp only [go_sem];apply hK;clear hK K))
     have ha:=z125 (q:=fun x:Path=>decide ((x.opens.length:Int) > 20)) hx hd
     simp only [go_sem,farM,hc,ha]
    ·repeat (first|refine nx ?_|(refine z3 fun K hK=>?_;simp only [go_sem,hw];apply hK;clear hK K))
     refine⟨rfl,i + 1,?_,⟨hlt,z89 hx hall hd⟩,by omega⟩
     refine weA ?_ ?_ <;> simp
   ·have he:i=n.paths.length:=by (have:¬ i<n.paths.length:=by simpa using hb);omega
    subst he
    rw [List.take_length] at hall
    have hf:farM n=(!badNet n && (decide (n.places > 5) || decide ((n.paths.length:Int) > 8))):=by unfold farM;rw [hc,hall];rfl
    rw [hf]
    by_cases hbad:badNet n=true
    ·repeat (first|refine nx ?_|(refine z3 fun K hK=>?_;simp only [go_sem,checkF,hbad];(repeat (first|(refine⟨_,.lent (hf:=h27) (hd:=rfl) (hr:=rfl),?_⟩;simp only [go_sem,checkF,hbad])|(refine⟨_,.given (hf:=h27) (hd:=rfl) (ha:=rfl),?_⟩;simp only [go_sem,checkF,hbad])));apply hK;clear hK K))
     try simp only [go_sem,hbad]
    ·by_cases hp:n.places > 5
     ·repeat (first|refine nx ?_|(refine z3 fun K hK=>?_;simp only [go_sem,checkF,hbad,hp];(repeat (first|(refine⟨_,.lent (hf:=h27) (hd:=rfl) (hr:=rfl),?_⟩;simp only [go_sem,checkF,hbad,hp])|(refine⟨_,.given (hf:=h27) (hd:=rfl) (ha:=rfl),?_⟩;simp only [go_sem,checkF,hbad,hp])));apply hK;clear hK K))
      simp only [go_sem,hbad,hp]
     ·repeat (first|refine nx ?_|(refine z3 fun K hK=>?_;simp only [go_sem,checkF,hbad,hp];(repeat (first|(refine⟨_,.lent (hf:=h27) (hd:=rfl) (hr:=rfl),?_⟩;simp only [go_sem,checkF,hbad,hp])|(refine⟨_,.given (hf:=h27) (hd:=rfl) (ha:=rfl),?_⟩;simp only [go_sem,checkF,hbad,hp])));apply hK;clear hK K))
      simp only [go_sem,hbad,hp]
end Go.Ab
namespace Go.Ab
open Go.RowKit Go.Proofs
set_option maxHeartbeats 16000000
set_option maxRecDepth 20000
attribute [local irreducible] WalkL Walk
def neverW:Int:=1073741824
def zeroN:Mat:=fun a b=>if a=b then 0 else neverW
def partN (m i b:Nat):List Int:=(List.range m).map fun j=>if j<b then zeroN i j else 0
def zeroTN (m k:Nat):List (List Int):=(List.range k).map (rowM m zeroN)
def relaxN (p:Party) (F:Mat) (y:Path):Mat:=if y.grade≤p.grade then updM F y.frm.toNat y.to.toNat (min (F y.frm.toNat y.to.toNat) (spanW y p).hi) else F
def allR (n:Net) (p:Party):Mat:=(List.range n.places.toNat).foldl (stepV n.places.toNat) (n.paths.foldl (relaxN p) zeroN)
def nmx (L i m:Nat):List (List AV):=nm L i++List.replicate (m - i) [.d (.sl [])]
theorem z1260 (L m:Nat):nmx L m m=nm L m:=by simp [nmx]
theorem z1206 (L m:Nat):nmx L 0 m=List.replicate m [.d (.sl [])]:=by simp [nmx,nm]
theorem z1112 {L i m:Nat} (h:i≤m):(nmx L i m).length=m:=by simp [nmx,z73];omega
theorem z1259 {L i m a:Nat} (h:a<i):(nmx L i m)[a]?=some [.own (a + L)]:=by
 rw [nmx,List.getElem?_append_left (by rw [z73];exact h),z237 h]
theorem z1207 {L i m:Nat} (h:i<m):(nmx L i m)[i]?=some [.d (.sl [])]:=by
 rw [nmx,List.getElem?_append_right (by rw [z73];omega),z73,Nat.sub_self,List.getElem?_replicate,if_pos (by omega)]
theorem z1258 {L i m:Nat} (h:i<m) (x:AV):(nmx L i m).set i [x]=nm L i++([x]::List.replicate (m - (i + 1)) [.d (.sl [])]):=by
 rw [nmx,List.set_append_right _ _ (by rw [z73];omega),z73,Nat.sub_self,show m - i=(m - (i + 1)) + 1 by omega,List.replicate_succ,List.set_cons_zero]
theorem z1293 {a L i m:Nat} (h:a<L) (hi:i<m):((nm L i++([AV.own a]::List.replicate (m - (i + 1)) [AV.d (.sl [])])).map fun r=>r.map (AV.mapN (mv a (i + L))))=nmx L (i + 1) m:=by
 rw [List.map_append,z1294 h,List.map_cons,List.map_replicate,nmx,← z1113,List.append_assoc]
 have e:mv a (i + L) a=some (i + L):=by simp [mv]
 simp [AV.mapN,e]
theorem z240 {m:List (Option Blk)} {L k j:Nat} (h1:k≤(m.drop L).length) (h2:(m.drop L).all Option.isSome=true):((nmx L k j).all fun r=>r.all (liveB m))=true:=by
 rw [nmx,List.all_append,z59 h1 h2,Bool.true_and,List.all_eq_true]
 intro r hr
 rw [List.mem_replicate] at hr
 rw [hr.2]
 rfl
theorem z235 (m i b:Nat):(partN m i b).length=m:=by simp [partN]
theorem z1022 (m i:Nat):partN m i 0=List.replicate m 0:=by
 rw [partN]
 apply List.ext_getElem?
 intro j
 by_cases hj:j<m <;> simp [hj]
theorem z1105 (m i:Nat):partN m i m=rowM m zeroN i:=by
 rw [partN,rowM]
 apply List.map_congr_left
 intro j hj
 rw [if_pos (List.mem_range.1 hj)]
theorem z359 {m i b j:Nat} (h:j<m):(partN m i b)[j]?=some (if j<b then zeroN i j else 0):=by simp [partN,h]
theorem z1104 {m i b:Nat} (h:b<m):(partN m i b).set b (zeroN i b)=partN m i (b + 1):=by
 apply List.ext_getElem?
 intro j
 rw [List.getElem?_set]
 by_cases hj:j<m
 ·rw [z359 hj,z359 hj,z235]
  by_cases hb:b=j
  ·subst hb;simp [hj]
  ·rw [if_neg hb]
   by_cases h2:j<b
   ·rw [if_pos h2,if_pos (by omega)]
   ·rw [if_neg h2,if_neg (by omega)]
 ·rw [List.getElem?_eq_none (l:=partN m i b) (by rw [z235];omega),List.getElem?_eq_none (l:=partN m i (b + 1)) (by rw [z235];omega),if_neg (by omega)]
theorem z1023 (m i:Nat):partN m i (i + 1)=partN m i i:=by
 rw [partN,partN]
 apply List.map_congr_left
 intro j _
 by_cases h1:j<i
 ·rw [if_pos h1,if_pos (by omega)]
 ·by_cases h2:j=i
  ·subst h2;simp [zeroN]
  ·rw [if_neg h1,if_neg (by omega)]
theorem z35 (m k:Nat):(zeroTN m k).length=k:=by simp [zeroTN]
theorem z759 (m k:Nat):zeroTN m (k + 1)=zeroTN m k++[rowM m zeroN k]:=by simp [zeroTN,List.range_succ]
theorem z955 (m:Nat):zeroTN m m=matM m zeroN:=rfl
theorem z1282 (n:Net) (p:Party) {m:Nat} (h:n.places.toNat=m):allR n p=(List.range m).foldl (stepV m) (n.paths.foldl (relaxN p) zeroN):=by subst h;rfl
theorem z1328 (n:Net) (p:Party) (hg:n.Good):FnS Tryz.prog 24 [.agg n.cells,.agg p.cells] 29 1 (slRows (matM n.places.toNat (allR n p))):=by
 obtain⟨m,hm⟩:∃ m:Nat,n.places=m:=⟨n.places.toNat,by have:=hg.places;omega⟩
 have hpl:=hg.places
 have hpt:=hg.paths
 have htn:n.places.toNat=m:=by omega
 have h44:=fun i x hx=>z1402 n p i x hx
 have h45:=fun i x hx=>z1401 n p i x hx
 have hm1:(m:Int)≤1099511627776:=by omega
 have hm2:¬ ((m:Int)<0):=by omega
 have hm0:0≤(m:Int):=by omega
 rw [Net.cells,Party.cells,hm] at h44 h45
 rw [htn,Net.cells,Party.cells,hm]
 refine z249 134 Tryz.call24 Tryz.func24 rfl (by decide) fun J=>?_
 simp only [go_sem,St.start,Tryz.ntmps24,Tryz.results24,]
 repeat (first|refine nx ?_|(refine z3 fun K hK=>?_;simp only [go_sem,hm1,hm2,hm0,true_and,Int.toNat_natCast];apply hK;clear hK K))
 refine z589 16 ?_
 simp only [go_sem,lift,List.map_replicate,List.map_cons,List.map_nil]
 rw [← z1206 134 m]
 refine z52 134 (fun (i:Nat)=>[(6,.d (.i (i:Int))),(5,.own 16)]) (fun i=>[(16,some (.arrA 29 1 (nmx 134 i m)))]) (fun i=>arrs 3 1 ((zeroTN m i).map intRows)) (fun i=>i≤m) (fun i=>m - i) 0 ?_ (Nat.zero_le _) ?_
 ·simp only [go_sem,zeroTN,List.range_zero,List.map_nil,z948]
  refine z32 [] ?_ ?_ rfl ?_
  ·simp [lessT,AV.less]
  ·simp [lessT,lessM,lessB,AV.less,z18]
  ·simp only [liveM,z15,Bool.and_true]
   exact z240 (by simp) (by simp)
 ·intro i hi
  simp only [go_sem]
  repeat (first|refine nx ?_|(refine z3 fun K hK=>?_;simp only [go_sem];apply hK;clear hK K))
  refine z4 rfl (fun hb=>?_) (fun hb=>?_)
  ·have hlt:i<m:=by simpa using hb
   have hw:IntKind.i64.wrap ((i:Int) + 1)=((i + 1:Nat):Int):=by rw [z9 (by omega)];simp
   have hni:¬ ((i:Int)<0):=by omega
   have gh:=z1207 (L:=134) hlt
   have gl:=z1112 (L:=134) hi
   have gs:=z1258 (L:=134) hlt (.own 27)
   have hmv:=z1293 (a:=27) (L:=134) (by decide) hlt
   have hz:List.replicate m [DV.int .i64 0]=intRows (partN m i 0):=by rw [z1022];simp [intRows]
   repeat (first|refine nx ?_|(refine z3 fun K hK=>?_;simp only [go_sem,hm1,hm2,hm0,true_and,Int.toNat_natCast,gh,gl,gs,hni,hlt];apply hK;clear hK K))
   refine z339 27 (i + 134) ?_ _ rfl ?_
   ·simp only [go_sem,z22,List.length_map,z35]
   simp only [go_sem,hmv,z756,hz]
   refine z52 134 (fun (j:Nat)=>[(7,.d (.i (j:Int))),(27,.undef)]) (fun _=>[]) (fun j=>arrs 3 1 ((zeroTN m i++[partN m i j]).map intRows)) (fun j=>j≤m) (fun j=>m - j) 0 ?_ (Nat.zero_le _) ?_
   ·have hap:arrs 3 1 ((zeroTN m i).map intRows)++[some (Blk.arr 3 1 (intRows (partN m i 0)))]=arrs 3 1 ((zeroTN m i++[partN m i 0]).map intRows):=by rw [z754];simp
    simp only [go_sem,hap]
    refine z32 [] ?_ ?_ rfl ?_
    ·simp [lessT,AV.less]
    ·simp [lessT,lessM,lessB,AV.less,z18]
    ·simp only [liveM,z15,Bool.and_true]
     exact z240 (by simp [z22,z35]) (z37 3 1 _)
   ·intro j hj
    simp only [go_sem]
    repeat (first|refine nx ?_|(refine z3 fun K hK=>?_;simp only [go_sem];apply hK;clear hK K))
    refine z4 rfl (fun hb2=>?_) (fun hb2=>?_)
    ·have hjl:j<m:=by simpa using hb2
     have hwj:IntKind.i64.wrap ((j:Int) + 1)=((j + 1:Nat):Int):=by rw [z9 (by omega)];simp
     have hnj:¬ ((j:Int)<0):=by omega
     have hps:=z1104 (i:=i) hjl
     by_cases hij:i=j
     ·have hd:((i:Int) != (j:Int))=false:=by simp [hij]
      have e:partN m i (j + 1)=partN m i j:=by rw [← hij];exact z1023 m i
      repeat (first|refine nx ?_|(refine z3 fun K hK=>?_;simp only [go_sem,hd];apply hK;clear hK K))
      refine z5 rfl ?_
      repeat (first|refine nx ?_|(refine z3 fun K hK=>?_;simp only [go_sem,hwj];apply hK;clear hK K))
      refine⟨rfl,j + 1,?_,hjl,by omega⟩
      rw [e]
      refine z32 [] ?_ ?_ rfl ?_
      ·simp [lessT,AV.less]
      ·simp [lessT,lessM,lessB,AV.less,z18]
      ·simp only [liveM,z15,Bool.and_true]
       exact z240 (by simp [z22,z35]) (z37 3 1 _)
     ·have hd:((i:Int) != (j:Int))=true:=by simp;omega
      rw [zeroN,if_neg hij,neverW] at hps
      have gm:=z1259 (L:=134) (m:=m) (show i<i + 1 by omega)
      have gl1:=z1112 (L:=134) (show i + 1≤m by omega)
      have ga:(arrs 3 1 ((zeroTN m i++[partN m i j]).map intRows))[i]?=some (some (Blk.arr 3 1 (intRows (partN m i j)))):=z116 (by simp [z35])
      have gj:=z33 (z359 (i:=i) (b:=j) hjl)
      have gln:(intRows (partN m i j)).length=m:=by rw [z14,z235]
      have hset:(arrs 3 1 ((zeroTN m i++[partN m i j]).map intRows)).set i (some (Blk.arr 3 1 (intRows (partN m i (j + 1)))))=arrs 3 1 ((zeroTN m i++[partN m i (j + 1)]).map intRows):=by
       rw [z256]
       simp [z35]
      repeat (first|refine nx ?_|(refine z3 fun K hK=>?_;simp only [go_sem,hd];apply hK;clear hK K))
      refine z8 rfl ?_
      repeat (first|refine nx ?_|(refine z3 fun K hK=>?_;simp only [go_sem,gm,gl1,ga,gj,gln,z44,hps,hset,hni,hnj,hlt,hjl,hwj];apply hK;clear hK K))
      refine⟨rfl,j + 1,?_,hjl,by omega⟩
      refine z32 [] ?_ ?_ rfl ?_
      ·simp [lessT,AV.less]
      ·simp [lessT,lessM,lessB,AV.less,z18]
      ·simp only [liveM,z15,Bool.and_true]
       exact z240 (by simp [z22,z35]) (z37 3 1 _)
    ·have he:j=m:=by (have:¬ j<m:=by simpa using hb2);omega
     subst he
     rw [z1105,← z759]
     repeat (first|refine nx ?_|(refine z3 fun K hK=>?_;simp only [go_sem,hw];apply hK;clear hK K))
     refine⟨rfl,i + 1,?_,hlt,by omega⟩
     refine z32 [] ?_ ?_ rfl ?_
     ·simp [lessT,AV.less]
     ·simp [lessT,lessM,lessB,AV.less,z18]
     ·simp only [liveM,z15,Bool.and_true]
      exact z240 (by simp [z22,z35]) (z37 3 1 _)
  ·have he:i=m:=by (have:¬ i<m:=by simpa using hb);omega
   subst he
   rw [z1260,z955]
   repeat (first|refine nx ?_|(refine z3 fun K hK=>?_;simp only [go_sem];apply hK;clear hK K))
   refine z52 134 (fun (k:Nat)=>[(8,.d (.i (k:Int))),(9,.undef),(10,.undef)]) (fun _=>[]) (fun k=>arrs 3 1 ((matM i ((n.paths.take k).foldl (relaxN p) zeroN)).map intRows)) (fun k=>k≤n.paths.length) (fun k=>n.paths.length - k) 0 ?_ (Nat.zero_le _) ?_
   ·simp only [go_sem,List.take_zero,List.foldl_nil]
    refine z32 [] ?_ ?_ rfl ?_
    ·simp [lessT,AV.less]
    ·simp [lessT,lessM,lessB,AV.less,z18]
    ·simp only [liveM,z15,Bool.and_true]
     exact z59 (by simp [z22,z26,z35]) (z37 3 1 _)
   ·intro k hk
    obtain⟨F,hF⟩:∃ F,F=(n.paths.take k).foldl (relaxN p) zeroN:=⟨_,rfl⟩
    rw [← hF]
    simp only [go_sem]
    repeat (first|refine nx ?_|(refine z3 fun K hK=>?_;simp only [go_sem,List.length_map];apply hK;clear hK K))
    refine z4 rfl (fun hb=>?_) (fun hb=>?_)
    ·have hkl:k<n.paths.length:=by simpa using hb
     have hwk:IntKind.i64.wrap ((k:Int) + 1)=((k + 1:Nat):Int):=by rw [z9 (by omega)];simp
     obtain⟨y,hy⟩:∃ y,n.paths[k]?=some y:=⟨_,List.getElem?_eq_getElem hkl⟩
     have hnx:(n.paths.take (k + 1)).foldl (relaxN p) zeroN=relaxN p F y:=by rw [z28 _ _ _ _ _ hy,hF]
     rw [relaxN] at hnx
     have h44k:=h44 k y hy
     have h45k:=h45 k y hy
     by_cases hgr:y.grade≤p.grade
     ·rw [if_pos hgr] at hnx
      rw [decide_eq_true hgr] at h44k
      have hpg:=hg.path y (List.mem_of_getElem? hy)
      obtain⟨a,ha⟩:∃ a:Nat,y.frm=a:=⟨y.frm.toNat,by have:=hpg.frm;omega⟩
      obtain⟨b,hb⟩:∃ b:Nat,y.to=b:=⟨y.to.toNat,by have:=hpg.to;omega⟩
      have hal:a<i:=by have:=hpg.frm;omega
      have hbl:b<i:=by have:=hpg.to;omega
      have na:¬ ((a:Int)<0):=by omega
      have nb:¬ ((b:Int)<0):=by omega
      have nk:¬ ((k:Int)<0):=by omega
      have gm:=z237 (L:=134) hal
      have ga:(arrs 3 1 ((matM i F).map intRows))[a]?=some (some (.arr 3 1 (intRows (rowM i F a)))):=z116 (by simp [z58 hal])
      have gc:=z33 (z51 (F:=F) (a:=a) hbl)
      have hln:(intRows (rowM i F a)).length=i:=by rw [z14,z75]
      have hset:∀ v,(arrs 3 1 ((matM i F).map intRows)).set a (some (.arr 3 1 (intRows ((rowM i F a).set b v))))=arrs 3 1 ((matM i (updM F a b v)).map intRows):=fun v=>by rw [z256,← List.map_set,z238]
      have hgp:(n.paths.map Path.row)[k]?=some y.row:=by rw [List.getElem?_map,hy];rfl
      rw [Path.row,ha,hb] at hgp
      rw [Span.row] at h45k
      rw [ha,hb,Int.toNat_natCast,Int.toNat_natCast] at hnx
      repeat (first|refine nx ?_|(refine z3 fun K hK=>?_;simp only [go_sem];(repeat (first|(refine⟨_,.lent (hf:=h44k) (hd:=rfl) (hr:=rfl),?_⟩;simp only [go_sem])|(refine⟨_,.given (hf:=h44k) (hd:=rfl) (ha:=rfl),?_⟩;simp only [go_sem])));apply hK;clear hK K))
      refine z8 rfl ?_
      repeat (first|refine z27 ?_)
      refine z7 (by kernel_rfl) (by kernel_rfl) fun K hK=>?_
      simp only [go_sem,hgp,hkl,nk,List.length_map]
      refine⟨by kernel_rfl,hK _ ?_⟩
      clear hK K
      refine z7 (by kernel_rfl) (by kernel_rfl) fun K hK=>?_
      simp only [go_sem,z73,hal,hbl,na,nb,gm,ga,gc,hln,z44]
      refine⟨_,.fn (hf:=h45k) (hd:=rfl) (hr:=.inl rfl),?_⟩
      simp only [go_sem,z73,hal,hbl,na,nb,gm,ga,gc,hln,z44,hset]
      refine⟨by kernel_rfl,hK _ ?_⟩
      clear hK K
      repeat (first|refine nx ?_|(refine z3 fun K hK=>?_;simp only [go_sem,hwk];apply hK;clear hK K))
      refine⟨rfl,k + 1,?_,hkl,by omega⟩
      rw [hnx]
      refine z32 [] ?_ ?_ rfl ?_
      ·simp [lessT,AV.less]
      ·simp [lessT,lessM,lessB,AV.less,z18]
      ·simp only [liveM,z15,Bool.and_true]
       exact z59 (by simp [z22,z26,z35]) (z37 3 1 _)
     ·rw [if_neg hgr] at hnx
      rw [decide_eq_false hgr] at h44k
      repeat (first|refine nx ?_|(refine z3 fun K hK=>?_;simp only [go_sem];(repeat (first|(refine⟨_,.lent (hf:=h44k) (hd:=rfl) (hr:=rfl),?_⟩;simp only [go_sem])|(refine⟨_,.given (hf:=h44k) (hd:=rfl) (ha:=rfl),?_⟩;simp only [go_sem])));apply hK;clear hK K))
      refine z5 rfl ?_
      repeat (first|refine nx ?_|(refine z3 fun K hK=>?_;simp only [go_sem,hwk];apply hK;clear hK K))
      refine⟨rfl,k + 1,?_,hkl,by omega⟩
      rw [hnx]
      refine z32 [] ?_ ?_ rfl ?_
      ·simp [lessT,AV.less]
      ·simp [lessT,lessM,lessB,AV.less,z18]
      ·simp only [liveM,z15,Bool.and_true]
       exact z59 (by simp [z22,z26,z35]) (z37 3 1 _)
    ·have hke:k=n.paths.length:=by (have:¬ k<n.paths.length:=by simpa using hb);omega
     rw [hke,List.take_length] at hF
     repeat (first|refine nx ?_|(refine z3 fun K hK=>?_;simp only [go_sem];apply hK;clear hK K))
     refine z52 134 (fun (a:Nat × Mat)=>[(11,.d (.i (a.1:Nat))),(12,.undef),(13,.undef)]) (fun _=>[]) (fun a=>arrs 3 1 ((matM i a.2).map intRows)) (fun a=>a.1≤i∧a.2=(List.range a.1).foldl (stepV i) F) (fun a=>i - a.1) (0,F) ?_ ⟨Nat.zero_le _,rfl⟩ ?_
     ·simp only [go_sem]
      refine z32 [] ?_ ?_ rfl ?_
      ·simp [lessT,AV.less]
      ·simp [lessT,lessM,lessB,AV.less,z18]
      ·simp only [liveM,z15,Bool.and_true]
       exact z59 (by simp [z22,z26,z35]) (z37 3 1 _)
     ·rintro⟨v,G⟩ ⟨hvi,hG⟩
      dsimp only at hvi hG
      simp only [go_sem]
      repeat (first|refine nx ?_|(refine z3 fun K hK=>?_;simp only [go_sem];apply hK;clear hK K))
      refine z4 rfl (fun hb=>?_) (fun hb=>?_)
      ·have hvl:v<i:=by simpa using hb
       have hwv:IntKind.i64.wrap ((v:Int) + 1)=((v + 1:Nat):Int):=by rw [z9 (by omega)];simp
       repeat (first|refine nx ?_|(refine z3 fun K hK=>?_;simp only [go_sem,z73];apply hK;clear hK K))
       refine z52 134 (fun (a:Nat × Mat)=>[(12,.d (.i (a.1:Nat))),(13,.undef)]) (fun _=>[]) (fun a=>arrs 3 1 ((matM i a.2).map intRows)) (fun a=>a.1≤i∧a.2=(List.range a.1).foldl (stepA i v) G) (fun a=>i - a.1) (0,G) ?_ ⟨Nat.zero_le _,rfl⟩ ?_
       ·simp only [go_sem]
        refine z32 [] ?_ ?_ rfl ?_
        ·simp [lessT,AV.less]
        ·simp [lessT,lessM,lessB,AV.less,z18]
        ·simp only [liveM,z15,Bool.and_true]
         exact z59 (by simp [z22,z26,z35]) (z37 3 1 _)
       ·rintro⟨a,H⟩ ⟨hai,hH⟩
        dsimp only at hai hH
        simp only [go_sem]
        repeat (first|refine nx ?_|(refine z3 fun K hK=>?_;simp only [go_sem];apply hK;clear hK K))
        refine z4 rfl (fun hb=>?_) (fun hb=>?_)
        ·have hal:a<i:=by simpa using hb
         have hwa:IntKind.i64.wrap ((a:Int) + 1)=((a + 1:Nat):Int):=by rw [z9 (by omega)];simp
         repeat (first|refine nx ?_|(refine z3 fun K hK=>?_;simp only [go_sem,z73];apply hK;clear hK K))
         refine z52 134 (fun (b:Nat × Mat)=>[(13,.d (.i (b.1:Nat)))]) (fun _=>[]) (fun b=>arrs 3 1 ((matM i b.2).map intRows)) (fun b=>b.1≤i∧b.2=(List.range b.1).foldl (fun F b=>viaM v F a b) H) (fun b=>i - b.1) (0,H) ?_ ⟨Nat.zero_le _,rfl⟩ ?_
         ·simp only [go_sem]
          refine z32 [] ?_ ?_ rfl ?_
          ·simp [lessT,AV.less]
          ·simp [lessT,lessM,lessB,AV.less,z18]
          ·simp only [liveM,z15,Bool.and_true]
           exact z59 (by simp [z22,z26,z35]) (z37 3 1 _)
         ·rintro⟨b,M⟩ ⟨hbi,hM⟩
          dsimp only at hbi hM
          simp only [go_sem]
          repeat (first|refine nx ?_|(refine z3 fun K hK=>?_;simp only [go_sem];apply hK;clear hK K))
          refine z4 rfl (fun hb=>?_) (fun hb=>?_)
          ·have hbl:b<i:=by simpa using hb
           have hwb:IntKind.i64.wrap ((b:Int) + 1)=((b + 1:Nat):Int):=by rw [z9 (by omega)];simp
           have na:¬ ((a:Int)<0):=by omega
           have nb:¬ ((b:Int)<0):=by omega
           have nv:¬ ((v:Int)<0):=by omega
           have gma:=z237 (L:=134) hal
           have gmv:=z237 (L:=134) hvl
           have ga:(arrs 3 1 ((matM i M).map intRows))[a]?=some (some (.arr 3 1 (intRows (rowM i M a)))):=z116 (by simp [z58 hal])
           have gv:(arrs 3 1 ((matM i M).map intRows))[v]?=some (some (.arr 3 1 (intRows (rowM i M v)))):=z116 (by simp [z58 hvl])
           have gab:=z33 (z51 (F:=M) (a:=a) hbl)
           have gav:=z33 (z51 (F:=M) (a:=a) hvl)
           have gvb:=z33 (z51 (F:=M) (a:=v) hbl)
           have hln:∀ q,(intRows (rowM i M q)).length=i:=fun q=>by rw [z14,z75]
           have hset:∀ u,(arrs 3 1 ((matM i M).map intRows)).set a (some (.arr 3 1 (intRows ((rowM i M a).set b u))))=arrs 3 1 ((matM i (updM M a b u)).map intRows):=fun u=>by rw [z256,← List.map_set,z238]
           repeat (first|refine nx ?_|(refine z3 fun K hK=>?_;simp only [go_sem];apply hK;clear hK K))
           refine z7 (by kernel_rfl) (by kernel_rfl) fun K hK=>?_
           simp only [go_sem,z73,hal,hbl,hvl,na,nb,nv,gma,gmv,ga,gv,gab,gav,gvb,hln,z44]
           refine⟨by kernel_rfl,hK _ ?_⟩
           clear hK K
           simp only [go_sem,hset]
           repeat (first|refine nx ?_|(refine z3 fun K hK=>?_;simp only [go_sem,hwb];apply hK;clear hK K))
           refine⟨rfl,(b + 1,viaM v M a b),?_,⟨hbl,by rw [z54,← hM]⟩,by dsimp only;omega⟩
           rw [viaM]
           refine z32 [] ?_ ?_ rfl ?_
           ·simp [lessT,AV.less]
           ·simp [lessT,lessM,lessB,AV.less,z18]
           ·simp only [liveM,z15,Bool.and_true]
            exact z59 (by simp [z22,z26,z35]) (z37 3 1 _)
          ·have he:b=i:=by (have:¬ b<i:=by simpa using hb);omega
           subst he
           repeat (first|refine nx ?_|(refine z3 fun K hK=>?_;simp only [go_sem,hwa];apply hK;clear hK K))
           refine⟨rfl,(a + 1,M),?_,⟨hal,by rw [z54,← hH,hM];rfl⟩,by dsimp only;omega⟩
           refine z32 [] ?_ ?_ rfl ?_
           ·simp [lessT,AV.less]
           ·simp [lessT,lessM,lessB,AV.less,z18]
           ·simp only [liveM,z15,Bool.and_true]
            exact z59 (by simp [z22,z26,z35]) (z37 3 1 _)
        ·have he:a=i:=by (have:¬ a<i:=by simpa using hb);omega
         subst he
         repeat (first|refine nx ?_|(refine z3 fun K hK=>?_;simp only [go_sem,hwv];apply hK;clear hK K))
         refine⟨rfl,(v + 1,H),?_,⟨hvl,by rw [z54,← hG,hH];rfl⟩,by dsimp only;omega⟩
         refine z32 [] ?_ ?_ rfl ?_
         ·simp [lessT,AV.less]
         ·simp [lessT,lessM,lessB,AV.less,z18]
         ·simp only [liveM,z15,Bool.and_true]
          exact z59 (by simp [z22,z26,z35]) (z37 3 1 _)
      ·have he:v=i:=by (have:¬ v<i:=by simpa using hb);omega
       subst he
       have hGe:allR n p=G:=by rw [z1282 n p htn,← hF,hG]
       rw [hGe]
       repeat (first|refine z90 ?_|refine z68 ?_|refine z92 ?_|refine z6 ?_)
       refine z457 (L:=134) (d:=16) (e:=29) (e1:=3) (z1:=1) ((matM v G).map intRows) (by decide) (by simp) (by rw [List.length_map,z26];rfl) (fun j r hj=>by
        simp only [List.getElem?_cons_succ]
        exact z116 hj) ?_
       have hfr:flatRows ((matM v G).map intRows)=slRows (matM v G):=by simp [flatRows,slRows]
       simp only [go_sem,hfr,List.take_succ_cons,List.take_zero,List.map_cons,List.map_nil]
       repeat (first|refine nx ?_|(refine z3 fun K hK=>?_;simp only [go_sem];apply hK;clear hK K))
       simp only [go_sem]
end Go.Ab
namespace Go.Ab
open Go.RowKit Go.Proofs
set_option maxHeartbeats 2000000
def pureB (F:Mat) (S:List SpotT) (rec:Nat→Nat→Int × Int) (p s:Nat) (a:Int × Int) (i:Nat):Int × Int :=
 if minW F S p i ≥ farW then a else pickB (wr (wr (minW F S p i * weightW S s) + (rec (nextP S i) (s - 2 ^ i)).1)) i a
def bestV (F:Mat) (S:List SpotT):Nat→Nat→Nat→Int × Int
 | 0,_,_=>(0,-1)
 | f + 1,p,s=>if s=0 then (0,-1) else (elems s).foldl (pureB F S (bestV F S f) p s) (farW,-1)
theorem z137 {α β:Type} {f g:β→α→β}:∀ (l:List α) (b:β),(∀ b,∀ a ∈ l,f b a=g b a)→l.foldl f b=l.foldl g b
 | [],_,_=>rfl
 | x::l,b,h=>by
  rw [List.foldl_cons,List.foldl_cons,h b x (by simp)]
  exact z137 l _ fun b a ha=>h b a (by simp [ha])
theorem z155 {F:Mat} {S:List SpotT}:∀ (f g p s:Nat),s<32→(elems s).length≤f→(elems s).length≤g→bestV F S f p s=bestV F S g p s
 | 0,g,p,s,hs,hf,_=>by
  have h0:s=0:=z46 s hs (by omega)
  subst h0
  cases g
  ·rfl
  ·rw [bestV,bestV,if_pos rfl]
 | f + 1,0,p,s,hs,_,hg=>by
  have h0:s=0:=z46 s hs (by omega)
  subst h0
  rw [bestV,bestV,if_pos rfl]
 | f + 1,g + 1,p,s,hs,hf,hg=>by
  rw [bestV,bestV]
  by_cases h0:s=0
  ·rw [if_pos h0,if_pos h0]
  ·rw [if_neg h0,if_neg h0]
   refine z137 _ _ fun b i hi=>?_
   obtain⟨u1,u2,_⟩:=z25 hs hi
   rw [pureB,pureB,z155 f g (nextP S i) (s - 2 ^ i) u1 (by omega) (by omega)]
def SoundB (F:Mat) (S:List SpotT) (m:MemB):Prop:=∀ e ∈ m.1,e.1.2<32∧e.2.1=bestV F S 5 e.1.1 e.1.2
theorem z706 {k:Nat × Nat}:∀ {es:List EntB} {i j b:Nat} {v:Int × Int},lookB es k i=some (j,v,b)→∃ b',(k,v,b') ∈ es
 | [],_,_,_,_,h=>by simp [lookB] at h
 | e::es,i,j,b,v,h=>by
  rw [lookB] at h
  split at h
  ·rename_i hk
   cases h
   exact⟨e.2.2,by rw [hk];simp⟩
  ·obtain⟨b',hb⟩:=z706 h
   exact⟨b',by simp [hb]⟩
theorem z927 {k:Nat × Nat} {w:Int × Int} {c:Nat}:∀ {es:List EntB} {e:EntB},e ∈ (putB es k w c).1→e ∈ es∨(e.1=k∧e.2.1=w)
 | [],e,h=>by
  simp [putB] at h
  subst h
  exact .inr ⟨rfl,rfl⟩
 | x::es,e,h=>by
  rw [putB] at h
  split at h
  ·rcases List.mem_cons.1 h with rfl | h
   ·exact .inr ⟨rfl,rfl⟩
   ·exact .inl (by simp [h])
  ·rcases List.mem_cons.1 h with rfl | h
   ·exact .inl (by simp)
   ·rcases z927 h with h | h
    ·exact .inl (by simp [h])
    ·exact .inr h
theorem z355 {F:Mat} {S:List SpotT} {rec:Nat→Nat→MemB→(Int × Int) × MemB} {recV:Nat→Nat→Int × Int} {p s:Nat} (hr:∀ i ∈ elems s,∀ m,SoundB F S m→(rec (nextP S i) (s - 2 ^ i) m).1=recV (nextP S i) (s - 2 ^ i)∧SoundB F S (rec (nextP S i) (s - 2 ^ i) m).2) :
  ∀ (l:List Nat) (a:(Int × Int) × MemB),(∀ i ∈ l,i ∈ elems s)→SoundB F S a.2→(l.foldl (stepB F S rec p s) a).1=l.foldl (pureB F S recV p s) a.1∧SoundB F S (l.foldl (stepB F S rec p s) a).2
 | [],a,_,h=>⟨rfl,h⟩
 | i::l,a,hl,h=>by
  obtain⟨r1,r2⟩:=hr i (hl i (by simp)) a.2 h
  rw [List.foldl_cons,List.foldl_cons]
  have hst:(stepB F S rec p s a i).1=pureB F S recV p s a.1 i∧SoundB F S (stepB F S rec p s a i).2:=by
   rw [stepB,pureB]
   split
   ·exact⟨rfl,h⟩
   ·exact⟨by rw [r1],r2⟩
  obtain⟨q1,q2⟩:=z355 hr l (stepB F S rec p s a i) (fun j hj=>hl j (by simp [hj])) hst.2
  exact⟨by rw [q1,hst.1],q2⟩
theorem z156 {F:Mat} {S:List SpotT}:∀ (f p s:Nat) (m:MemB),s<32→(elems s).length≤f→f≤5→SoundB F S m→(bestM F S f p s m).1=bestV F S f p s∧SoundB F S (bestM F S f p s m).2
 | 0,p,s,m,_,_,_,h=>⟨rfl,h⟩
 | f + 1,p,s,m,hs,hf,h5,h=>by
  rw [bestM,bestV]
  by_cases h0:s=0
  ·rw [if_pos h0,if_pos h0];exact⟨rfl,h⟩
  ·rw [if_neg h0,if_neg h0]
   have hfu:bestV F S (f + 1) p s=(elems s).foldl (pureB F S (bestV F S f) p s) (farW,-1):=by rw [bestV,if_neg h0]
   cases hlk:lookB m.1 (p,s) 0 with
   | some w =>
    obtain⟨j,v,b⟩:=w
    dsimp only
    obtain⟨b',hb⟩:=z706 hlk
    have:=(h _ hb).2
    dsimp only at this
    rw [← hfu,this]
    exact⟨z155 _ _ _ _ hs (by have:=z19 s hs;omega) hf,h⟩
   | none =>
    dsimp only
    have hr:=z355 (F:=F) (S:=S) (rec:=bestM F S f) (recV:=bestV F S f) (p:=p) (s:=s) (fun i hi m hm=>by
     obtain⟨u1,u2,_⟩:=z25 hs hi
     exact z156 f (nextP S i) (s - 2 ^ i) m u1 (by omega) (by omega) hm) (elems s) ((farW,-1),m) (fun i hi=>hi) h
    rw [← roundB] at hr
    refine⟨hr.1,fun e he=>?_⟩
    rcases z927 he with he | ⟨e1,e2⟩
    ·exact hr.2 e he
    ·rw [e1,e2]
     refine⟨hs,?_⟩
     rw [hr.1,← hfu]
     exact z155 _ _ _ _ hs hf (by have:=z19 s hs;omega)
end Go.Ab
namespace Go.Ab
open Go.RowKit Go.Proofs
set_option maxHeartbeats 2000000
inductive ChainW (n:Net) (p:Party):List Nat→Nat→Nat→Int→Prop
 | nil (a:Nat):ChainW n p [] a a 0
 | one {w:Nat × Path} (hw:w ∈ canL n p):ChainW n p [] w.2.frm.toNat w.2.to.toNat (spanW w.2 p).hi
 | app {l1 l2:List Nat} {a v b:Nat} {c d:Int} (h1:ChainW n p l1 a v c) (h2:ChainW n p l2 v b d):ChainW n p (l1++v::l2) a b (c + d)
def SoundM (n:Net) (p:Party) (F:Mat):Prop:=∀ a b,0≤F a b∧F a b≤farW∧(F a b<farW→∃ l,ChainW n p l a b (F a b))
theorem z197 (n:Net) (p:Party):SoundM n p zeroM:=fun a b=>by
 rw [zeroM]
 by_cases h:a=b
 ·subst h;rw [if_pos rfl];exact⟨Int.le_refl _,by decide,fun _=>⟨_,.nil a⟩⟩
 ·rw [if_neg h];exact⟨by decide,Int.le_refl _,fun hc=>absurd hc (Int.lt_irrefl _)⟩
theorem z875 {n:Net} {p:Party} {F:Mat} {w:Nat × Path} (hw:w ∈ canL n p) (h0:0≤(spanW w.2 p).hi) (h:SoundM n p F):SoundM n p (relaxM p F w):=fun a b=>by
 rw [relaxM,updM]
 split
 ·rename_i hc
  obtain⟨h1,h2,h3⟩:=h w.2.frm.toNat w.2.to.toNat
  rw [hc.1,hc.2]
  by_cases hm:F w.2.frm.toNat w.2.to.toNat≤(spanW w.2 p).hi
  ·rw [Int.min_eq_left hm];exact⟨h1,h2,h3⟩
  ·rw [Int.min_eq_right (by omega)];exact⟨h0,by omega,fun _=>⟨_,.one hw⟩⟩
 ·exact h a b
theorem z458 {n:Net} {p:Party} {F:Mat} (h:SoundM n p F) (v a b:Nat):wr (F a v + F v b)=F a v + F v b:=by
 have h1:=h a v
 have h2:=h v b
 have:farW=1099511627776:=rfl
 exact z9 (by omega)
theorem z597 {n:Net} {p:Party} {F:Mat} (h:SoundM n p F) (v x y:Nat):SoundM n p (viaM v F x y):=fun a b=>by
 rw [viaM,updM,z458 h]
 split
 ·rename_i hc
  rw [hc.1,hc.2]
  obtain⟨h1,h2,h3⟩:=h x y
  obtain⟨g1,g2,g3⟩:=h x v
  obtain⟨k1,k2,k3⟩:=h v y
  by_cases hm:F x y≤F x v + F v y
  ·rw [Int.min_eq_left hm];exact⟨h1,h2,h3⟩
  ·rw [Int.min_eq_right (by omega)]
   refine⟨by omega,by omega,fun hl=>?_⟩
   obtain⟨l1,c1⟩:=g3 (by omega)
   obtain⟨l2,c2⟩:=k3 (by omega)
   exact⟨_,.app c1 c2⟩
 ·exact h a b
theorem z1288 {n:Net} {p:Party} {F:Mat} (h:SoundM n p F) (v x y a b:Nat):viaM v F x y a b≤F a b:=by
 rw [viaM,updM,z458 h]
 split
 ·rename_i hc;rw [hc.1,hc.2];omega
 ·exact Int.le_refl _
theorem z768 {n:Net} {p:Party} {F:Mat} (h:SoundM n p F) (v x y a:Nat):viaM v F x y a v=F a v∧viaM v F x y v a=F v a:=by
 have hv:=h v v
 rw [viaM,z458 h]
 simp only [updM]
 constructor
 ·split
  ·rename_i hc;obtain⟨rfl,rfl⟩:=hc;omega
  ·rfl
 ·split
  ·rename_i hc;obtain⟨rfl,rfl⟩:=hc;omega
  ·rfl
theorem z482 {n:Net} {p:Party} (v a:Nat):∀ (l:List Nat) (F:Mat),SoundM n p F→SoundM n p (l.foldl (fun F b=>viaM v F a b) F) ∧
  (∀ x y,(l.foldl (fun F b=>viaM v F a b) F) x y≤F x y)∧(∀ x,(l.foldl (fun F b=>viaM v F a b) F) x v=F x v∧(l.foldl (fun F b=>viaM v F a b) F) v x=F v x) ∧
  ∀ b ∈ l,(l.foldl (fun F b=>viaM v F a b) F) a b≤F a v + F v b
 | [],F,h=>⟨h,fun _ _=>Int.le_refl _,fun _=>⟨rfl,rfl⟩,fun b hb=>by simp at hb⟩
 | b::l,F,h=>by
  obtain⟨s1,s2,s3,s4⟩:=z482 v a l (viaM v F a b) (z597 h v a b)
  have hr:=z768 h v a b
  refine⟨s1,fun x y=>Int.le_trans (s2 x y) (z1288 h v a b x y),fun x=>⟨(s3 x).1.trans (hr x).1,(s3 x).2.trans (hr x).2⟩,fun y hy=>?_⟩
  rcases List.mem_cons.1 hy with rfl | hy
  ·refine Int.le_trans (s2 a y) ?_
   rw [viaM,updM,if_pos ⟨rfl,rfl⟩,z458 h]
   omega
  ·have:=s4 y hy
   rw [(hr a).1,(hr y).2] at this
   exact this
theorem z267 {n:Net} {p:Party} (m v:Nat):∀ (l:List Nat) (F:Mat),SoundM n p F→SoundM n p (l.foldl (stepA m v) F) ∧
  (∀ x y,(l.foldl (stepA m v) F) x y≤F x y)∧(∀ x,(l.foldl (stepA m v) F) x v=F x v∧(l.foldl (stepA m v) F) v x=F v x) ∧
  ∀ a ∈ l,∀ b,b<m→(l.foldl (stepA m v) F) a b≤F a v + F v b
 | [],F,h=>⟨h,fun _ _=>Int.le_refl _,fun _=>⟨rfl,rfl⟩,fun b hb=>by simp at hb⟩
 | a::l,F,h=>by
  obtain⟨t1,t2,t3,t4⟩:=z482 v a (List.range m) F h
  obtain⟨s1,s2,s3,s4⟩:=z267 m v l (stepA m v F a) t1
  refine⟨s1,fun x y=>Int.le_trans (s2 x y) (t2 x y),fun x=>⟨(s3 x).1.trans (t3 x).1,(s3 x).2.trans (t3 x).2⟩,fun x hx b hb=>?_⟩
  rcases List.mem_cons.1 hx with rfl | hx
  ·exact Int.le_trans (s2 x b) (t4 b (List.mem_range.2 hb))
  ·have:=s4 x hx b hb
   have e1:(stepA m v F a) x v=F x v:=(t3 x).1
   have e2:(stepA m v F a) v b=F v b:=(t3 b).2
   rw [e1,e2] at this
   exact this
end Go.Ab
namespace Go.Ab
open Go.RowKit Go.Proofs
set_option maxHeartbeats 2000000
theorem z909 {n:Net} {p:Party} {L:List Nat} {a b:Nat} {c:Int} (h:ChainW n p L a b c) {k:Nat}:k ∈ L→∃ l1 l2 c1 c2,ChainW n p l1 a k c1∧ChainW n p l2 k b c2∧c1 + c2=c∧l1.length + l2.length<L.length∧∀ x,x ∈ l1∨x ∈ l2→x ∈ L:=by
 induction h with
 | nil a=>intro h;simp at h
 | one hw=>intro h;simp at h
 | @app l1 l2 a v b c d h1 h2 ih1 ih2 =>
  intro hk
  rcases List.mem_append.1 hk with hk | hk
  ·obtain⟨m1,m2,e1,e2,g1,g2,g3,g4,g5⟩:=ih1 hk
   refine⟨m1,m2++v::l2,e1,e2 + d,g1,.app g2 h2,by omega,by simp;omega,fun x hx=>?_⟩
   rcases hx with hx | hx
   ·exact List.mem_append.2 (.inl (g5 x (.inl hx)))
   ·rcases List.mem_append.1 hx with hx | hx
    ·exact List.mem_append.2 (.inl (g5 x (.inr hx)))
    ·exact List.mem_append.2 (.inr hx)
  ·rcases List.mem_cons.1 hk with rfl | hk
   ·exact⟨l1,l2,c,d,h1,h2,rfl,by simp,fun x hx=>by
     rcases hx with hx | hx
     ·exact List.mem_append.2 (.inl hx)
     ·exact List.mem_append.2 (.inr (List.mem_cons.2 (.inr hx)))⟩
   ·obtain⟨m1,m2,e1,e2,g1,g2,g3,g4,g5⟩:=ih2 hk
    refine⟨l1++v::m1,m2,c + e1,e2,.app h1 g1,g2,by omega,by simp;omega,fun x hx=>?_⟩
    rcases hx with hx | hx
    ·rcases List.mem_append.1 hx with hx | hx
     ·exact List.mem_append.2 (.inl hx)
     ·rcases List.mem_cons.1 hx with rfl | hx
      ·exact List.mem_append.2 (.inr (by simp))
      ·exact List.mem_append.2 (.inr (List.mem_cons.2 (.inr (g5 x (.inl hx)))))
    ·exact List.mem_append.2 (.inr (List.mem_cons.2 (.inr (g5 x (.inr hx)))))
theorem z1233 {n:Net} {p:Party} (hg:n.Good) {L:List Nat} {a b:Nat} {c:Int} (h:ChainW n p L a b c):a<n.places.toNat→b<n.places.toNat∧∀ x ∈ L,x<n.places.toNat:=by
 induction h with
 | nil a=>exact fun ha=>⟨ha,fun x hx=>by simp at hx⟩
 | @one w hw =>
  intro _
  obtain⟨_,h2,_⟩:=z103 hw
  have:=(hg.path w.2 (List.mem_of_getElem? h2)).to
  exact⟨by omega,fun x hx=>by simp at hx⟩
 | app h1 h2 ih1 ih2 =>
  intro ha
  obtain⟨g1,g2⟩:=ih1 ha
  obtain⟨k1,k2⟩:=ih2 g1
  refine⟨k1,fun x hx=>?_⟩
  rcases List.mem_append.1 hx with hx | hx
  ·exact g2 x hx
  ·rcases List.mem_cons.1 hx with rfl | hx
   ·exact g1
   ·exact k2 x hx
def Least (n:Net) (p:Party) (k:Nat) (F:Mat):Prop:=∀ (L:List Nat) (a b:Nat) (c:Int),ChainW n p L a b c→a<n.places.toNat→(∀ x ∈ L,x<k)→F a b≤c
theorem z1035 {n:Net} {p:Party} (hg:n.Good) {v:Nat} {F:Mat} (hS:SoundM n p F) (hL:Least n p v F) (hv:v<n.places.toNat):Least n p (v + 1) (stepV n.places.toNat F v):=by
 obtain⟨_,h2,h3,h4⟩:=z267 n.places.toNat v (List.range n.places.toNat) F hS
 have key:∀ (k:Nat) (L:List Nat) (a b:Nat) (c:Int),L.length≤k→ChainW n p L a b c→a<n.places.toNat→(∀ x ∈ L,x<v + 1)→stepV n.places.toNat F v a b≤c:=by
  intro k
  induction k with
  | zero =>
   intro L a b c hk hc ha hx
   have:L=[]:=List.length_eq_zero_iff.1 (by omega)
   exact Int.le_trans (h2 a b) (hL L a b c hc ha (by rw [this];intro x hx;simp at hx))
  | succ k ih =>
   intro L a b c hk hc ha hx
   by_cases hvL:v ∈ L
   ·obtain⟨l1,l2,c1,c2,g1,g2,g3,g4,g5⟩:=z909 hc hvL
    have e1:=ih l1 a v c1 (by omega) g1 ha (fun x hh=>hx x (g5 x (.inl hh)))
    have e2:=ih l2 v b c2 (by omega) g2 hv (fun x hh=>hx x (g5 x (.inr hh)))
    have e3:=h4 a (List.mem_range.2 ha) b (z1233 hg hc ha).1
    have e4:stepV n.places.toNat F v a v=F a v:=(h3 a).1
    have e5:stepV n.places.toNat F v v b=F v b:=(h3 b).2
    have e6:stepV n.places.toNat F v a b≤F a v + F v b:=e3
    omega
   ·exact Int.le_trans (h2 a b) (hL L a b c hc ha fun x hh=>by
     have:=hx x hh
     have:x≠v:=fun e=>hvL (e ▸ hh)
     omega)
 exact fun L a b c hc ha hx=>key L.length L a b c (Nat.le_refl _) hc ha hx
theorem z924 {n:Net} {p:Party}:∀ (l:List (Nat × Path)) (F:Mat),(∀ x y,(l.foldl (relaxM p) F) x y≤F x y)∧∀ w ∈ l,(l.foldl (relaxM p) F) w.2.frm.toNat w.2.to.toNat≤(spanW w.2 p).hi
 | [],F=>⟨fun _ _=>Int.le_refl _,fun w hw=>by simp at hw⟩
 | w::l,F=>by
  obtain⟨h1,h2⟩:=z924 (n:=n) l (relaxM p F w)
  have h3:∀ x y,relaxM p F w x y≤F x y:=fun x y=>by
   rw [relaxM,updM]
   split
   ·rename_i hc;rw [hc.1,hc.2];omega
   ·exact Int.le_refl _
  refine⟨fun x y=>Int.le_trans (h1 x y) (h3 x y),fun u hu=>?_⟩
  rcases List.mem_cons.1 hu with rfl | hu
  ·refine Int.le_trans (h1 _ _) ?_
   rw [relaxM,updM,if_pos ⟨rfl,rfl⟩]
   omega
  ·exact h2 u hu
theorem z107 {n:Net} {p:Party} (hn:n.Good) (hp:p.Good):∀ (l:List (Nat × Path)) (F:Mat),(∀ w ∈ l,w ∈ canL n p)→SoundM n p F→SoundM n p (l.foldl (relaxM p) F)
 | [],F,_,h=>h
 | w::l,F,hl,h=>by
  have hw:=hl w (by simp)
  obtain⟨_,h2,_⟩:=z103 hw
  have ho:=(z551 (hn.path w.2 (List.mem_of_getElem? h2)) hp).1
  unfold okTime at ho
  exact z107 hn hp l _ (fun u hu=>hl u (by simp [hu])) (z875 hw (by omega) h)
theorem z951 {n:Net} {p:Party} (hn:n.Good) (hp:p.Good):SoundM n p (allM n p)∧Least n p n.places.toNat (allM n p):=by
 rw [z392 n p rfl]
 obtain⟨B,hB⟩:∃ B,B=(canL n p).foldl (relaxM p) zeroM:=⟨_,rfl⟩
 have hS:SoundM n p B:=hB ▸ z107 hn hp _ _ (fun w hw=>hw) (z197 n p)
 have hL:Least n p 0 B:=by
  intro L a b c hc ha hx
  have hLe:L=[]:=by
   cases L with
   | nil=>rfl
   | cons x L=>exact absurd (hx x (by simp)) (Nat.not_lt_zero x)
  obtain⟨r1,r2⟩:=z924 (n:=n) (p:=p) (canL n p) zeroM
  rw [← hB] at r1 r2
  cases hc with
  | nil=>have:=r1 a a;rw [zeroM,if_pos rfl] at this;exact this
  | one hw=>exact r2 _ hw
  | app h1 h2=>simp at hLe
 rw [← hB]
 have:∀ k,k≤n.places.toNat→SoundM n p ((List.range k).foldl (stepV n.places.toNat) B)∧Least n p k ((List.range k).foldl (stepV n.places.toNat) B):=by
  intro k
  induction k with
  | zero=>exact fun _=>⟨hS,hL⟩
  | succ k ih =>
   intro hk
   obtain⟨h1,h2⟩:=ih (by omega)
   rw [z54]
   exact⟨(z267 n.places.toNat k (List.range n.places.toNat) _ h1).1,z1035 hn h1 h2 (by omega)⟩
 exact this _ (Nat.le_refl _)
end Go.Ab
namespace Go.Ab
open Go.RowKit Go.Proofs
set_option maxHeartbeats 2000000
structure NiceB (m:Nat) (F:Mat) (S:List SpotT):Prop where
 spots:SpotsOk m S
 min:∀ p i,p<m→i<S.length→0≤minW F S p i
 wt:∀ s,s<32→(∀ i ∈ elems s,i<S.length)→0≤weightW S s∧weightW S s≤500
def valB (F:Mat) (S:List SpotT) (rec:Nat→Nat→Int × Int) (p s i:Nat):Int:=wr (wr (minW F S p i * weightW S s) + (rec (nextP S i) (s - 2 ^ i)).1)
theorem z375 {F:Mat} {S:List SpotT} {rec:Nat→Nat→Int × Int} {p s:Nat}:∀ (l:List Nat) (a:Int × Int),(l.foldl (pureB F S rec p s) a).1≤a.1∧(∀ i ∈ l,¬ minW F S p i ≥ farW→(l.foldl (pureB F S rec p s) a).1≤valB F S rec p s i) ∧
  (l.foldl (pureB F S rec p s) a=a∨∃ i ∈ l,¬ minW F S p i ≥ farW∧l.foldl (pureB F S rec p s) a=(valB F S rec p s i,(i:Int))∧valB F S rec p s i<a.1)
 | [],a=>⟨Int.le_refl _,fun i hi=>by simp at hi,.inl rfl⟩
 | i::l,a=>by
  obtain⟨h1,h2,h3⟩:=z375 (F:=F) (S:=S) (rec:=rec) (p:=p) (s:=s) l (pureB F S rec p s a i)
  rw [List.foldl_cons]
  by_cases hf:minW F S p i ≥ farW
  ·have e:pureB F S rec p s a i=a:=by rw [pureB,if_pos hf]
   rw [e] at h1 h2 h3 ⊢
   refine⟨h1,fun j hj hn=>?_,?_⟩
   ·rcases List.mem_cons.1 hj with rfl | hj
    ·exact absurd hf hn
    ·exact h2 j hj hn
   ·rcases h3 with h3 | ⟨j,hj,g⟩
    ·exact .inl h3
    ·exact .inr ⟨j,by simp [hj],g⟩
  ·have e:pureB F S rec p s a i=pickB (valB F S rec p s i) i a:=by rw [pureB,if_neg hf,valB]
   rw [e] at h1 h2 h3 ⊢
   by_cases hlt:valB F S rec p s i<a.1
   ·have e2:pickB (valB F S rec p s i) i a=(valB F S rec p s i,(i:Int)):=by rw [pickB,if_pos hlt]
    rw [e2] at h1 h2 h3 ⊢
    dsimp only at h1 h3
    refine⟨by omega,fun j hj hn=>?_,.inr ?_⟩
    ·rcases List.mem_cons.1 hj with rfl | hj
     ·exact h1
     ·exact h2 j hj hn
    ·rcases h3 with h3 | ⟨j,hj,g1,g2,g3⟩
     ·exact⟨i,by simp,hf,h3,hlt⟩
     ·exact⟨j,by simp [hj],g1,g2,by omega⟩
   ·have e2:pickB (valB F S rec p s i) i a=a:=by rw [pickB,if_neg hlt]
    rw [e2] at h1 h2 h3 ⊢
    refine⟨h1,fun j hj hn=>?_,?_⟩
    ·rcases List.mem_cons.1 hj with rfl | hj
     ·omega
     ·exact h2 j hj hn
    ·rcases h3 with h3 | ⟨j,hj,g⟩
     ·exact .inl h3
     ·exact .inr ⟨j,by simp [hj],g⟩
theorem z167 {m:Nat} {S:List SpotT} (h:SpotsOk m S) {i:Nat} (hi:i<S.length):nextP S i<m:=by
 have:=h.pl (spotAt S i) (List.mem_of_getElem? (z65 hi))
 rw [nextP];omega
theorem z1069 {m:Nat} {F:Mat} {S:List SpotT} (hN:NiceB m F S) {rec:Nat→Nat→Int × Int} {p s i:Nat} (hp:p<m) (hs:s<32) (hS:∀ j ∈ elems s,j<S.length) (hi:i ∈ elems s) (hf:¬ minW F S p i ≥ farW) (hr:0≤(rec (nextP S i) (s - 2 ^ i)).1∧(rec (nextP S i) (s - 2 ^ i)).1≤farW) :
  valB F S rec p s i=minW F S p i * weightW S s + (rec (nextP S i) (s - 2 ^ i)).1∧(rec (nextP S i) (s - 2 ^ i)).1≤valB F S rec p s i:=by
 have h1:=hN.min p i hp (hS i hi)
 obtain⟨h2,h3⟩:=hN.wt s hs hS
 have hfw:farW=1099511627776:=rfl
 have h4:0≤minW F S p i * weightW S s:=Int.mul_nonneg h1 h2
 have h5:minW F S p i * weightW S s≤1099511627776 * 500:=Int.mul_le_mul (by omega) h3 h2 (by decide)
 rw [valB]
 have e1:wr (minW F S p i * weightW S s)=minW F S p i * weightW S s:=z9 (by omega)
 rw [e1]
 have e2:wr (minW F S p i * weightW S s + (rec (nextP S i) (s - 2 ^ i)).1)=minW F S p i * weightW S s + (rec (nextP S i) (s - 2 ^ i)).1:=z9 (by omega)
 rw [e2]
 exact⟨rfl,by omega⟩
theorem z133 {m:Nat} {F:Mat} {S:List SpotT} (hN:NiceB m F S):∀ (f p s:Nat),p<m→s<32→(∀ i ∈ elems s,i<S.length)→0≤(bestV F S f p s).1∧(bestV F S f p s).1≤farW
 | 0,p,s,_,_,_=>⟨Int.le_refl _,by rw [bestV];decide⟩
 | f + 1,p,s,hp,hs,hS=>by
  rw [bestV]
  split
  ·exact⟨Int.le_refl _,by decide⟩
  ·obtain⟨h1,_,h3⟩:=z375 (F:=F) (S:=S) (rec:=bestV F S f) (p:=p) (s:=s) (elems s) (farW,-1)
   refine⟨?_,h1⟩
   rcases h3 with h3 | ⟨i,hi,hf,h3,_⟩
   ·rw [h3];decide
   ·obtain⟨u1,_,u3⟩:=z25 hs hi
    have hr:=z133 hN f (nextP S i) (s - 2 ^ i) (z167 hN.spots (hS i hi)) u1 (fun j hj=>hS j (u3 j hj))
    have:=(z1069 hN hp hs hS hi hf hr).2
    rw [h3]
    dsimp only
    omega
theorem z1241 {m:Nat} {F:Mat} {S:List SpotT} (hN:NiceB m F S):∀ (f p s:Nat) (M:MemB),p<m→s<32→(∀ i ∈ elems s,i<S.length)→(elems s).length≤f→SoundB F S M→(bestV F S 5 p s).1<farW→OrdOk F S f p s M
 | 0,p,s,M,_,hs,_,hf,_,_=>z46 s hs (by omega)
 | f + 1,p,s,M,hp,hs,hS,hf,hM,hc=>by
  by_cases h0:s=0
  ·exact .inl h0
  ·refine .inr ?_
   obtain⟨b1,b2⟩:=z156 (F:=F) (S:=S) 5 p s M hs (z19 s hs) (Nat.le_refl _) hM
   have e5:bestV F S 5 p s=(elems s).foldl (pureB F S (bestV F S 4) p s) (farW,-1):=by rw [bestV,if_neg h0]
   obtain⟨_,_,h3⟩:=z375 (F:=F) (S:=S) (rec:=bestV F S 4) (p:=p) (s:=s) (elems s) (farW,-1)
   rw [← e5] at h3
   rcases h3 with h3 | ⟨i,hi,hfar,h3,h4⟩
   ·rw [h3] at hc;exact absurd hc (Int.lt_irrefl _)
   ·obtain⟨u1,u2,u3⟩:=z25 hs hi
    have hnl:=z167 hN.spots (hS i hi)
    have hr:=z133 hN 4 (nextP S i) (s - 2 ^ i) hnl u1 (fun j hj=>hS j (u3 j hj))
    have hv:=(z1069 hN hp hs hS hi hfar hr).2
    have h45:bestV F S 4 (nextP S i) (s - 2 ^ i)=bestV F S 5 (nextP S i) (s - 2 ^ i):=z155 _ _ _ _ u1 (by have:=z19 s hs;omega) (z19 _ u1)
    refine⟨i,hi,by rw [b1,h3],z1241 hN f (nextP S i) (s - 2 ^ i) _ hnl u1 (fun j hj=>hS j (u3 j hj)) (by omega) b2 ?_⟩
    rw [h45] at hv
    dsimp only at h4
    omega
theorem z294 {S:List SpotT} (hw:∀ s ∈ S,0≤s.wt∧s.wt≤100) {s:Nat} (hs:s<32) (hS:∀ i ∈ elems s,i<S.length):0≤weightW S s∧weightW S s≤500:=by
 have key:∀ (l:List Nat) (a:Int),(∀ i ∈ l,i<S.length)→0≤a→a + 100 * l.length≤1000→a≤l.foldl (fun a i=>wr (a + (spotAt S i).wt)) a∧l.foldl (fun a i=>wr (a + (spotAt S i).wt)) a≤a + 100 * l.length:=by
  intro l
  induction l with
  | nil=>intro a _ _ _;simp
  | cons i l ih =>
   intro a hl ha hb
   have hwi:=hw (spotAt S i) (List.mem_of_getElem? (z65 (hl i (by simp))))
   rw [List.length_cons] at hb ⊢
   have e:wr (a + (spotAt S i).wt)=a + (spotAt S i).wt:=z9 (by omega)
   rw [List.foldl_cons,e]
   have:=ih (a + (spotAt S i).wt) (fun j hj=>hl j (by simp [hj])) (by omega) (by omega)
   omega
 have hl:=z19 s hs
 have:=key (elems s) 0 hS (Int.le_refl _) (by omega)
 rw [weightW]
 omega
theorem z469 {n:Net} {p:Party} {bases:List Int} {S:List SpotT} (h:readyE n p bases S=0) (hl:S.length≤5):NiceB n.places.toNat (allM n p) S:=by
 obtain⟨hn,hp,_,hsp,_,_⟩:=z57 h
 have hA:=(z951 hn hp).1
 refine⟨⟨hl,fun s hs=>by have:=(hsp s hs).1;omega⟩,fun q i _ hi=>?_,fun s hs hS=>z294 (fun t ht=>(hsp t ht).2.1) hs hS⟩
 have h1:=hA q (spotAt S i).pl.toNat
 have h2:=(hsp (spotAt S i) (List.mem_of_getElem? (z65 hi))).2.2
 have hfw:farW=1099511627776:=rfl
 have e:wr (allM n p q (spotAt S i).pl.toNat + (spotAt S i).se)=allM n p q (spotAt S i).pl.toNat + (spotAt S i).se:=z9 (by omega)
 rw [minW,e]
 omega
theorem z1194 {n:Net} {p:Party} {base:Int} {S:List SpotT} (h:readyE n p [base] S=0) (hl:S.length≤5):OrdP (allM n p) S base.toNat:=by
 have hN:=z469 h hl
 obtain⟨hn,_,_,_,_,hb⟩:=z57 h
 have hb:=hb base (by simp)
 have h32:=z223 hl
 have hS:∀ i ∈ elems (fullN S),i<S.length:=z114 _ hl
 intro hc
 obtain⟨b1,b2⟩:=z156 (F:=allM n p) (S:=S) 5 base.toNat (fullN S) ([],0) h32 (z19 _ h32) (Nat.le_refl _) (fun e he=>by simp at he)
 rw [bestP] at hc ⊢
 rw [b1] at hc
 exact z1241 hN 5 base.toNat (fullN S) _ (by omega) h32 hS (z19 _ h32) b2 hc
end Go.Ab
namespace Go.Ab
open Go.RowKit Go.Proofs
set_option maxHeartbeats 2000000
theorem z1053:∀ s:Nat,s<32→∀ i:Nat,i<5→i ∈ elems s→(elems s).isPerm (i::elems (s - 2 ^ i))=true:=by decide +kernel
theorem z329 {s i:Nat} (hs:s<32) (hi:i ∈ elems s):(elems s).Perm (i::elems (s - 2 ^ i)):=List.isPerm_iff.1 (z1053 s hs i (z253 hi) hi)
def sumW (S:List SpotT) (l:List Nat):Int:=l.foldr (fun i a=>(spotAt S i).wt + a) 0
theorem z348 {S:List SpotT} {l k:List Nat} (h:l.Perm k):sumW S l=sumW S k:=by
 induction h with
 | nil=>rfl
 | cons x _ ih=>simp only [sumW,List.foldr_cons] at ih ⊢;rw [ih]
 | swap x y l=>simp only [sumW,List.foldr_cons];omega
 | trans _ _ ih1 ih2=>rw [ih1,ih2]
theorem z957 {S:List SpotT} (hw:∀ s ∈ S,0≤s.wt∧s.wt≤100) {s:Nat} (hs:s<32) (hS:∀ i ∈ elems s,i<S.length):weightW S s=sumW S (elems s):=by
 have key:∀ (l:List Nat) (a:Int),(∀ i ∈ l,i<S.length)→0≤a→a + 100 * l.length≤1000→l.foldl (fun a i=>wr (a + (spotAt S i).wt)) a=a + sumW S l:=by
  intro l
  induction l with
  | nil=>intro a _ _ _;simp [sumW]
  | cons i l ih =>
   intro a hl ha hb
   have hwi:=hw (spotAt S i) (List.mem_of_getElem? (z65 (hl i (by simp))))
   rw [List.length_cons] at hb
   have e:wr (a + (spotAt S i).wt)=a + (spotAt S i).wt:=z9 (by omega)
   rw [List.foldl_cons,e,ih (a + (spotAt S i).wt) (fun j hj=>hl j (by simp [hj])) (by omega) (by omega)]
   simp only [sumW,List.foldr_cons]
   omega
 have hl:=z19 s hs
 have:=key (elems s) 0 hS (Int.le_refl _) (by omega)
 rw [weightW,this,Int.zero_add]
structure OneB (m b:Nat) (F:Mat) (S:List SpotT):Prop where
 nice:NiceB m F S
 base:b<m
 self:F b b=0
 at0:∀ i,i<S.length→nextP S i=b
 wt:∀ s ∈ S,0≤s.wt∧s.wt≤100
 se:∀ s ∈ S,0≤s.se∧s.se≤600
end Go.Ab
namespace Go.Ab
open Go.RowKit Go.Proofs
set_option maxHeartbeats 2000000
def Bnd (F:Mat) (K:Int):Prop:=∀ a b,F a b<farW→F a b≤K
def Near (n:Net) (p:Party) (v:Nat) (K:Int) (G:Mat):Prop:=SoundM n p G∧(∀ x,G x v<farW→G x v≤K)∧(∀ x,G v x<farW→G v x≤K)∧Bnd G (2 * K)
theorem z920 {n:Net} {p:Party} {v:Nat} {K:Int} {G:Mat} (x y:Nat) (h:Near n p v K G):Near n p v K (viaM v G x y):=by
 obtain⟨h1,h2,h3,h4⟩:=h
 refine⟨z597 h1 v x y,fun a=>?_,fun a=>?_,fun a b hl=>?_⟩
 ·rw [(z768 h1 v x y a).1];exact h2 a
 ·rw [(z768 h1 v x y a).2];exact h3 a
 ·rw [viaM,updM,z458 h1] at hl ⊢
  split at hl
  ·rename_i hc
   rw [if_pos hc]
   have g1:=h1 x v
   have g2:=h1 v y
   have g3:=h4 x y
   have g4:=h2 x
   have g5:=h3 y
   omega
  ·rename_i hc
   rw [if_neg hc]
   exact h4 a b hl
theorem z376 {α:Type} {n:Net} {p:Party} {v:Nat} {K:Int} (f:Mat→α→Mat) (hf:∀ G a,Near n p v K G→Near n p v K (f G a)):∀ (l:List α) (G:Mat),Near n p v K G→Near n p v K (l.foldl f G)
 | [],_,h=>h
 | a::l,G,h=>z376 f hf l _ (hf G a h)
theorem z550 {n:Net} {p:Party} {m v:Nat} {K:Int} {F:Mat} (hK:0≤K) (hS:SoundM n p F) (hB:Bnd F K):SoundM n p (stepV m F v)∧Bnd (stepV m F v) (2 * K):=by
 have h:=z376 (stepA m v) (fun G a h=>z376 (fun F b=>viaM v F a b) (fun G b h=>z920 a b h) _ G h) (List.range m) F (n:=n) (p:=p) (v:=v) (K:=K) ⟨hS,fun x hx=>hB x v hx,fun x hx=>hB v x hx,fun a b hl=>by have:=hB a b hl;omega⟩
 exact⟨h.1,h.2.2.2⟩
theorem z148 {n:Net} {p:Party} (hn:n.Good) (hp:p.Good):∀ (l:List (Nat × Path)) (F:Mat),(∀ w ∈ l,w ∈ canL n p)→Bnd F 6000→Bnd (l.foldl (relaxM p) F) 6000
 | [],F,_,h=>h
 | w::l,F,hl,h=>by
  have hw:=hl w (by simp)
  obtain⟨_,h2,_⟩:=z103 hw
  have ho:=(z551 (hn.path w.2 (List.mem_of_getElem? h2)) hp).1
  unfold okTime at ho
  refine z148 hn hp l _ (fun u hu=>hl u (by simp [hu])) fun a b hlt=>?_
  rw [relaxM,updM] at hlt ⊢
  split at hlt
  ·rename_i hc
   rw [if_pos hc]
   omega
  ·rename_i hc
   rw [if_neg hc]
   exact h a b hlt
theorem z928:∀ k:Nat,k≤12→(6000:Int) * 2 ^ k≤24576000:=by decide
theorem z1156 {n:Net} {p:Party} (hn:n.Good) (hp:p.Good):Bnd (allM n p) 24576000:=by
 rw [z392 n p rfl]
 obtain⟨B,hB⟩:∃ B,B=(canL n p).foldl (relaxM p) zeroM:=⟨_,rfl⟩
 have hS:SoundM n p B:=hB ▸ z107 hn hp _ _ (fun w hw=>hw) (z197 n p)
 have h0:Bnd B 6000:=hB ▸ z148 hn hp _ _ (fun w hw=>hw) (fun a b hl=>by
  rw [zeroM] at hl ⊢
  split at hl
  ·rename_i hc;rw [if_pos hc];decide
  ·exact absurd hl (Int.lt_irrefl _))
 rw [← hB]
 have:∀ k:Nat,SoundM n p ((List.range k).foldl (stepV n.places.toNat) B)∧Bnd ((List.range k).foldl (stepV n.places.toNat) B) (6000 * 2 ^ k):=by
  intro k
  induction k with
  | zero=>exact⟨hS,by simpa using h0⟩
  | succ k ih =>
   rw [z54]
   have h2:(0:Int)≤6000 * 2 ^ k:=Int.mul_nonneg (by decide) (Int.pow_nonneg (by decide))
   have:=z550 (m:=n.places.toNat) (v:=k) h2 ih.1 ih.2
   refine⟨this.1,fun a b hl=>?_⟩
   have h3:=this.2 a b hl
   rw [Int.pow_succ]
   omega
 have hpl:=hn.places
 have h1:=this n.places.toNat
 exact fun a b hl=>Int.le_trans (h1.2 a b hl) (z928 _ (by omega))
end Go.Ab
namespace Go.Ab
open Go.RowKit Go.Proofs
set_option maxHeartbeats 2000000
def SameW (F G:Mat):Prop:=∀ a b,(F a b<farW∧G a b=F a b)∨(F a b=farW∧G a b=neverW)
theorem z1061:SameW zeroM zeroN:=fun a b=>by
 rw [zeroM,zeroN]
 by_cases h:a=b
 ·rw [if_pos h,if_pos h];exact .inl ⟨by decide,rfl⟩
 ·rw [if_neg h,if_neg h];exact .inr ⟨rfl,rfl⟩
theorem z357 {n:Net} {p:Party} (hn:n.Good) (hp:p.Good):∀ k:Nat,k≤n.paths.length→SameW ((canTo n p k).foldl (relaxM p) zeroM) ((n.paths.take k).foldl (relaxN p) zeroN)
 | 0,_=>z1061
 | k + 1,hk=>by
  have ih:=z357 hn hp k (by omega)
  obtain⟨y,hy⟩:∃ y,n.paths[k]?=some y:=⟨_,List.getElem?_eq_getElem (by omega)⟩
  have hB:Bnd ((canTo n p k).foldl (relaxM p) zeroM) 6000:=z148 hn hp _ _ (fun w hw=>by
   obtain⟨h1,h2,h3⟩:=z103 hw
   exact z385 h2 h3 (by omega)) (fun a b hl=>by
    rw [zeroM] at hl ⊢
    split at hl
    ·rename_i hc;rw [if_pos hc];decide
    ·exact absurd hl (Int.lt_irrefl _))
  obtain⟨F,hF⟩:∃ F,F=(canTo n p k).foldl (relaxM p) zeroM:=⟨_,rfl⟩
  obtain⟨G,hG⟩:∃ G,G=(n.paths.take k).foldl (relaxN p) zeroN:=⟨_,rfl⟩
  rw [← hF,← hG] at ih
  rw [← hF] at hB
  rw [z28 _ _ _ _ _ hy,← hG,canTo,List.foldl_append,← hF,hy]
  dsimp only
  rw [relaxN]
  by_cases hg:y.grade≤p.grade
  ·rw [if_pos hg,if_pos hg,List.foldl_cons,List.foldl_nil,relaxM]
   have ho:=(z551 (hn.path y (List.mem_of_getElem? hy)) hp).1
   unfold okTime at ho
   dsimp only
   have hfw:farW=1099511627776:=rfl
   have hnw:neverW=1073741824:=rfl
   intro a b
   have h0:=ih y.frm.toNat y.to.toNat
   have h1:=hB y.frm.toNat y.to.toNat
   rw [updM,updM]
   split
   ·left
    omega
   ·exact ih a b
  ·rw [if_neg hg,if_neg hg]
   exact ih
theorem z1167 {n:Net} {p:Party} {v:Nat} {K:Int} {F G:Mat} (x y:Nat) (hK:2 * K<neverW) (h:Near n p v K F) (hs:SameW F G):SameW (viaM v F x y) (viaM v G x y):=by
 obtain⟨h1,h2,h3,h4⟩:=h
 have hfw:farW=1099511627776:=rfl
 have hnw:neverW=1073741824:=rfl
 have e1:=z458 h1 v x y
 have g1:=h1 x v
 have g2:=h1 v y
 have g3:=h1 x y
 have g4:=h2 x
 have g5:=h3 y
 have g6:=h4 x y
 have s1:=hs x v
 have s2:=hs v y
 have s3:=hs x y
 have e2:wr (G x v + G v y)=G x v + G v y:=z9 (by omega)
 intro a b
 rw [viaM,viaM,updM,updM,e1,e2]
 split
 ·by_cases q1:F x v<farW
  ·by_cases q2:F v y<farW
   ·left;omega
   ·by_cases q3:F x y<farW
    ·left;omega
    ·right;omega
  ·by_cases q3:F x y<farW
   ·left;omega
   ·right;omega
 ·exact hs a b
theorem z283 {α:Type} {n:Net} {p:Party} {v:Nat} {K:Int} (f:Mat→α→Mat) (hf:∀ F G a,Near n p v K F→SameW F G→Near n p v K (f F a)∧SameW (f F a) (f G a)):∀ (l:List α) (F G:Mat),Near n p v K F→SameW F G→Near n p v K (l.foldl f F)∧SameW (l.foldl f F) (l.foldl f G)
 | [],_,_,h,hs=>⟨h,hs⟩
 | a::l,F,G,h,hs=>by
  obtain⟨h1,h2⟩:=hf F G a h hs
  exact z283 f hf l _ _ h1 h2
theorem z1084 {n:Net} {p:Party} {m v:Nat} {K:Int} {F G:Mat} (hK0:0≤K) (hK:2 * K<neverW) (hS:SoundM n p F) (hB:Bnd F K) (hs:SameW F G):SameW (stepV m F v) (stepV m G v) :=
 (z283 (stepA m v) (fun F G _ h hs=>z283 (fun F b=>viaM v F _ b) (fun F G b h hs=>⟨z920 _ b h,z1167 _ b hK h hs⟩) _ F G h hs) (List.range m) F G (n:=n) (p:=p) (v:=v) (K:=K) ⟨hS,fun x hx=>hB x v hx,fun x hx=>hB v x hx,fun a b hl=>by have:=hB a b hl;omega⟩ hs).2
theorem z1239 {n:Net} {p:Party} (hn:n.Good) (hp:p.Good):SameW (allM n p) (allR n p):=by
 have hpl:=hn.places
 rw [z392 n p rfl,allR]
 obtain⟨B,hB⟩:∃ B,B=(canL n p).foldl (relaxM p) zeroM:=⟨_,rfl⟩
 have hS:SoundM n p B:=hB ▸ z107 hn hp _ _ (fun w hw=>hw) (z197 n p)
 have h0:Bnd B 6000:=hB ▸ z148 hn hp _ _ (fun w hw=>hw) (fun a b hl=>by
  rw [zeroM] at hl ⊢
  split at hl
  ·rename_i hc;rw [if_pos hc];decide
  ·exact absurd hl (Int.lt_irrefl _))
 have hs0:SameW B (n.paths.foldl (relaxN p) zeroN):=by
  have:=z357 hn hp n.paths.length (Nat.le_refl _)
  rw [List.take_length] at this
  rw [hB]
  exact this
 rw [← hB]
 have hnw:neverW=1073741824:=rfl
 have:∀ k:Nat,k≤n.places.toNat→SoundM n p ((List.range k).foldl (stepV n.places.toNat) B)∧Bnd ((List.range k).foldl (stepV n.places.toNat) B) (6000 * 2 ^ k)∧SameW ((List.range k).foldl (stepV n.places.toNat) B) ((List.range k).foldl (stepV n.places.toNat) (n.paths.foldl (relaxN p) zeroN)):=by
  intro k
  induction k with
  | zero=>exact fun _=>⟨hS,by simpa using h0,hs0⟩
  | succ k ih =>
   intro hk
   obtain⟨i1,i2,i3⟩:=ih (by omega)
   rw [z54,z54]
   have h2:(0:Int)≤6000 * 2 ^ k:=Int.mul_nonneg (by decide) (Int.pow_nonneg (by decide))
   have h3:=z550 (m:=n.places.toNat) (v:=k) h2 i1 i2
   have h4:=z928 k (by omega)
   refine⟨h3.1,fun a b hl=>?_,z1084 h2 (by omega) i1 i2 i3⟩
   have h5:=h3.2 a b hl
   rw [Int.pow_succ]
   omega
 exact (this _ (Nat.le_refl _)).2.2
theorem z1090 {n:Net} {p:Party} (hn:n.Good) (hp:p.Good) (a b:Nat):(allM n p a b<farW∧0≤allM n p a b∧allM n p a b≤24576000∧allR n p a b=allM n p a b)∨(allM n p a b=farW∧allR n p a b=neverW):=by
 have h1:=(z951 hn hp).1 a b
 have h2:=z1156 hn hp a b
 rcases z1239 hn hp a b with h | h
 ·exact .inl ⟨h.1,h1.1,h2 h.1,h.2⟩
 ·exact .inr h
end Go.Ab
namespace Go.Ab
open Go.RowKit Go.Proofs
set_option maxHeartbeats 2000000
theorem z1058 {n:Net} {p:Party} (hn:n.Good) (hp:p.Good):Bnd (allM n p) (6000 * 2 ^ n.places.toNat):=by
 rw [z392 n p rfl]
 obtain⟨B,hB⟩:∃ B,B=(canL n p).foldl (relaxM p) zeroM:=⟨_,rfl⟩
 have hS:SoundM n p B:=hB ▸ z107 hn hp _ _ (fun w hw=>hw) (z197 n p)
 have h0:Bnd B 6000:=hB ▸ z148 hn hp _ _ (fun w hw=>hw) (fun a b hl=>by
  rw [zeroM] at hl ⊢
  split at hl
  ·rename_i hc;rw [if_pos hc];decide
  ·exact absurd hl (Int.lt_irrefl _))
 rw [← hB]
 have:∀ k:Nat,SoundM n p ((List.range k).foldl (stepV n.places.toNat) B)∧Bnd ((List.range k).foldl (stepV n.places.toNat) B) (6000 * 2 ^ k):=by
  intro k
  induction k with
  | zero=>exact⟨hS,by simpa using h0⟩
  | succ k ih =>
   rw [z54]
   have h2:(0:Int)≤6000 * 2 ^ k:=Int.mul_nonneg (by decide) (Int.pow_nonneg (by decide))
   have:=z550 (m:=n.places.toNat) (v:=k) h2 ih.1 ih.2
   refine⟨this.1,fun a b hl=>?_⟩
   have h3:=this.2 a b hl
   rw [Int.pow_succ]
   omega
 exact (this n.places.toNat).2
theorem z1191:∀ k:Nat,k≤5→(6000:Int) * 2 ^ k≤192000:=by decide
structure PlanB (m:Nat) (F G:Mat) (S:List SpotT):Prop where
 nice:NiceB m F S
 mat:∀ a b,(F a b<farW∧0≤F a b∧F a b≤192000∧G a b=F a b)∨(F a b=farW∧G a b=neverW)
 wt:∀ s ∈ S,0≤s.wt∧s.wt≤100
 se:∀ s ∈ S,0≤s.se∧s.se≤600
theorem z929 {n:Net} {p:Party} {bases:List Int} {S:List SpotT} (h:readyE n p bases S=0) (hl:S.length≤5) (h5:n.places≤5):PlanB n.places.toNat (allM n p) (allR n p) S:=by
 obtain⟨hn,hp,_,hsp,_,_⟩:=z57 h
 refine⟨z469 h hl,fun a b=>?_,fun s hs=>(hsp s hs).2.1,fun s hs=>(hsp s hs).2.2⟩
 have h1:=z1058 hn hp a b
 have h2:=z1191 n.places.toNat (by omega)
 rcases z1090 hn hp a b with ⟨g1,g2,_,g4⟩ | g
 ·exact .inl ⟨g1,g2,Int.le_trans (h1 g1) h2,g4⟩
 ·exact .inr g
def reachL (F:Mat) (S:List SpotT):Nat→List Nat→Prop
 | _,[]=>True
 | p,i::l=>F p (nextP S i)<farW∧reachL F S (nextP S i) l
def endL (F:Mat) (S:List SpotT):Nat→List Nat→Int
 | _,[]=>0
 | p,i::l=>F p (nextP S i) + (spotAt S i).se + endL F S (nextP S i) l
def costL (F:Mat) (S:List SpotT):Nat→List Nat→Int
 | _,[]=>0
 | p,i::l=>(F p (nextP S i) + (spotAt S i).se) * sumW S (i::l) + costL F S (nextP S i) l
theorem z1382 {m:Nat} {F G:Mat} {S:List SpotT} (h:PlanB m F G S) {i:Nat} (hi:i<S.length):0≤(spotAt S i).wt∧(spotAt S i).wt≤100:=h.wt _ (List.mem_of_getElem? (z65 hi))
theorem z1158 {m:Nat} {F G:Mat} {S:List SpotT} (h:PlanB m F G S) {i:Nat} (hi:i<S.length):0≤(spotAt S i).se∧(spotAt S i).se≤600:=h.se _ (List.mem_of_getElem? (z65 hi))
theorem z231 {m:Nat} {F G:Mat} {S:List SpotT} (h:PlanB m F G S):∀ l:List Nat,(∀ i ∈ l,i<S.length)→0≤sumW S l∧sumW S l≤100 * l.length
 | [],_=>⟨Int.le_refl _,by simp [sumW]⟩
 | i::l,hl=>by
  have h1:=z231 h l (fun j hj=>hl j (by simp [hj]))
  have h2:=z1382 h (hl i (by simp))
  have e:sumW S (i::l)=(spotAt S i).wt + sumW S l:=rfl
  rw [e,List.length_cons]
  omega
theorem z740 {m:Nat} {F G:Mat} {S:List SpotT} (h:PlanB m F G S):∀ (l:List Nat) (p:Nat),(∀ i ∈ l,i<S.length)→reachL F S p l→0≤endL F S p l∧endL F S p l≤192600 * l.length
 | [],_,_,_=>⟨Int.le_refl _,by simp [endL]⟩
 | i::l,p,hl,hr=>by
  rw [reachL] at hr
  have h1:=z740 h l (nextP S i) (fun j hj=>hl j (by simp [hj])) hr.2
  have h2:=z1158 h (hl i (by simp))
  have h3:=h.mat p (nextP S i)
  rw [endL,List.length_cons]
  omega
theorem z290 {m:Nat} {F G:Mat} {S:List SpotT} (h:PlanB m F G S):∀ (l:List Nat) (p:Nat),l.length≤5→(∀ i ∈ l,i<S.length)→reachL F S p l→0≤costL F S p l∧costL F S p l≤96300000 * l.length
 | [],_,_,_,_=>⟨Int.le_refl _,by simp [costL]⟩
 | i::l,p,h5,hl,hr=>by
  rw [reachL] at hr
  rw [List.length_cons] at h5
  have h1:=z290 h l (nextP S i) (by omega) (fun j hj=>hl j (by simp [hj])) hr.2
  have h2:=z1158 h (hl i (by simp))
  have h3:=h.mat p (nextP S i)
  have h4:=z231 h (i::l) hl
  rw [List.length_cons] at h4
  have q1:0≤F p (nextP S i) + (spotAt S i).se:=by omega
  have q2:F p (nextP S i) + (spotAt S i).se≤192600:=by omega
  have q3:(F p (nextP S i) + (spotAt S i).se) * sumW S (i::l)≤192600 * 500:=Int.mul_le_mul q2 (by omega) h4.1 (by decide)
  have q4:0≤(F p (nextP S i) + (spotAt S i).se) * sumW S (i::l):=Int.mul_nonneg q1 h4.1
  rw [costL,List.length_cons]
  omega
def costF (G:Mat) (S:List SpotT):Nat→Int→Int→List Nat→Int × Int
 | _,c,e,[]=>(c,e)
 | p,c,e,i::l=>if G p (nextP S i) ≥ neverW then (neverW,neverW) else
  costF G S (nextP S i) (wr (c + wr ((spotAt S i).wt * wr (e + wr (G p (nextP S i) + (spotAt S i).se))))) (wr (e + wr (G p (nextP S i) + (spotAt S i).se))) l
theorem z1145 {m:Nat} {F G:Mat} {S:List SpotT} (h:PlanB m F G S):∀ (l:List Nat) (p:Nat) (c e:Int),¬ reachL F S p l→costF G S p c e l=(neverW,neverW)
 | [],_,_,_,hr=>absurd trivial hr
 | i::l,p,c,e,hr=>by
  rw [costF]
  have h3:=h.mat p (nextP S i)
  by_cases hc:G p (nextP S i) ≥ neverW
  ·rw [if_pos hc]
  ·rw [if_neg hc]
   refine z1145 h l _ _ _ fun hh=>hr ⟨?_,hh⟩
   omega
theorem z944 {m:Nat} {F G:Mat} {S:List SpotT} (h:PlanB m F G S):∀ (l:List Nat) (p:Nat) (c e:Int),(∀ i ∈ l,i<S.length)→reachL F S p l→0≤c→c≤10000000000 * (60 - l.length)→0≤e→e≤192600 * (60 - l.length)→l.length≤60 →
  costF G S p c e l=(c + e * sumW S l + costL F S p l,e + endL F S p l)
 | [],p,c,e,_,_,_,_,_,_,_=>by simp [costF,sumW,costL,endL]
 | i::l,p,c,e,hl,hr,hc0,hc1,he0,he1,h60=>by
  rw [reachL] at hr
  rw [List.length_cons] at hc1 he1 h60
  have h2:=z1158 h (hl i (by simp))
  have hw:=z1382 h (hl i (by simp))
  have h3:=h.mat p (nextP S i)
  have hnw:neverW=1073741824:=rfl
  have hfw:farW=1099511627776:=rfl
  have hG:G p (nextP S i)=F p (nextP S i):=by omega
  have hF:0≤F p (nextP S i)∧F p (nextP S i)≤192000:=by omega
  rw [costF,if_neg (by omega),hG]
  obtain⟨f,hf⟩:∃ f,f=F p (nextP S i):=⟨_,rfl⟩
  obtain⟨s,hs⟩:∃ s,s=(spotAt S i).se:=⟨_,rfl⟩
  obtain⟨w,hww⟩:∃ w,w=(spotAt S i).wt:=⟨_,rfl⟩
  have esum:sumW S (i::l)=(spotAt S i).wt + sumW S l:=rfl
  rw [costL,endL,esum]
  rw [← hf] at hF ⊢
  rw [← hs] at h2 ⊢
  rw [← hww] at hw ⊢
  have e1:wr (f + s)=f + s:=z9 (by omega)
  have e2:wr (e + (f + s))=e + (f + s):=z9 (by omega)
  have q1:0≤w * (e + (f + s)):=Int.mul_nonneg hw.1 (by omega)
  have q2:w * (e + (f + s))≤100 * (192600 * 60):=Int.mul_le_mul hw.2 (by omega) (by omega) (by decide)
  have e3:wr (w * (e + (f + s)))=w * (e + (f + s)):=z9 (by omega)
  have e4:wr (c + w * (e + (f + s)))=c + w * (e + (f + s)):=z9 (by omega)
  rw [e1,e2,e3,e4,z944 h l (nextP S i) _ _ (fun j hj=>hl j (by simp [hj])) hr.2 (by omega) (by omega) (by omega) (by omega) (by omega)]
  refine Prod.ext ?_ (by dsimp only;omega)
  dsimp only
  rw [Int.add_mul e,Int.mul_add (f + s),Int.mul_add w,Int.mul_add e,Int.mul_comm w e,Int.mul_comm w (f + s)]
  omega
theorem z908 {m:Nat} {F G:Mat} {S:List SpotT} (h:PlanB m F G S) {l:List Nat} (hl:∀ i ∈ l,i<S.length) (h5:l.length≤5) (p:Nat) :
  (reachL F S p l∧costF G S p 0 0 l=(costL F S p l,endL F S p l)∧costL F S p l<neverW∧endL F S p l<neverW)∨(¬ reachL F S p l∧costF G S p 0 0 l=(neverW,neverW)):=by
 have hnw:neverW=1073741824:=rfl
 by_cases hr:reachL F S p l
 ·have h1:=z290 h l p h5 hl hr
  have h2:=z740 h l p hl hr
  have e:=z944 h l p 0 0 hl hr (Int.le_refl _) (by omega) (Int.le_refl _) (by omega) (by omega)
  rw [Int.zero_mul,Int.zero_add,Int.zero_add,Int.zero_add] at e
  exact .inl ⟨hr,e,by omega,by omega⟩
 ·exact .inr ⟨hr,z1145 h l p 0 0 hr⟩
theorem z195 (s:Nat):(elems s).Pairwise (·<·):=List.Pairwise.filter _ List.pairwise_lt_range
theorem z486 {F:Mat} {S:List SpotT} {rec:Nat→Nat→Int × Int} {p s:Nat}:∀ (l:List Nat) (a:Int × Int),l.Pairwise (·<·) →
  (l.foldl (pureB F S rec p s) a=a∧∀ j ∈ l,¬ minW F S p j ≥ farW→a.1≤valB F S rec p s j) ∨
  ∃ i ∈ l,¬ minW F S p i ≥ farW∧l.foldl (pureB F S rec p s) a=(valB F S rec p s i,(i:Int))∧valB F S rec p s i<a.1∧(∀ j ∈ l,¬ minW F S p j ≥ farW→valB F S rec p s i≤valB F S rec p s j) ∧
   ∀ j ∈ l,j<i→¬ minW F S p j ≥ farW→valB F S rec p s i<valB F S rec p s j
 | [],a,_=>.inl ⟨rfl,fun j hj=>by simp at hj⟩
 | i::l,a,hs=>by
  obtain⟨hs1,hs2⟩:=List.pairwise_cons.1 hs
  have ih:=z486 (F:=F) (S:=S) (rec:=rec) (p:=p) (s:=s) l (pureB F S rec p s a i) hs2
  rw [List.foldl_cons]
  by_cases hf:minW F S p i ≥ farW
  ·have e:pureB F S rec p s a i=a:=by rw [pureB,if_pos hf]
   rw [e] at ih ⊢
   rcases ih with ⟨h1,h2⟩ | ⟨k,hk,h1,h2,h3,h4,h5⟩
   ·refine .inl ⟨h1,fun j hj hn=>?_⟩
    rcases List.mem_cons.1 hj with rfl | hj
    ·exact absurd hf hn
    ·exact h2 j hj hn
   ·refine .inr ⟨k,by simp [hk],h1,h2,h3,fun j hj hn=>?_,fun j hj hlt hn=>?_⟩
    ·rcases List.mem_cons.1 hj with rfl | hj
     ·exact absurd hf hn
     ·exact h4 j hj hn
    ·rcases List.mem_cons.1 hj with rfl | hj
     ·exact absurd hf hn
     ·exact h5 j hj hlt hn
  ·have e:pureB F S rec p s a i=pickB (valB F S rec p s i) i a:=by rw [pureB,if_neg hf,valB]
   rw [e] at ih ⊢
   by_cases hlt:valB F S rec p s i<a.1
   ·have e2:pickB (valB F S rec p s i) i a=(valB F S rec p s i,(i:Int)):=by rw [pickB,if_pos hlt]
    rw [e2] at ih ⊢
    dsimp only at ih
    rcases ih with ⟨h1,h2⟩ | ⟨k,hk,h1,h2,h3,h4,h5⟩
    ·refine .inr ⟨i,by simp,hf,h1,hlt,fun j hj hn=>?_,fun j hj hji hn=>?_⟩
     ·rcases List.mem_cons.1 hj with rfl | hj
      ·exact Int.le_refl _
      ·exact h2 j hj hn
     ·rcases List.mem_cons.1 hj with rfl | hj
      ·exact absurd hji (Nat.lt_irrefl _)
      ·have:=hs1 j hj;omega
    ·refine .inr ⟨k,by simp [hk],h1,h2,by omega,fun j hj hn=>?_,fun j hj hjk hn=>?_⟩
     ·rcases List.mem_cons.1 hj with rfl | hj
      ·omega
      ·exact h4 j hj hn
     ·rcases List.mem_cons.1 hj with rfl | hj
      ·exact h3
      ·exact h5 j hj hjk hn
   ·have e2:pickB (valB F S rec p s i) i a=a:=by rw [pickB,if_neg hlt]
    rw [e2] at ih ⊢
    rcases ih with ⟨h1,h2⟩ | ⟨k,hk,h1,h2,h3,h4,h5⟩
    ·refine .inl ⟨h1,fun j hj hn=>?_⟩
     rcases List.mem_cons.1 hj with rfl | hj
     ·omega
     ·exact h2 j hj hn
    ·refine .inr ⟨k,by simp [hk],h1,h2,h3,fun j hj hn=>?_,fun j hj hjk hn=>?_⟩
     ·rcases List.mem_cons.1 hj with rfl | hj
      ·omega
      ·exact h4 j hj hn
     ·rcases List.mem_cons.1 hj with rfl | hj
      ·omega
      ·exact h5 j hj hjk hn
def firstV (F:Mat) (S:List SpotT) (p s i:Nat):Int:=(F p (nextP S i) + (spotAt S i).se) * sumW S (elems s) + (bestV F S 5 (nextP S i) (s - 2 ^ i)).1
theorem z1140 {m:Nat} {F G:Mat} {S:List SpotT} (h:PlanB m F G S) {p s i:Nat} (hp:p<m) (hs:s<32) (hS:∀ j ∈ elems s,j<S.length) (hi:i ∈ elems s) :
  (¬ minW F S p i ≥ farW↔F p (nextP S i)<farW)∧(F p (nextP S i)<farW→valB F S (bestV F S 4) p s i=firstV F S p s i):=by
 have hfw:farW=1099511627776:=rfl
 have h2:=z1158 h (hS i hi)
 have h3:=h.mat p (nextP S i)
 have e0:minW F S p i=F p (nextP S i) + (spotAt S i).se:=by
  rw [minW]
  exact z9 (by rw [← nextP];omega)
 have e1:¬ minW F S p i ≥ farW↔F p (nextP S i)<farW:=by rw [e0];omega
 refine⟨e1,fun hf=>?_⟩
 obtain⟨u1,u2,u3⟩:=z25 hs hi
 have hr:=z133 h.nice 4 (nextP S i) (s - 2 ^ i) (z167 h.nice.spots (hS i hi)) u1 (fun j hj=>hS j (u3 j hj))
 rw [(z1069 h.nice hp hs hS hi (e1.2 hf) hr).1,firstV,e0,z957 h.wt hs hS,z155 4 5 (nextP S i) (s - 2 ^ i) u1 (by have:=z19 s hs;omega) (z19 _ u1)]
theorem z291 {m:Nat} {F G:Mat} {S:List SpotT} (h:PlanB m F G S) {p s:Nat} (hp:p<m) (hs:s<32) (hS:∀ j ∈ elems s,j<S.length) (h0:s≠0) :
  (bestV F S 5 p s=(farW,-1)∧∀ j ∈ elems s,F p (nextP S j)<farW→farW≤firstV F S p s j) ∨
  ∃ i ∈ elems s,F p (nextP S i)<farW∧bestV F S 5 p s=(firstV F S p s i,(i:Int))∧firstV F S p s i<farW∧(∀ j ∈ elems s,F p (nextP S j)<farW→firstV F S p s i≤firstV F S p s j) ∧
   ∀ j ∈ elems s,j<i→F p (nextP S j)<farW→firstV F S p s i<firstV F S p s j:=by
 have e5:bestV F S 5 p s=(elems s).foldl (pureB F S (bestV F S 4) p s) (farW,-1):=by rw [bestV,if_neg h0]
 have hf:=z486 (F:=F) (S:=S) (rec:=bestV F S 4) (p:=p) (s:=s) (elems s) (farW,-1) (z195 s)
 rw [← e5] at hf
 have hv:=fun j hj=>z1140 h hp hs hS (i:=j) hj
 rcases hf with ⟨h1,h2⟩ | ⟨i,hi,h1,h2,h3,h4,h5⟩
 ·refine .inl ⟨h1,fun j hj hn=>?_⟩
  have:=h2 j hj ((hv j hj).1.2 hn)
  rw [(hv j hj).2 hn] at this
  exact this
 ·have hfi:=(hv i hi).1.1 h1
  rw [(hv i hi).2 hfi] at h2 h3 h4 h5
  refine .inr ⟨i,hi,hfi,h2,h3,fun j hj hn=>?_,fun j hj hji hn=>?_⟩
  ·have:=h4 j hj ((hv j hj).1.2 hn)
   rwa [(hv j hj).2 hn] at this
  ·have:=h5 j hj hji ((hv j hj).1.2 hn)
   rwa [(hv j hj).2 hn] at this
theorem z234 {s i:Nat} {l:List Nat} (hs:s<32) (h:(i::l).Perm (elems s)):i ∈ elems s∧l.Perm (elems (s - 2 ^ i)):=by
 have hi:i ∈ elems s:=h.mem_iff.1 (by simp)
 exact⟨hi,List.Perm.cons_inv (h.trans (z329 hs hi))⟩
theorem z912 {m:Nat} {F G:Mat} {S:List SpotT} (h:PlanB m F G S):∀ (l:List Nat) (p s:Nat),p<m→s<32→(∀ j ∈ elems s,j<S.length)→l.Perm (elems s)→reachL F S p l→(bestV F S 5 p s).1≤costL F S p l
 | [],p,s,_,hs,_,hl,_=>by
  have h0:s=0:=z46 s hs (by rw [← hl.length_eq];rfl)
  subst h0
  rw [bestV,if_pos rfl]
  exact Int.le_refl _
 | i::l,p,s,hp,hs,hS,hl,hr=>by
  obtain⟨hi,hl2⟩:=z234 hs hl
  rw [reachL] at hr
  obtain⟨u1,u2,u3⟩:=z25 hs hi
  have ih:=z912 h l (nextP S i) (s - 2 ^ i) (z167 h.nice.spots (hS i hi)) u1 (fun j hj=>hS j (u3 j hj)) hl2 hr.2
  have h0:s≠0:=fun h0=>by subst h0;rw [z30] at hi;simp at hi
  have hle:(bestV F S 5 p s).1≤firstV F S p s i:=by
   rcases z291 h hp hs hS h0 with ⟨h1,h2⟩ | ⟨k,_,_,h2,_,h4,_⟩
   ·rw [h1];exact h2 i hi hr.1
   ·rw [h2];exact h4 i hi hr.1
  rw [costL,z348 hl]
  rw [firstV] at hle
  omega
def orderV (F:Mat) (S:List SpotT):Nat→Nat→Nat→List Nat
 | 0,_,_=>[]
 | f + 1,p,s=>if s=0 then [] else (bestV F S 5 p s).2.toNat::orderV F S f (nextP S (bestV F S 5 p s).2.toNat) (s - 2 ^ (bestV F S 5 p s).2.toNat)
def earlierB:List Nat→List Nat→Bool
 | a::l,b::k=>if a=b then earlierB l k else decide (a<b)
 | _,_=>false
theorem z150 {m:Nat} {F G:Mat} {S:List SpotT} (h:PlanB m F G S):∀ (f p s:Nat),p<m→s<32→(∀ j ∈ elems s,j<S.length)→(elems s).length≤f→(bestV F S 5 p s).1<farW →
  (orderV F S f p s).Perm (elems s)∧reachL F S p (orderV F S f p s)∧costL F S p (orderV F S f p s)=(bestV F S 5 p s).1 ∧
   ∀ l:List Nat,l.Perm (elems s)→reachL F S p l→costL F S p l=(bestV F S 5 p s).1→earlierB l (orderV F S f p s)=false
 | 0,p,s,_,hs,_,hf,_=>by
  have h0:s=0:=z46 s hs (by omega)
  subst h0
  refine⟨by rw [orderV,z30],trivial,by rw [orderV,costL,bestV,if_pos rfl],fun l hl _ _=>?_⟩
  rw [z30,List.perm_nil] at hl
  rw [hl,orderV];rfl
 | f + 1,p,s,hp,hs,hS,hf,hc=>by
  by_cases h0:s=0
  ·subst h0
   refine⟨by rw [orderV,if_pos rfl,z30],by rw [orderV,if_pos rfl];trivial,by rw [orderV,if_pos rfl,costL,bestV,if_pos rfl],fun l hl _ _=>?_⟩
   rw [z30,List.perm_nil] at hl
   rw [hl,orderV,if_pos rfl];rfl
  ·rcases z291 h hp hs hS h0 with ⟨h1,h2⟩ | ⟨i,hi,hfi,h2,h3,h4,h5⟩
   ·rw [h1] at hc;exact absurd hc (Int.lt_irrefl _)
   ·obtain⟨u1,u2,u3⟩:=z25 hs hi
    have hnl:=z167 h.nice.spots (hS i hi)
    have hrg:=z133 h.nice 5 (nextP S i) (s - 2 ^ i) hnl u1 (fun j hj=>hS j (u3 j hj))
    have hsum:=z231 h (elems s) hS
    have hse:=z1158 h (hS i hi)
    have hm:=h.mat p (nextP S i)
    have hpos:0≤(F p (nextP S i) + (spotAt S i).se) * sumW S (elems s):=Int.mul_nonneg (by omega) hsum.1
    have hrest:(bestV F S 5 (nextP S i) (s - 2 ^ i)).1<farW:=by rw [firstV] at h3;omega
    obtain⟨g1,g2,g3,g4⟩:=z150 h f (nextP S i) (s - 2 ^ i) hnl u1 (fun j hj=>hS j (u3 j hj)) (by omega) hrest
    have eo:orderV F S (f + 1) p s=i::orderV F S f (nextP S i) (s - 2 ^ i):=by rw [orderV,if_neg h0,h2];rfl
    have hperm:(i::orderV F S f (nextP S i) (s - 2 ^ i)).Perm (elems s):=(List.Perm.cons i g1).trans (z329 hs hi).symm
    rw [eo,h2]
    refine⟨hperm,⟨hfi,g2⟩,?_,fun l hl hr hcl=>?_⟩
    ·rw [costL,z348 hperm,g3,firstV]
    ·cases l with
     | nil=>rfl
     | cons j k =>
      obtain⟨hj,hk⟩:=z234 hs hl
      rw [reachL] at hr
      obtain⟨v1,v2,v3⟩:=z25 hs hj
      have hle:=z912 h k (nextP S j) (s - 2 ^ j) (z167 h.nice.spots (hS j hj)) v1 (fun x hx=>hS x (v3 x hx)) hk hr.2
      rw [costL,z348 hl] at hcl
      dsimp only at hcl
      rw [earlierB]
      by_cases hji:j=i
      ·subst hji
       rw [if_pos rfl]
       refine g4 k hk hr.2 ?_
       rw [firstV] at hcl
       omega
      ·rw [if_neg hji]
       apply decide_eq_false
       intro hlt
       have:=h5 j hj hlt hr.1
       have e:firstV F S p s j=(F p (nextP S j) + (spotAt S j).se) * sumW S (elems s) + (bestV F S 5 (nextP S j) (s - 2 ^ j)).1:=rfl
       omega
end Go.Ab
namespace Go.Ab
open Go.RowKit Go.Proofs
set_option maxHeartbeats 2000000
def ordersL:Nat→Nat→List (List Nat)
 | 0,_=>[[]]
 | f + 1,s=>if s=0 then [[]] else (elems s).flatMap fun i=>(ordersL f (s - 2 ^ i)).map (i::·)
theorem z95:∀ (f s:Nat),s<32→(elems s).length≤f→∀ l:List Nat,l ∈ ordersL f s↔l.Perm (elems s)
 | 0,s,hs,hf,l=>by
  have h0:s=0:=z46 s hs (by omega)
  subst h0
  rw [ordersL,z30,List.perm_nil]
  simp
 | f + 1,s,hs,hf,l=>by
  rw [ordersL]
  by_cases h0:s=0
  ·subst h0
   rw [if_pos rfl,z30,List.perm_nil]
   simp
  ·rw [if_neg h0,List.mem_flatMap]
   constructor
   ·rintro⟨i,hi,hl⟩
    obtain⟨k,hk,rfl⟩:=List.mem_map.1 hl
    obtain⟨u1,u2,_⟩:=z25 hs hi
    exact (List.Perm.cons i ((z95 f (s - 2 ^ i) u1 (by omega) k).1 hk)).trans (z329 hs hi).symm
   ·intro hl
    cases l with
    | nil =>
     have:=hl.length_eq
     have h1:=z46 s hs (by rw [← this];rfl)
     exact absurd h1 h0
    | cons i k =>
     obtain⟨hi,hk⟩:=z234 hs hl
     obtain⟨u1,u2,_⟩:=z25 hs hi
     exact⟨i,hi,List.mem_map.2 ⟨k,(z95 f (s - 2 ^ i) u1 (by omega) k).2 hk,rfl⟩⟩
theorem z471:∀ (f s:Nat),(ordersL f s).Pairwise (fun a b=>earlierB a b=true)
 | 0,s=>by rw [ordersL];exact List.pairwise_singleton _ _
 | f + 1,s=>by
  rw [ordersL]
  by_cases h0:s=0
  ·rw [if_pos h0];exact List.pairwise_singleton _ _
  ·rw [if_neg h0,List.pairwise_flatMap]
   refine⟨fun i _=>?_,?_⟩
   ·rw [List.pairwise_map]
    refine (z471 f (s - 2 ^ i)).imp ?_
    intro a b h
    rw [earlierB,if_pos rfl]
    exact h
   ·refine (z195 s).imp ?_
    intro i j hij x hx y hy
    obtain⟨a,_,rfl⟩:=List.mem_map.1 hx
    obtain⟨b,_,rfl⟩:=List.mem_map.1 hy
    rw [earlierB,if_neg (by omega)]
    exact decide_eq_true hij
def bestStep (c:List Nat→Int) (a:List Nat × Int) (l:List Nat):List Nat × Int:=if c l<a.2 then (l,c l) else a
theorem z933 (c:List Nat→Int):∀ (L:List (List Nat)) (a:List Nat × Int),(L.foldl (bestStep c) a=a∧∀ l ∈ L,a.2≤c l) ∨
  ∃ L1 l L2,L=L1++l::L2∧L.foldl (bestStep c) a=(l,c l)∧c l<a.2∧(∀ x ∈ L1,c l<c x)∧∀ x ∈ L2,c l≤c x
 | [],a=>.inl ⟨rfl,fun l hl=>by simp at hl⟩
 | x::L,a=>by
  have ih:=z933 c L (bestStep c a x)
  rw [List.foldl_cons]
  by_cases h:c x<a.2
  ·have e:bestStep c a x=(x,c x):=by rw [bestStep,if_pos h]
   rw [e] at ih ⊢
   dsimp only at ih
   rcases ih with ⟨h1,h2⟩ | ⟨L1,l,L2,rfl,h2,h3,h4,h5⟩
   ·exact .inr ⟨[],x,L,rfl,h1,h,fun y hy=>by simp at hy,h2⟩
   ·refine .inr ⟨x::L1,l,L2,rfl,h2,by omega,fun y hy=>?_,h5⟩
    rcases List.mem_cons.1 hy with rfl | hy
    ·exact h3
    ·exact h4 y hy
  ·have e:bestStep c a x=a:=by rw [bestStep,if_neg h]
   rw [e] at ih ⊢
   rcases ih with ⟨h1,h2⟩ | ⟨L1,l,L2,rfl,h2,h3,h4,h5⟩
   ·refine .inl ⟨h1,fun y hy=>?_⟩
    rcases List.mem_cons.1 hy with rfl | hy
    ·omega
    ·exact h2 y hy
   ·refine .inr ⟨x::L1,l,L2,rfl,h2,h3,fun y hy=>?_,h5⟩
    rcases List.mem_cons.1 hy with rfl | hy
    ·omega
    ·exact h4 y hy
def bestD (G:Mat) (S:List SpotT) (b s:Nat):List Nat × Int:=(ordersL 5 s).foldl (bestStep fun l=>(costF G S b 0 0 l).1) ([],neverW)
theorem z1153 {m:Nat} {F G:Mat} {S:List SpotT} (h:PlanB m F G S) {p s:Nat} (hp:p<m) (hs:s<32) (hS:∀ j ∈ elems s,j<S.length) :
  bestD G S p s=if (bestV F S 5 p s).1<farW then (orderV F S 5 p s,(bestV F S 5 p s).1) else ([],neverW):=by
 have hlen:=z19 s hs
 have hmem:=z95 5 s hs hlen
 have hlex:=z471 5 s
 have hcost:∀ l ∈ ordersL 5 s,(reachL F S p l∧(costF G S p 0 0 l).1=costL F S p l∧costL F S p l<neverW)∨(¬ reachL F S p l∧(costF G S p 0 0 l).1=neverW):=by
  intro l hl
  have hp:=(hmem l).1 hl
  rcases z908 h (l:=l) (fun i hi=>hS i (hp.mem_iff.1 hi)) (by rw [hp.length_eq];exact hlen) p with ⟨h1,h2,h3,_⟩ | ⟨h1,h2⟩
  ·exact .inl ⟨h1,by rw [h2],h3⟩
  ·exact .inr ⟨h1,by rw [h2]⟩
 rw [bestD]
 rcases z933 (fun l=>(costF G S p 0 0 l).1) (ordersL 5 s) ([],neverW) with ⟨h1,h2⟩ | ⟨L1,l,L2,hL,h2,h3,h4,h5⟩
 ·rw [h1,if_neg]
  intro hc
  obtain⟨o1,o2,o3,_⟩:=z150 h 5 p s hp hs hS hlen hc
  have hm:=(hmem _).2 o1
  have g1:=h2 _ hm
  rcases hcost _ hm with ⟨_,c2,c3⟩ | ⟨c1,_⟩
  ·rw [c2] at g1;exact absurd c3 (by dsimp only at g1;omega)
  ·exact c1 o2
 ·have hml:l ∈ ordersL 5 s:=by rw [hL];simp
  dsimp only at h3
  rcases hcost l hml with ⟨c1,c2,c3⟩ | ⟨_,c2⟩
  ·have hle:=z912 h l p s hp hs hS ((hmem l).1 hml) c1
   have hnw:neverW=1073741824:=rfl
   have hfw:farW=1099511627776:=rfl
   have hc:(bestV F S 5 p s).1<farW:=by omega
   obtain⟨o1,o2,o3,o4⟩:=z150 h 5 p s hp hs hS hlen hc
   have hm:=(hmem _).2 o1
   have oc:(costF G S p 0 0 (orderV F S 5 p s)).1=(bestV F S 5 p s).1:=by
    rcases hcost _ hm with ⟨_,d2,_⟩ | ⟨d1,_⟩
    ·rw [d2,o3]
    ·exact absurd o2 d1
   rw [h2,if_pos hc,c2]
   have hno:costL F S p l=(bestV F S 5 p s).1∧l=orderV F S 5 p s:=by
    rw [hL] at hm
    rcases List.mem_append.1 hm with hm | hm
    ·have:=h4 _ hm
     rw [oc,c2] at this
     omega
    ·rcases List.mem_cons.1 hm with hm | hm
     ·rw [hm] at oc
      exact⟨by rw [← c2];exact oc,hm.symm⟩
     ·have h6:=h5 _ hm
      rw [oc,c2] at h6
      have e:costL F S p l=(bestV F S 5 p s).1:=by omega
      rw [hL,List.pairwise_append] at hlex
      have:=(List.pairwise_cons.1 hlex.2.1).1 _ hm
      rw [o4 l ((hmem l).1 hml) c1 e] at this
      cases this
   rw [hno.1,hno.2]
  ·rw [c2] at h3;exact absurd h3 (Int.lt_irrefl _)
theorem z932 {m:Nat} {F G:Mat} {S:List SpotT} (h:PlanB m F G S):∀ (f p s:Nat) (M:MemB),p<m→s<32→(∀ j ∈ elems s,j<S.length)→(elems s).length≤f→SoundB F S M→(bestV F S 5 p s).1<farW →
  (orderM F S f p s M).1=(orderV F S f p s).map (fun (i:Nat)=>(i:Int))∧SoundB F S (orderM F S f p s M).2
 | 0,p,s,M,_,_,_,_,hM,_=>⟨rfl,hM⟩
 | f + 1,p,s,M,hp,hs,hS,hf,hM,hc=>by
  rw [orderM,orderV]
  by_cases h0:s=0
  ·rw [if_pos h0,if_pos h0];exact⟨rfl,hM⟩
  ·rw [if_neg h0,if_neg h0]
   obtain⟨b1,b2⟩:=z156 (F:=F) (S:=S) 5 p s M hs (z19 s hs) (Nat.le_refl _) hM
   rw [b1]
   rcases z291 h hp hs hS h0 with ⟨h1,h2⟩ | ⟨i,hi,hfi,h2,h3,_,_⟩
   ·rw [h1] at hc;exact absurd hc (Int.lt_irrefl _)
   ·obtain⟨u1,u2,u3⟩:=z25 hs hi
    have hse:=z1158 h (hS i hi)
    have hm:=h.mat p (nextP S i)
    have hsum:=z231 h (elems s) hS
    have hpos:0≤(F p (nextP S i) + (spotAt S i).se) * sumW S (elems s):=Int.mul_nonneg (by omega) hsum.1
    have ih:=z932 h f (nextP S i) (s - 2 ^ i) (bestM F S 5 p s M).2 (z167 h.nice.spots (hS i hi)) u1 (fun j hj=>hS j (u3 j hj)) (by omega) b2 (by rw [firstV] at h3;omega)
    rw [h2]
    dsimp only
    rw [Int.toNat_natCast,ih.1,List.map_cons]
    exact⟨rfl,ih.2⟩
end Go.Ab
namespace Go.Ab
open Go.RowKit Go.Proofs
set_option maxHeartbeats 2000000
def setOf (l:List Nat):Nat:=l.foldr (fun i s=>s ||| 2 ^ i) 0
theorem z906 (s:Nat):(elems s).Nodup:=List.Pairwise.filter _ List.nodup_range
theorem z380:∀ s:Nat,s<32→∀ k:Nat,k≤5→s<2 ^ k→∀ i ∈ elems s,i<k:=by decide +kernel
def doneV (F:Mat) (S:List SpotT) (b:Nat):Nat→Nat→Nat→Int
 | 0,_,_=>0
 | f + 1,s,last=>if s - 2 ^ last=0 then minW F S b last else (elems (s - 2 ^ last)).foldl (fun a i=>min a (wr (doneV F S b f (s - 2 ^ last) i + minW F S (nextP S i) last))) farW
theorem z498 {F:Mat} {S:List SpotT} {b:Nat}:∀ (f g s i:Nat),s<32→i ∈ elems s→(elems s).length≤f→(elems s).length≤g→doneV F S b f s i=doneV F S b g s i
 | 0,_,s,i,hs,hi,hf,_=>by rw [z46 s hs (by omega),z30] at hi;simp at hi
 | f + 1,0,s,i,hs,hi,_,hg=>by rw [z46 s hs (by omega),z30] at hi;simp at hi
 | f + 1,g + 1,s,i,hs,hi,hf,hg=>by
  rw [doneV,doneV]
  by_cases h0:s - 2 ^ i=0
  ·rw [if_pos h0,if_pos h0]
  ·rw [if_neg h0,if_neg h0]
   refine z137 _ _ fun a j hj=>?_
   obtain⟨u1,u2,_⟩:=z25 hs hi
   rw [z498 f g (s - 2 ^ i) j u1 hj (by omega) (by omega)]
def lastP (S:List SpotT):Nat→List Nat→Nat
 | p,[]=>p
 | _,i::l=>lastP S (nextP S i) l
theorem z206 (S:List SpotT):∀ (l:List Nat) (p i:Nat),lastP S p (l++[i])=nextP S i
 | [],_,_=>rfl
 | _::l,_,i=>z206 S l _ i
theorem z268 (F:Mat) (S:List SpotT):∀ (l:List Nat) (p i:Nat),reachL F S p (l++[i])↔reachL F S p l∧F (lastP S p l) (nextP S i)<farW
 | [],p,i=>by simp [reachL,lastP]
 | j::l,p,i=>by
  rw [List.cons_append,reachL,reachL,lastP,z268 F S l,and_assoc]
theorem z328 (F:Mat) (S:List SpotT):∀ (l:List Nat) (p i:Nat),endL F S p (l++[i])=endL F S p l + (F (lastP S p l) (nextP S i) + (spotAt S i).se)
 | [],p,i=>by simp [endL,lastP]
 | j::l,p,i=>by
  rw [List.cons_append,endL,endL,lastP,z328 F S l]
  omega
theorem z703 {m:Nat} {F G:Mat} {S:List SpotT} (h:PlanB m F G S) (p:Nat) {i:Nat} (hi:i<S.length):minW F S p i=F p (nextP S i) + (spotAt S i).se:=by
 have hfw:farW=1099511627776:=rfl
 have h2:=z1158 h hi
 have h3:=h.mat p (nextP S i)
 rw [minW]
 exact z9 (by rw [← nextP];omega)
theorem z326 (g:Nat→Int):∀ (l:List Nat) (a:Int),(l.foldl (fun a i=>min a (g i)) a≤a∧∀ i ∈ l,l.foldl (fun a i=>min a (g i)) a≤g i)∧(l.foldl (fun a i=>min a (g i)) a=a∨∃ i ∈ l,l.foldl (fun a i=>min a (g i)) a=g i)
 | [],a=>⟨⟨Int.le_refl _,fun i hi=>by simp at hi⟩,.inl rfl⟩
 | x::l,a=>by
  obtain⟨⟨h1,h2⟩,h3⟩:=z326 g l (min a (g x))
  rw [List.foldl_cons]
  refine⟨⟨by omega,fun i hi=>?_⟩,?_⟩
  ·rcases List.mem_cons.1 hi with rfl | hi
   ·omega
   ·exact h2 i hi
  ·rcases h3 with h3 | ⟨i,hi,h3⟩
   ·by_cases hc:a≤g x
    ·exact .inl (by omega)
    ·exact .inr ⟨x,by simp,by omega⟩
   ·exact .inr ⟨i,by simp [hi],h3⟩
theorem z289 {m:Nat} {F G:Mat} {S:List SpotT} (h:PlanB m F G S) (b:Nat):∀ (f s i:Nat),s<32→(∀ j ∈ elems s,j<S.length)→i ∈ elems s→0≤doneV F S b f s i∧doneV F S b f s i≤2199023255552
 | 0,_,_,_,_,_=>⟨Int.le_refl _,by rw [doneV];decide⟩
 | f + 1,s,i,hs,hS,hi=>by
  have hfw:farW=1099511627776:=rfl
  have h2:=z1158 h (hS i hi)
  rw [doneV]
  by_cases h0:s - 2 ^ i=0
  ·rw [if_pos h0,z703 h b (hS i hi)]
   have h3:=h.mat b (nextP S i)
   omega
  ·rw [if_neg h0]
   obtain⟨u1,u2,u3⟩:=z25 hs hi
   obtain⟨⟨g1,_⟩,g3⟩:=z326 (fun j=>wr (doneV F S b f (s - 2 ^ i) j + minW F S (nextP S j) i)) (elems (s - 2 ^ i)) farW
   refine⟨?_,by omega⟩
   rcases g3 with g3 | ⟨j,hj,g3⟩
   ·rw [g3];decide
   ·have ih:=z289 h b f (s - 2 ^ i) j u1 (fun x hx=>hS x (u3 x hx)) hj
    have h3:=h.mat (nextP S j) (nextP S i)
    rw [g3,z703 h _ (hS i hi)]
    have e:wr (doneV F S b f (s - 2 ^ i) j + (F (nextP S j) (nextP S i) + (spotAt S i).se))=doneV F S b f (s - 2 ^ i) j + (F (nextP S j) (nextP S i) + (spotAt S i).se):=z9 (by omega)
    rw [e]
    omega
theorem z1144 {m:Nat} {F G:Mat} {S:List SpotT} (h:PlanB m F G S) (b:Nat) {f s i j:Nat} (hs:s<32) (hS:∀ j ∈ elems s,j<S.length) (hi:i ∈ elems s) (hj:j ∈ elems (s - 2 ^ i)) :
  wr (doneV F S b f (s - 2 ^ i) j + minW F S (nextP S j) i)=doneV F S b f (s - 2 ^ i) j + (F (nextP S j) (nextP S i) + (spotAt S i).se):=by
 have hfw:farW=1099511627776:=rfl
 obtain⟨u1,u2,u3⟩:=z25 hs hi
 have h2:=z1158 h (hS i hi)
 have ih:=z289 h b f (s - 2 ^ i) j u1 (fun x hx=>hS x (u3 x hx)) hj
 have h3:=h.mat (nextP S j) (nextP S i)
 rw [z703 h _ (hS i hi)]
 exact z9 (by omega)
theorem z358 {s i:Nat} {l:List Nat} (hs:s<32) (h:(l++[i]).Perm (elems s)):i ∈ elems s∧l.Perm (elems (s - 2 ^ i)):=by
 have h1:(i::l).Perm (elems s):=(List.perm_append_comm (l₁:=[i]) (l₂:=l)).trans h
 exact z234 hs h1
theorem z1143 {m:Nat} {F G:Mat} {S:List SpotT} (h:PlanB m F G S) (b:Nat):∀ (f s i:Nat) (l:List Nat),s<32→(∀ j ∈ elems s,j<S.length)→(elems s).length≤f→(l++[i]).Perm (elems s)→reachL F S b (l++[i])→doneV F S b f s i≤endL F S b (l++[i])
 | 0,s,i,l,hs,_,hf,hl,_=>by
  have:=hl.length_eq
  simp at this
  omega
 | f + 1,s,i,l,hs,hS,hf,hl,hr=>by
  obtain⟨hi,hk⟩:=z358 hs hl
  obtain⟨u1,u2,u3⟩:=z25 hs hi
  rw [doneV]
  rw [z268] at hr
  by_cases h0:s - 2 ^ i=0
  ·rw [h0,z30,List.perm_nil] at hk
   subst hk
   rw [if_pos h0,z703 h b (hS i hi),z328]
   simp [endL,lastP]
  ·rw [if_neg h0]
   rcases List.eq_nil_or_concat l with rfl | ⟨k,j,rfl⟩
   ·have:=hk.length_eq
    exact absurd (z46 _ u1 (by rw [← this];rfl)) h0
   ·rw [List.concat_eq_append] at *
    obtain⟨hj,_⟩:=z358 u1 hk
    have ih:=z1143 h b f (s - 2 ^ i) j k u1 (fun x hx=>hS x (u3 x hx)) (by omega) hk hr.1
    have g2:=(z326 (fun j=>wr (doneV F S b f (s - 2 ^ i) j + minW F S (nextP S j) i)) (elems (s - 2 ^ i)) farW).1.2 j hj
    rw [z1144 h b hs hS hi hj] at g2
    rw [z328,z206]
    omega
theorem z943 {m:Nat} {F G:Mat} {S:List SpotT} (h:PlanB m F G S) (b:Nat):∀ (f s i:Nat),s<32→(∀ j ∈ elems s,j<S.length)→(elems s).length≤f→i ∈ elems s→doneV F S b f s i<farW→∃ l,(l++[i]).Perm (elems s)∧reachL F S b (l++[i])∧endL F S b (l++[i])=doneV F S b f s i
 | 0,s,i,hs,_,hf,hi,_=>by rw [z46 s hs (by omega),z30] at hi;simp at hi
 | f + 1,s,i,hs,hS,hf,hi,hd=>by
  obtain⟨u1,u2,u3⟩:=z25 hs hi
  have hse:=z1158 h (hS i hi)
  have hat:=z329 hs hi
  rw [doneV] at hd ⊢
  by_cases h0:s - 2 ^ i=0
  ·rw [if_pos h0,z703 h b (hS i hi)] at hd ⊢
   rw [h0,z30] at hat
   refine⟨[],hat.symm,?_,?_⟩
   ·exact⟨by omega,trivial⟩
   ·simp [endL]
  ·rw [if_neg h0] at hd ⊢
   have g3:=(z326 (fun j=>wr (doneV F S b f (s - 2 ^ i) j + minW F S (nextP S j) i)) (elems (s - 2 ^ i)) farW).2
   rcases g3 with g3 | ⟨j,hj,g3⟩
   ·rw [g3] at hd;exact absurd hd (Int.lt_irrefl _)
   ·rw [g3,z1144 h b hs hS hi hj] at hd ⊢
    have h3:=h.mat (nextP S j) (nextP S i)
    have hrg:=z289 h b f (s - 2 ^ i) j u1 (fun x hx=>hS x (u3 x hx)) hj
    obtain⟨l,l1,l2,l3⟩:=z943 h b f (s - 2 ^ i) j u1 (fun x hx=>hS x (u3 x hx)) (by omega) hj (by omega)
    refine⟨l++[j],?_,?_,?_⟩
    ·exact (List.perm_append_comm (l₁:=l++[j]) (l₂:=[i])).trans ((List.Perm.cons i l1).trans hat.symm)
    ·rw [z268,z206]
     exact⟨l2,by omega⟩
    ·rw [z328,z206,l3]
def byB (F:Mat) (S:List SpotT) (b:Nat) (mi:Int) (s:Nat):Bool:=(elems s).any fun i=>decide (doneV F S b 5 s i≤mi)
def mostV (F:Mat) (S:List SpotT) (b:Nat) (mi:Int):Int:=(List.range (fullN S + 1)).foldl (fun a s=>if byB F S b mi s then max a (weightW S s) else a) 0
theorem z1310 {m:Nat} {F G:Mat} {S:List SpotT} (h:PlanB m F G S) {b s:Nat} {mi:Int} (hm:mi<1073741824) (hs:s<32) (hS:∀ j ∈ elems s,j<S.length) (h0:s≠0) :
  byB F S b mi s=true↔∃ l,l.Perm (elems s)∧reachL F S b l∧endL F S b l≤mi:=by
 have hfw:farW=1099511627776:=rfl
 rw [byB,List.any_eq_true]
 constructor
 ·rintro⟨i,hi,hd⟩
  have hd:=of_decide_eq_true hd
  obtain⟨l,l1,l2,l3⟩:=z943 h b 5 s i hs hS (z19 s hs) hi (by omega)
  exact⟨_,l1,l2,by omega⟩
 ·rintro⟨l,l1,l2,l3⟩
  rcases List.eq_nil_or_concat l with rfl | ⟨k,i,rfl⟩
  ·exact absurd (z46 s hs (by rw [← l1.length_eq];rfl)) h0
  ·rw [List.concat_eq_append] at *
   have:=z1143 h b 5 s i k hs hS (z19 s hs) l1 l2
   exact⟨i,(z358 hs l1).1,decide_eq_true (by omega)⟩
end Go.Ab
namespace Go.Ab
open Go.RowKit Go.Proofs
set_option maxHeartbeats 2000000
def subs (s:Nat):List Nat:=((List.range (s + 1)).filter fun o=>o &&& s == o).reverse
def shareStep (F:Mat) (S:List SpotT) (rec:Nat→MemB→(Int × List Nat) × MemB) (b s:Nat) (a:(Int × List Nat) × MemB) (o:Nat):(Int × List Nat) × MemB :=
 (if wr ((bestM F S 5 b o a.2).1.1 + (rec (s - o) (bestM F S 5 b o a.2).2).1.1)<a.1.1 then (wr ((bestM F S 5 b o a.2).1.1 + (rec (s - o) (bestM F S 5 b o a.2).2).1.1),o::(rec (s - o) (bestM F S 5 b o a.2).2).1.2) else a.1,(rec (s - o) (bestM F S 5 b o a.2).2).2)
def shareM (F:Mat) (S:List SpotT):List Nat→Nat→MemB→(Int × List Nat) × MemB
 | [],_,m=>((farW,[]),m)
 | [b],s,m=>(((bestM F S 5 b s m).1.1,[s]),(bestM F S 5 b s m).2)
 | b::c::t,s,m=>(subs s).foldl (shareStep F S (shareM F S (c::t)) b s) ((farW,[]),(bestM F S 5 b s m).2)
def pureS (F:Mat) (S:List SpotT) (rec:Nat→Int × List Nat) (b s:Nat) (a:Int × List Nat) (o:Nat):Int × List Nat :=
 if wr ((bestV F S 5 b o).1 + (rec (s - o)).1)<a.1 then (wr ((bestV F S 5 b o).1 + (rec (s - o)).1),o::(rec (s - o)).2) else a
def shareV (F:Mat) (S:List SpotT):List Nat→Nat→Int × List Nat
 | [],_=>(farW,[])
 | [b],s=>((bestV F S 5 b s).1,[s])
 | b::c::t,s=>(subs s).foldl (pureS F S (shareV F S (c::t)) b s) (farW,[])
def PartS:List Nat→Nat→List Nat→Prop
 | [],_,_=>False
 | [_],s,xs=>xs=[s]
 | _::c::t,s,xs=>∃ o r,xs=o::r∧o &&& s=o∧PartS (c::t) (s - o) r
def sumV (F:Mat) (S:List SpotT):List Nat→List Nat→Int
 | b::bs,x::xs=>(bestV F S 5 b x).1 + sumV F S bs xs
 | _,_=>0
def shareD (G:Mat) (S:List SpotT):List Nat→Nat→Int
 | [],_=>neverW
 | [b],s=>(bestD G S b s).2
 | b::c::t,s=>(List.range (s + 1)).foldl (fun a o=>if o &&& s=o then min a (wr ((bestD G S b o).2 + shareD G S (c::t) (s - o))) else a) neverW
end Go.Ab
namespace Go.Ab
open Go.RowKit Go.Proofs
set_option maxHeartbeats 8000000
set_option maxRecDepth 20000
attribute [local irreducible] WalkL Walk
theorem z1285 (s n:Int) (hn:0≤n∧n<2 ^ 62):Fn Tryz.prog 37 [.i s,.i n] (.bool (hasB s n)):=by
 have e1:IntKind.u64.wrap n=n:=by
  have h1:=hn.1
  have h2:=hn.2
  simp only [IntKind.wrap,IntKind.bits,IntKind.signed,Bool.false_and,Bool.false_eq_true,if_false]
  omega
 have n1:¬ n<0:=by omega
 refine z10 11 Tryz.call37 Tryz.func37 rfl (by decide) fun J=>?_
 simp only [go_sem,St.start,Tryz.ntmps37,Tryz.results37]
 repeat (first|refine nx ?_|(refine z3 fun K hK=>?_;simp only [go_sem,e1,n1];apply hK;clear hK K))
 simp only [go_sem,hasB]
def natsI (l:List Nat):List Int:=l.map fun (i:Nat)=>(i:Int)
theorem z361 (l:List Nat):(natsI l).length=l.length:=by simp [natsI]
theorem z1208 {l:List Nat} {k i:Nat} (h:l[k]?=some i):(natsI l)[k]?=some (i:Int):=by simp [natsI,h]
theorem z1370 (m:Nat) (G:Mat) (S:List SpotT) (hS:SpotsOk m S) (p:Nat) (hp:p<m) (l:List Nat) (hl:∀ i ∈ l,i<S.length) (hll:l.length<2 ^ 30) :
  Fn Tryz.prog 39 [.sl (slRows (matM m G)),.i (p:Int),.sl (S.map SpotT.row),.sl (intRows (natsI l))] (.tup [.i (costF G S p 0 0 l).1,.i (costF G S p 0 0 l).2]):=by
 obtain⟨C,hC⟩:∃ C,C=costF G S p 0 0 l:=⟨_,rfl⟩
 rw [← hC]
 have hln:(intRows (natsI l)).length=l.length:=by rw [z14,z361]
 have hsl:(S.map SpotT.row).length=S.length:=by simp
 have l0:(slRows (matM m G)).length=m:=by simp [slRows,z26]
 refine z10 59 Tryz.call39 Tryz.func39 rfl (by decide) fun J=>?_
 simp only [go_sem,St.start,Tryz.ntmps39,Tryz.results39]
 repeat (first|refine nx ?_|(refine z3 fun K hK=>?_;simp only [go_sem];apply hK;clear hK K))
 refine z12 (fun (a:Nat × Nat × Int × Int)=>[(8,.d (.i a.2.2.1)),(9,.d (.i a.2.2.2)),(10,.d (.i (a.2.1:Int))),(11,.d (.i (a.1:Int))),(12,.undef)]) (fun _=>[])
  (fun a=>a.1≤l.length∧a.2.1<m∧C=costF G S a.2.1 a.2.2.1 a.2.2.2 (l.drop a.1)) (fun a=>l.length - a.1) (0,p,0,0) ?_ ⟨Nat.zero_le _,hp,by rw [hC];rfl⟩ ?_
 ·simp only [go_sem]
  refine weA ?_ ?_ <;> simp
 ·rintro⟨k,q,c,e⟩ ⟨hk,hq,hCe⟩
  dsimp only at hk hq hCe
  simp only [go_sem]
  repeat (first|refine nx ?_|(refine z3 fun K hK=>?_;simp only [go_sem,hln];apply hK;clear hK K))
  refine z4 rfl (fun hb=>?_) (fun hb=>?_)
  ·have hlt:k<l.length:=by simpa using hb
   have hw:IntKind.i64.wrap ((k:Int) + 1)=((k + 1:Nat):Int):=by rw [z9 (by omega)];simp
   obtain⟨i,hi⟩:∃ i,l[k]?=some i:=⟨_,List.getElem?_eq_getElem hlt⟩
   have him:=hl i (List.mem_of_getElem? hi)
   rw [z86 hi,costF] at hCe
   have hpl:=hS.pl (spotAt S i) (List.mem_of_getElem? (z65 him))
   have hqe:(spotAt S i).pl=(nextP S i:Int):=by rw [nextP];omega
   have hqm:nextP S i<m:=by omega
   have g0:(S.map SpotT.row)[i]?=some [.i (nextP S i:Int),.i (spotAt S i).wt,.i (spotAt S i).se]:=by rw [← hqe,List.getElem?_map,z65 him];rfl
   have g1:=z208 (z1208 hi)
   have g2:=z162 (z58 (F:=G) hq)
   have g3:=z33 (z51 (F:=G) (a:=q) hqm)
   have l2:nextP S i<(intRows (rowM m G q)).length:=by rw [z14,z75];exact hqm
   have n1:¬ ((q:Int)<0):=by omega
   have n2:¬ ((nextP S i:Int)<0):=by omega
   have n3:¬ ((i:Int)<0):=by omega
   have n4:¬ ((k:Int)<0):=by omega
   obtain⟨u,hu⟩:∃ u,u=nextP S i:=⟨_,rfl⟩
   rw [← hu] at hCe hqm g0 g3 l2 n2
   repeat (first|refine nx ?_|(refine z3 fun K hK=>?_;simp only [go_sem,g0,g1,n3,n4,hlt,him,hln,hsl];apply hK;clear hK K))
   by_cases hn:G q u ≥ neverW
   ·rw [if_pos hn] at hCe
    have hd:decide (G q u ≥ 1073741824)=true:=by simpa [neverW] using hn
    refine z7 (by kernel_rfl) (by kernel_rfl) fun K hK=>?_
    simp only [go_sem,g2,g3,l0,l2,n1,n2,hq,hd]
    refine⟨by kernel_rfl,hK _ ?_⟩
    clear hK K
    refine z8 rfl ?_
    repeat (first|refine nx ?_|(refine z3 fun K hK=>?_;simp only [go_sem];apply hK;clear hK K))
    simp only [go_sem,hCe,neverW]
   ·rw [if_neg hn] at hCe
    have hd:decide (G q u ≥ 1073741824)=false:=by simpa [neverW] using hn
    refine z7 (by kernel_rfl) (by kernel_rfl) fun K hK=>?_
    simp only [go_sem,g2,g3,l0,l2,n1,n2,hq,hd]
    refine⟨by kernel_rfl,hK _ ?_⟩
    clear hK K
    refine z5 rfl ?_
    repeat (first|refine nx ?_|(refine z3 fun K hK=>?_;simp only [go_sem];apply hK;clear hK K))
    refine z7 (by kernel_rfl) (by kernel_rfl) fun K hK=>?_
    simp only [go_sem,g2,g3,l0,l2,n1,n2,hq]
    refine⟨by kernel_rfl,hK _ ?_⟩
    clear hK K
    repeat (first|refine nx ?_|(refine z3 fun K hK=>?_;simp only [go_sem,hw];apply hK;clear hK K))
    rw [wr,wr,wr,wr] at hCe
    refine⟨rfl,(k + 1,u,IntKind.i64.wrap (c + IntKind.i64.wrap ((spotAt S i).wt * IntKind.i64.wrap (e + IntKind.i64.wrap (G q u + (spotAt S i).se)))),IntKind.i64.wrap (e + IntKind.i64.wrap (G q u + (spotAt S i).se))),?_,⟨hlt,hqm,hCe⟩,by dsimp only;omega⟩
    simp only [go_sem]
    refine weA ?_ ?_ <;> simp
  ·have he:k=l.length:=by (have:¬ k<l.length:=by simpa using hb);omega
   subst he
   rw [List.drop_length,costF] at hCe
   repeat (first|refine nx ?_|(refine z3 fun K hK=>?_;simp only [go_sem];apply hK;clear hK K))
   simp only [go_sem,hCe]
def ordRows (L:List (List Nat)):List (List DV):=slRows (L.map natsI)
def eleTo (s i:Nat):List Nat:=(List.range i).filter fun j=>s.testBit j
theorem z1135:∀ s:Nat,s<32→∀ i:Nat,i<8→hasB (s:Int) (i:Int)=s.testBit i:=by decide +kernel
theorem z1247:∀ s:Nat,s<32→∀ i:Nat,i<8→s.testBit i=true→i<5∧i ∈ elems s∧IntKind.i64.wrap ((s:Int) - bShl .i64 1 (i:Int))=((s - 2 ^ i:Nat):Int):=by decide +kernel
theorem z1333:∀ i:Nat,i<8→IntKind.u64.wrap (i:Int)=(i:Int):=by decide
theorem z1278:∀ s:Nat,s<32→eleTo s 8=elems s:=by decide +kernel
theorem z330 (s i:Nat):eleTo s (i + 1)=eleTo s i++if s.testBit i then [i] else []:=by
 rw [eleTo,eleTo,List.range_succ,List.filter_append]
 congr 1
 by_cases h:s.testBit i <;> simp [h]
theorem z1030 (i:Nat) (l:List Nat):natsI (i::l)=(i:Int)::natsI l:=rfl
theorem z565 (x:Int) (l:List Int):intRows (x::l)=[DV.i x]::intRows l:=rfl
theorem z691 (L:List (List Nat)) (l:List Nat):ordRows (L++[l])=ordRows L++[[.sl (intRows (natsI l))]]:=by simp [ordRows,slRows]
theorem z271 {L:List (List Nat)} {k:Nat} {l:List Nat} (h:L[k]?=some l):(ordRows L)[k]?=some [.sl (intRows (natsI l))]:=by simp [ordRows,slRows,h]
theorem z165 (L:List (List Nat)):(ordRows L).length=L.length:=by simp [ordRows,slRows]
theorem z135:∀ s:Nat,s<32→(ordersL 5 s).length≤120∧(ordersL 5 s).all (fun l=>decide (l.length≤5))=true:=by decide +kernel
theorem z218:∀ (f g s:Nat),s<32→(elems s).length≤f→(elems s).length≤g→ordersL f s=ordersL g s
 | 0,g,s,hs,hf,_=>by
  have h0:s=0:=z46 s hs (by omega)
  subst h0
  cases g
  ·rfl
  ·rw [ordersL,ordersL,if_pos rfl]
 | f + 1,0,s,hs,_,hg=>by
  have h0:s=0:=z46 s hs (by omega)
  subst h0
  rw [ordersL,ordersL,if_pos rfl]
 | f + 1,g + 1,s,hs,hf,hg=>by
  rw [ordersL,ordersL]
  by_cases h0:s=0
  ·rw [if_pos h0,if_pos h0]
  ·rw [if_neg h0,if_neg h0]
   have key:∀ l:List Nat,(∀ i ∈ l,i ∈ elems s)→(l.flatMap fun i=>(ordersL f (s - 2 ^ i)).map (i::·))=l.flatMap fun i=>(ordersL g (s - 2 ^ i)).map (i::·):=by
    intro l
    induction l with
    | nil=>intro _;rfl
    | cons i l ih =>
     intro hl
     obtain⟨u1,u2,_⟩:=z25 hs (hl i (by simp))
     rw [List.flatMap_cons,List.flatMap_cons,ih fun j hj=>hl j (by simp [hj]),z218 f g (s - 2 ^ i) u1 (by omega) (by omega)]
   exact key _ fun i hi=>hi
end Go.Ab
namespace Go.Ab
open Go.RowKit Go.Proofs
set_option maxHeartbeats 8000000
set_option maxRecDepth 20000
attribute [local irreducible] WalkL Walk
theorem z1371:∀ (f s:Nat),s<32→(elems s).length≤f→Fn Tryz.prog 38 [.i (s:Int)] (.sl (ordRows (ordersL f s))):=by
 intro f
 induction f with
 | zero =>
  intro s hs hf
  have h0:s=0:=z46 s hs (by omega)
  subst h0
  rw [ordersL]
  refine z10 41 Tryz.call38 Tryz.func38 rfl (by decide) fun J=>?_
  simp only [go_sem,St.start,Tryz.ntmps38,Tryz.results38]
  repeat (first|refine nx ?_|(refine z3 fun K hK=>?_;simp only [go_sem];apply hK;clear hK K))
  refine z8 (by rfl) ?_
  repeat (first|refine nx ?_|(refine z3 fun K hK=>?_;simp only [go_sem];apply hK;clear hK K))
  simp only [go_sem,ordRows,slRows,natsI,intRows,List.map_cons,List.map_nil]
 | succ f ih =>
  intro s hs hf
  by_cases h0:s=0
  ·subst h0
   rw [ordersL,if_pos rfl]
   refine z10 41 Tryz.call38 Tryz.func38 rfl (by decide) fun J=>?_
   simp only [go_sem,St.start,Tryz.ntmps38,Tryz.results38]
   repeat (first|refine nx ?_|(refine z3 fun K hK=>?_;simp only [go_sem];apply hK;clear hK K))
   refine z8 (by rfl) ?_
   repeat (first|refine nx ?_|(refine z3 fun K hK=>?_;simp only [go_sem];apply hK;clear hK K))
   simp only [go_sem,ordRows,slRows,natsI,intRows,List.map_cons,List.map_nil]
  ·have q0:((s:Int) == 0)=false:=by simp;omega
   have h98:=fun (i:Nat) (hi:i<8)=>z1285 (s:Int) (i:Int) ⟨by omega,by omega⟩
   have hall:ordersL (f + 1) s=(eleTo s 8).flatMap fun i=>(ordersL f (s - 2 ^ i)).map (i::·):=by rw [ordersL,if_neg h0,z1278 s hs]
   have hbig:∀ k,k≤8→((eleTo s k).flatMap fun i=>(ordersL f (s - 2 ^ i)).map (i::·)).length≤120:=fun k hk=>by
    have h1:=(z135 s hs).1
    rw [z218 5 (f + 1) s hs (z19 s hs) hf,hall] at h1
    obtain⟨d,hd⟩:∃ d,8=k + d:=⟨8 - k,by omega⟩
    rw [hd,eleTo,List.range_add,List.filter_append,← eleTo,List.flatMap_append,List.length_append] at h1
    omega
   rw [hall]
   obtain⟨g,hg⟩:∃ g,g=fun i=>(ordersL f (s - 2 ^ i)).map (i::·):=⟨_,rfl⟩
   rw [← hg] at hbig ⊢
   refine z10 41 Tryz.call38 Tryz.func38 rfl (by decide) fun J=>?_
   simp only [go_sem,St.start,Tryz.ntmps38,Tryz.results38]
   repeat (first|refine nx ?_|(refine z3 fun K hK=>?_;simp only [go_sem,q0];apply hK;clear hK K))
   refine z5 rfl ?_
   repeat (first|refine nx ?_|(refine z3 fun K hK=>?_;simp only [go_sem];apply hK;clear hK K))
   refine z12 (fun (i:Nat)=>[(4,.d (.i (i:Int))),(3,.own 39),(5,.undef),(6,.undef)]) (fun i=>[(39,some (.arr 29 1 (ordRows ((eleTo s i).flatMap g))))]) (fun i=>i≤8) (fun i=>8 - i) 0 ?_ (Nat.zero_le _) ?_
   ·simp only [go_sem,eleTo,List.range_zero,List.filter_nil,List.flatMap_nil,ordRows,slRows,List.map_nil]
    refine z32 [39] ?_ ?_ ?_ ?_
    ·simp [lessT,z96,AV.less]
    ·simp [lessM,lessB,lessT,z96,AV.less]
    ·first | rfl | simp [liveB,AV.refs,AV.refs.AV.refss]
    ·first | rfl | simp [liveM,liveB,AV.refs,AV.refs.AV.refss]
   ·intro i hi
    simp only [go_sem]
    repeat (first|refine nx ?_|(refine z3 fun K hK=>?_;simp only [go_sem];apply hK;clear hK K))
    refine z4 rfl (fun hb=>?_) (fun hb=>?_)
    ·have hlt:i<8:=by have:=of_decide_eq_true hb;omega
     have hw:IntKind.i64.wrap ((i:Int) + 1)=((i + 1:Nat):Int):=by rw [z9 (by omega)];simp
     have h98i:=h98 i hlt
     rw [z1135 s hs i hlt] at h98i
     have ew:=z1333 i hlt
     have nk:¬ ((i:Int)<0):=by omega
     cases hbit:s.testBit i
     ·have e:eleTo s (i + 1)=eleTo s i:=by rw [z330,hbit];simp
      rw [hbit] at h98i
      repeat (first|refine nx ?_|(refine z3 fun K hK=>?_;simp only [go_sem];(repeat (first|(refine⟨_,.lent (hf:=h98i) (hd:=rfl) (hr:=rfl),?_⟩;simp only [go_sem])|(refine⟨_,.given (hf:=h98i) (hd:=rfl) (ha:=rfl),?_⟩;simp only [go_sem])));apply hK;clear hK K))
      refine z8 rfl ?_
      repeat (first|refine nx ?_|(refine z3 fun K hK=>?_;simp only [go_sem,hw];apply hK;clear hK K))
      refine⟨rfl,i + 1,?_,hlt,by omega⟩
      rw [e]
      try simp only [go_sem]
      refine weA ?_ ?_ <;> simp
     ·obtain⟨i5,hie,hsub⟩:=z1247 s hs i hlt hbit
      obtain⟨u1,u2,u3⟩:=z25 hs hie
      have ihi:=ih (s - 2 ^ i) u1 (by omega)
      have hb1:=hbig (i + 1) hlt
      have e:(eleTo s (i + 1)).flatMap g=(eleTo s i).flatMap g++(ordersL f (s - 2 ^ i)).map (i::·):=by rw [z330,hbit,List.flatMap_append,hg];simp
      rw [e] at hb1
      obtain⟨X,hX⟩:∃ X,X=(eleTo s i).flatMap g:=⟨_,rfl⟩
      obtain⟨R,hR⟩:∃ R,R=ordersL f (s - 2 ^ i):=⟨_,rfl⟩
      rw [← hX,← hR] at e hb1
      rw [← hR] at ihi
      rw [← hX]
      have hrl:=z165 R
      rw [List.length_append,List.length_map] at hb1
      rw [hbit] at h98i
      repeat (first|refine nx ?_|(refine z3 fun K hK=>?_;simp only [go_sem];(repeat (first|(refine⟨_,.lent (hf:=h98i) (hd:=rfl) (hr:=rfl),?_⟩;simp only [go_sem])|(refine⟨_,.given (hf:=h98i) (hd:=rfl) (ha:=rfl),?_⟩;simp only [go_sem])));apply hK;clear hK K))
      refine z5 rfl ?_
      repeat (first|refine nx ?_|(refine z3 fun K hK=>?_;simp only [go_sem,ew,nk,hsub];(repeat (first|(refine⟨_,.lent (hf:=ihi) (hd:=rfl) (hr:=rfl),?_⟩;simp only [go_sem,ew,nk,hsub])|(refine⟨_,.given (hf:=ihi) (hd:=rfl) (ha:=rfl),?_⟩;simp only [go_sem,ew,nk,hsub])));apply hK;clear hK K))
      refine z12 (fun (k:Nat)=>[(6,.d (.i (k:Int))),(3,.own 39)]) (fun k=>[(39,some (.arr 29 1 (ordRows (X++(R.take k).map (i::·)))))]) (fun k=>k≤R.length) (fun k=>R.length - k) 0 ?_ (Nat.zero_le _) ?_
      ·simp only [go_sem,List.take_zero,List.map_nil,List.append_nil]
       refine weA ?_ ?_ <;> simp
      ·intro k hk
       simp only [go_sem]
       repeat (first|refine nx ?_|(refine z3 fun K hK=>?_;simp only [go_sem,hrl];apply hK;clear hK K))
       refine z4 rfl (fun hb=>?_) (fun hb=>?_)
       ·have hkl:k<R.length:=by simpa using hb
        have hwk:IntKind.i64.wrap ((k:Int) + 1)=((k + 1:Nat):Int):=by rw [z9 (by omega)];simp
        obtain⟨r,hr⟩:∃ r,R[k]?=some r:=⟨_,List.getElem?_eq_getElem hkl⟩
        have hrm:r.length≤5:=by
         have h1:=(z135 (s - 2 ^ i) u1).2
         rw [z218 5 f (s - 2 ^ i) u1 (z19 _ u1) (by omega),← hR] at h1
         exact of_decide_eq_true (List.all_eq_true.1 h1 r (List.mem_of_getElem? hr))
        have g1:=z271 hr
        have nkk:¬ ((k:Int)<0):=by omega
        have et:X++(R.take (k + 1)).map (i::·)=(X++(R.take k).map (i::·))++[i::r]:=by rw [List.take_add_one,hr];simp
        have hlr:(intRows (natsI r)).length=r.length:=by rw [z14,z361]
        have hlo:(ordRows (X++(R.take k).map (i::·))).length≤549755813887:=by
         rw [z165]
         simp
         omega
        have hl1:1 + r.length≤549755813888:=by omega
        have hhd:headIs 1 (intRows (natsI r))=true:=by cases r <;> rfl
        repeat (first|refine nx ?_|(refine z3 fun K hK=>?_;simp only [go_sem,g1,nkk,hkl,hrl,hlr,hlo,hl1,hhd,hwk,List.length_cons,List.length_nil];apply hK;clear hK K))
        refine⟨rfl,k + 1,?_,hkl,by omega⟩
        rw [et,z691,z1030,z565]
        try simp only [go_sem]
        refine weA ?_ ?_ <;> simp
       ·have hke:k=R.length:=by (have:¬ k<R.length:=by simpa using hb);omega
        subst hke
        rw [List.take_length]
        repeat (first|refine nx ?_|(refine z3 fun K hK=>?_;simp only [go_sem,hw];apply hK;clear hK K))
        refine⟨rfl,i + 1,?_,hlt,by omega⟩
        rw [e]
        try simp only [go_sem]
        refine weA ?_ ?_ <;> simp
    ·have he:i=8:=by have:=of_decide_eq_false hb;omega
     subst he
     repeat (first|refine nx ?_|(refine z3 fun K hK=>?_;simp only [go_sem];apply hK;clear hK K))
     simp only [go_sem]
end Go.Ab
namespace Go.Ab
open Go.RowKit Go.Proofs
set_option maxHeartbeats 8000000
set_option maxRecDepth 20000
attribute [local irreducible] WalkL Walk
theorem z1409 (m:Nat) (G:Mat) (S:List SpotT) (hS:SpotsOk m S) (p:Nat) (hp:p<m) (s:Nat) (hs:s<32) (hi:∀ i ∈ elems s,i<S.length) :
  Fn Tryz.prog 31 [.sl (slRows (matM m G)),.i (p:Int),.sl (S.map SpotT.row),.i (s:Int)] (.tup [.sl (intRows (natsI (bestD G S p s).1)),.i (bestD G S p s).2]):=by
 have hlen:=z19 s hs
 have hmem:=z95 5 s hs hlen
 have h120:=z1371 5 s hs hlen
 have hsm:=(z135 s hs).1
 have h33:∀ l ∈ ordersL 5 s,Fn Tryz.prog 39 [.sl (slRows (matM m G)),.i (p:Int),.sl (S.map SpotT.row),.sl (intRows (natsI l))] (.tup [.i (costF G S p 0 0 l).1,.i (costF G S p 0 0 l).2]):=fun l hl=>by
  have hp2:=(hmem l).1 hl
  exact z1370 m G S hS p hp l (fun i h=>hi i (hp2.mem_iff.1 h)) (by rw [hp2.length_eq];omega)
 rw [bestD]
 obtain⟨c,hc⟩:∃ c,c=fun l=>(costF G S p 0 0 l).1:=⟨_,rfl⟩
 rw [← hc]
 obtain⟨L,hL⟩:∃ L,L=ordersL 5 s:=⟨_,rfl⟩
 rw [← hL] at h120 hsm h33 ⊢
 have hrl:=z165 L
 refine z10 45 Tryz.call31 Tryz.func31 rfl (by decide) fun J=>?_
 simp only [go_sem,St.start,Tryz.ntmps31,Tryz.results31]
 repeat (first|refine nx ?_|(refine z3 fun K hK=>?_;simp only [go_sem];(repeat (first|(refine⟨_,.lent (hf:=h120) (hd:=rfl) (hr:=rfl),?_⟩;simp only [go_sem])|(refine⟨_,.given (hf:=h120) (hd:=rfl) (ha:=rfl),?_⟩;simp only [go_sem])));apply hK;clear hK K))
 refine z12 (fun (a:Nat × List Nat × Int)=>[(13,.d (.i (a.1:Int))),(10,.d (.sl (intRows (natsI a.2.1)))),(11,.d (.i a.2.2)),(14,.undef),(15,.undef)]) (fun _=>[])
  (fun a=>a.1≤L.length∧a.2=(L.take a.1).foldl (bestStep c) ([],neverW)) (fun a=>L.length - a.1) (0,[],neverW) ?_ ⟨Nat.zero_le _,rfl⟩ ?_
 ·simp only [go_sem,natsI,intRows,List.map_nil,neverW]
  refine weA ?_ ?_ <;> simp
 ·rintro⟨k,o,v⟩ ⟨hk,ho⟩
  dsimp only at hk ho
  simp only [go_sem]
  repeat (first|refine nx ?_|(refine z3 fun K hK=>?_;simp only [go_sem,hrl];apply hK;clear hK K))
  refine z4 rfl (fun hb=>?_) (fun hb=>?_)
  ·have hlt:k<L.length:=by simpa using hb
   have hw:IntKind.i64.wrap ((k:Int) + 1)=((k + 1:Nat):Int):=by rw [z9 (by omega)];simp
   obtain⟨l,hl⟩:∃ l,L[k]?=some l:=⟨_,List.getElem?_eq_getElem hlt⟩
   have h33l:=h33 l (List.mem_of_getElem? hl)
   have g1:=z271 hl
   have nk:¬ ((k:Int)<0):=by omega
   have hnx:(L.take (k + 1)).foldl (bestStep c) ([],neverW)=bestStep c (o,v) l:=by rw [z28 _ _ _ _ _ hl,← ho]
   have hcl:c l=(costF G S p 0 0 l).1:=by rw [hc]
   rw [bestStep] at hnx
   dsimp only at hnx
   rw [hcl] at hnx
   by_cases hlt2:(costF G S p 0 0 l).1<v
   ·rw [if_pos hlt2] at hnx
    have hd:decide ((costF G S p 0 0 l).1<v)=true:=decide_eq_true hlt2
    repeat (first|refine nx ?_|(refine z3 fun K hK=>?_;simp only [go_sem,g1,nk,hlt,hrl,hd];(repeat (first|(refine⟨_,.lent (hf:=h33l) (hd:=rfl) (hr:=rfl),?_⟩;simp only [go_sem,g1,nk,hlt,hrl,hd])|(refine⟨_,.given (hf:=h33l) (hd:=rfl) (ha:=rfl),?_⟩;simp only [go_sem,g1,nk,hlt,hrl,hd])));apply hK;clear hK K))
    refine z8 rfl ?_
    repeat (first|refine nx ?_|(refine z3 fun K hK=>?_;simp only [go_sem,g1,nk,hlt,hrl,hw];apply hK;clear hK K))
    refine⟨rfl,(k + 1,_,_),?_,⟨hlt,hnx.symm⟩,by dsimp only;omega⟩
    try simp only [go_sem]
    refine weA ?_ ?_ <;> simp
   ·rw [if_neg hlt2] at hnx
    have hd:decide ((costF G S p 0 0 l).1<v)=false:=decide_eq_false hlt2
    repeat (first|refine nx ?_|(refine z3 fun K hK=>?_;simp only [go_sem,g1,nk,hlt,hrl,hd];(repeat (first|(refine⟨_,.lent (hf:=h33l) (hd:=rfl) (hr:=rfl),?_⟩;simp only [go_sem,g1,nk,hlt,hrl,hd])|(refine⟨_,.given (hf:=h33l) (hd:=rfl) (ha:=rfl),?_⟩;simp only [go_sem,g1,nk,hlt,hrl,hd])));apply hK;clear hK K))
    refine z5 rfl ?_
    repeat (first|refine nx ?_|(refine z3 fun K hK=>?_;simp only [go_sem,hw];apply hK;clear hK K))
    refine⟨rfl,(k + 1,_,_),?_,⟨hlt,hnx.symm⟩,by dsimp only;omega⟩
    try simp only [go_sem]
    refine weA ?_ ?_ <;> simp
  ·have he:k=L.length:=by (have:¬ k<L.length:=by simpa using hb);omega
   subst he
   rw [List.take_length] at ho
   rw [← ho]
   repeat (first|refine nx ?_|(refine z3 fun K hK=>?_;simp only [go_sem];apply hK;clear hK K))
   simp only [go_sem]
end Go.Ab
namespace Go.Ab
open Go.RowKit Go.Proofs
set_option maxHeartbeats 8000000
set_option maxRecDepth 20000
attribute [local irreducible] WalkL Walk
structure SearchT where
 party:Party
 bases:List Int
 spots:List SpotT
 minutes:Int
def SearchT.row (x:SearchT):List DV:=[.i x.party.grade,.i x.party.load,.i x.party.pace.lo,.i x.party.pace.hi,.sl (intRows x.bases),.sl (x.spots.map SpotT.row),.i x.minutes]
def farSe (x:SearchT):Bool:=(decide ((x.spots.length:Int) > 5) && decide ((x.spots.length:Int)≤8)) || (decide ((x.spots.length:Int) > 30) || decide ((x.bases.length:Int) > 20))
theorem zf5 (x:SearchT):Fn Tryz.prog 5 [.agg x.row] (.bool (farSe x)):=by
 have h1:=z14 x.bases
 have h2:(x.spots.map SpotT.row).length=x.spots.length:=by simp
 refine z10 25 Tryz.call5 Tryz.func5 rfl (by decide) fun J=>?_
 simp only [go_sem,St.start,Tryz.ntmps5,Tryz.results5,SearchT.row]
 rw [farSe]
 cases q1:decide ((x.spots.length:Int) > 5) <;> cases q2:decide ((x.spots.length:Int)≤8) <;> cases q3:decide ((x.spots.length:Int) > 30) <;> cases q4:decide ((x.bases.length:Int) > 20)
 all_goals
  repeat (first|refine nx ?_|(refine z3 fun K hK=>?_;simp only [go_sem,q1,q2,q3,q4,h1,h2,List.length_map];apply hK;clear hK K))
 all_goals
  simp only [go_sem,q1,q2,q3,q4,Bool.true_and,Bool.false_and,Bool.and_true,Bool.and_false,Bool.true_or,Bool.false_or,Bool.or_true,Bool.or_false]
theorem z1170 (n:Net) (bases:List Int) (S:List SpotT):badTeams n bases S=((!withinB S.length 1 8 || !withinB bases.length 1 3) || (S.any (badSpot n) || bases.any (badBase n))):=by
 rw [badTeams]
 cases !withinB (S.length:Int) 1 8 <;> cases S.any (badSpot n) <;> cases !withinB (bases.length:Int) 1 3 <;> cases bases.any (badBase n) <;> rfl
theorem z1374 (n:Net) (p:Party) (bases:List Int) (S:List SpotT) (hs:n.Small) (hb:bases.length<2 ^ 30) (hl:S.length<2 ^ 30) :
  Fn Tryz.prog 30 [.agg n.cells,.agg p.cells,.sl (intRows bases),.sl (S.map SpotT.row)] (.i (readyE n p bases S)):=by
 have h23:=z1378 n p hs
 have hrl:=z14 bases
 have hsl:(S.map SpotT.row).length=S.length:=by simp
 rw [readyE]
 by_cases hc:checkPartyF n p=0
 ·obtain⟨hg,hp⟩:=z141.1 hc
  have hpl:=hg.places
  have h24:=fun v=>z1316 n v (by omega)
  rw [if_neg (fun h=>h hc),z1170]
  rw [hc] at h23
  rw [Net.cells] at *
  rw [Party.cells] at *
  refine z10 73 Tryz.call30 Tryz.func30 rfl (by decide) fun J=>?_
  simp only [go_sem,St.start,Tryz.ntmps30,Tryz.results30,Net.cells,Party.cells]
  repeat (first|refine nx ?_|(refine z3 fun K hK=>?_;simp only [go_sem];(repeat (first|(refine⟨_,.lent (hf:=h23) (hd:=rfl) (hr:=rfl),?_⟩;simp only [go_sem])|(refine⟨_,.given (hf:=h23) (hd:=rfl) (ha:=rfl),?_⟩;simp only [go_sem])));apply hK;clear hK K))
  refine z5 (by rfl) ?_
  repeat (first|refine z27 ?_|refine z47 ?_)
  refine z23 [(27,.d (.bool (!withinB S.length 1 8 || !withinB bases.length 1 3)))] [] ?_ ?_
  ·refine z3 fun K hK=>?_
   simp only [go_sem,hrl,hsl,List.length_map]
   refine⟨_,.lent (hf:=z1314 S.length 1 8) (hd:=rfl) (hr:=rfl),?_⟩
   simp only [go_sem,hrl,hsl,List.length_map]
   by_cases ho0:(!withinB S.length 1 8)=true
   ·simp only [go_sem,hrl,hsl,List.length_map,ho0]
    apply hK
    clear hK K
    refine z11 ?_
    refine z6 ?_
    refine⟨rfl,?_⟩
    rw [show (!withinB S.length 1 8 || !withinB bases.length 1 3)=(true) from by simp [ho0]]
    simp only [go_sem]
    refine weA ?_ ?_ <;> simp
   ·simp only [go_sem,hrl,hsl,List.length_map,ho0]
    refine⟨_,.lent (hf:=z1314 bases.length 1 3) (hd:=rfl) (hr:=rfl),?_⟩
    simp only [go_sem,hrl,hsl,List.length_map,ho0]
    apply hK
    clear hK K
    refine z11 ?_
    refine z6 ?_
    refine⟨rfl,?_⟩
    rw [show (!withinB S.length 1 8 || !withinB bases.length 1 3)=(!withinB bases.length 1 3) from by simp [ho0]]
    simp only [go_sem]
    refine weA ?_ ?_ <;> simp
  simp only [go_sem]
  by_cases hbl:(!withinB S.length 1 8 || !withinB bases.length 1 3)=true
  ·rw [hbl,Bool.true_or,if_pos rfl]
   refine z4 (b:=true) (by rw [← hbl];rfl) (fun _=>?_) (fun hc=>by cases hc)
   repeat (first|refine nx ?_|(refine z3 fun K hK=>?_;simp only [go_sem];apply hK;clear hK K))
   simp only [go_sem]
  ·have hbl:(!withinB S.length 1 8 || !withinB bases.length 1 3)=false:=by simpa using hbl
   rw [hbl,Bool.false_or]
   refine z4 (b:=false) (by rw [← hbl];rfl) (fun hc=>by cases hc) (fun _=>?_)
   repeat (first|refine nx ?_|(refine z3 fun K hK=>?_;simp only [go_sem];apply hK;clear hK K))
   refine z12 (fun (i:Nat)=>[(10,.d (.i i))]) (fun _=>[]) (fun i=>i≤S.length∧(S.take i).any (badSpot n)=false) (fun i=>S.length - i) 0 ?_ ⟨Nat.zero_le _,rfl⟩ ?_
   ·simp only [go_sem]
    refine weA ?_ ?_ <;> simp
   ·intro i ⟨hi,hall⟩
    simp only [go_sem]
    repeat (first|refine nx ?_|(refine z3 fun K hK=>?_;simp only [go_sem,hsl];apply hK;clear hK K))
    refine z4 rfl (fun hb=>?_) (fun hb=>?_)
    ·have hlt:i<S.length:=by simpa using hb
     have hw:IntKind.i64.wrap ((i:Int) + 1)=((i + 1:Nat):Int):=by rw [z9 (by omega)];simp
     obtain⟨s,hsi⟩:∃ s,S[i]?=some s:=⟨_,List.getElem?_eq_getElem hlt⟩
     have g1:(S.map SpotT.row)[i]?=some [.i s.pl,.i s.wt,.i s.se]:=by rw [List.getElem?_map,hsi];rfl
     have nk:¬ ((i:Int)<0):=by omega
     repeat refine nx ?_
     refine z23 [(59,.d (.bool (badSpot n s)))] [] ?_ ?_
     ·refine z7 (by kernel_rfl) (by kernel_rfl) fun K hK=>?_
      simp only [go_sem,g1,nk,hlt,hsl,List.length_map]
      refine⟨_,.fn (hf:=h24 s.pl) (hd:=rfl) (hr:=.inl rfl),?_⟩
      simp only [go_sem,g1,nk,hlt,hsl,List.length_map]
      by_cases ho0:(!withinB s.pl 0 (n.places - 1))=true
      ·simp only [go_sem,g1,nk,hlt,hsl,List.length_map,ho0]
       refine⟨by kernel_rfl,hK _ ?_⟩
       clear hK K
       refine z11 ?_
       refine z6 ?_
       refine⟨rfl,?_⟩
       rw [show (badSpot n s)=(true) from by simp [badSpot,ho0]]
       simp only [go_sem]
       refine weA ?_ ?_ <;> simp
      ·simp only [go_sem,g1,nk,hlt,hsl,List.length_map,ho0]
       refine⟨_,.fn (hf:=z1314 s.wt 0 100) (hd:=rfl) (hr:=.inl rfl),?_⟩
       simp only [go_sem,g1,nk,hlt,hsl,List.length_map,ho0]
       by_cases ho1:(!withinB s.wt 0 100)=true
       ·simp only [go_sem,g1,nk,hlt,hsl,List.length_map,ho0,ho1]
        refine⟨by kernel_rfl,hK _ ?_⟩
        clear hK K
        refine z11 ?_
        refine z6 ?_
        refine⟨rfl,?_⟩
        rw [show (badSpot n s)=(true) from by simp [badSpot,ho0,ho1]]
        simp only [go_sem]
        refine weA ?_ ?_ <;> simp
       ·simp only [go_sem,g1,nk,hlt,hsl,List.length_map,ho0,ho1]
        refine⟨_,.fn (hf:=z1314 s.se 0 600) (hd:=rfl) (hr:=.inl rfl),?_⟩
        simp only [go_sem,g1,nk,hlt,hsl,List.length_map,ho0,ho1]
        refine⟨by kernel_rfl,hK _ ?_⟩
        clear hK K
        refine z11 ?_
        refine z6 ?_
        refine⟨rfl,?_⟩
        rw [show (badSpot n s)=(!withinB s.se 0 600) from by simp [badSpot,ho0,ho1]]
        simp only [go_sem]
        refine weA ?_ ?_ <;> simp
     simp only [go_sem]
     by_cases hbs:badSpot n s=true
     ·rw [z125 (q:=badSpot n) hsi hbs,Bool.true_or,if_pos rfl]
      refine z4 (b:=true) (by rw [← hbs];rfl) (fun _=>?_) (fun hc=>by cases hc)
      repeat (first|refine nx ?_|(refine z3 fun K hK=>?_;simp only [go_sem];apply hK;clear hK K))
      simp only [go_sem]
     ·have hbs:badSpot n s=false:=by simpa using hbs
      refine z4 (b:=false) (by rw [← hbs];rfl) (fun hc=>by cases hc) (fun _=>?_)
      repeat (first|refine nx ?_|(refine z3 fun K hK=>?_;simp only [go_sem,hw];apply hK;clear hK K))
      refine⟨rfl,i + 1,?_,⟨hlt,z89 hsi hall hbs⟩,by omega⟩
      try simp only [go_sem]
      refine weA ?_ ?_ <;> simp
    ·have he:i=S.length:=by (have:¬ i<S.length:=by simpa using hb);omega
     subst he
     rw [List.take_length] at hall
     rw [hall,Bool.false_or]
     repeat (first|refine nx ?_|(refine z3 fun K hK=>?_;simp only [go_sem];apply hK;clear hK K))
     refine z12 (fun (i:Nat)=>[(11,.d (.i i))]) (fun _=>[]) (fun i=>i≤bases.length∧(bases.take i).any (badBase n)=false) (fun i=>bases.length - i) 0 ?_ ⟨Nat.zero_le _,rfl⟩ ?_
     ·simp only [go_sem]
      refine weA ?_ ?_ <;> simp
     ·intro i ⟨hi,hall2⟩
      simp only [go_sem]
      repeat (first|refine nx ?_|(refine z3 fun K hK=>?_;simp only [go_sem,hrl];apply hK;clear hK K))
      refine z4 rfl (fun hb=>?_) (fun hb=>?_)
      ·have hlt:i<bases.length:=by simpa using hb
       have hw:IntKind.i64.wrap ((i:Int) + 1)=((i + 1:Nat):Int):=by rw [z9 (by omega)];simp
       obtain⟨v,hvi⟩:∃ s,bases[i]?=some s:=⟨_,List.getElem?_eq_getElem hlt⟩
       have g1:=z208 hvi
       have nk:¬ ((i:Int)<0):=by omega
       have h24v:=h24 v
       cases hbs:badBase n v
       ·have hbs2:withinB v 0 (n.places - 1)=true:=by simpa [badBase] using hbs
        rw [hbs2] at h24v
        repeat (first|refine nx ?_|(refine z3 fun K hK=>?_;simp only [go_sem];apply hK;clear hK K))
        refine z7 (by kernel_rfl) (by kernel_rfl) fun K hK=>?_
        simp only [go_sem,g1,nk,hlt,hrl]
        refine⟨_,.fn (hf:=h24v) (hd:=rfl) (hr:=.inl rfl),?_⟩
        simp only [go_sem]
        refine⟨by kernel_rfl,hK _ ?_⟩
        clear hK K
        refine z5 rfl ?_
        repeat (first|refine nx ?_|(refine z3 fun K hK=>?_;simp only [go_sem,hw];apply hK;clear hK K))
        refine⟨rfl,i + 1,?_,⟨hlt,z89 hvi hall2 hbs⟩,by omega⟩
        try simp only [go_sem]
        refine weA ?_ ?_ <;> simp
       ·have hbs2:withinB v 0 (n.places - 1)=false:=by simpa [badBase] using hbs
        rw [hbs2] at h24v
        rw [z125 (q:=badBase n) hvi hbs,if_pos rfl]
        repeat (first|refine nx ?_|(refine z3 fun K hK=>?_;simp only [go_sem];apply hK;clear hK K))
        refine z7 (by kernel_rfl) (by kernel_rfl) fun K hK=>?_
        simp only [go_sem,g1,nk,hlt,hrl]
        refine⟨_,.fn (hf:=h24v) (hd:=rfl) (hr:=.inl rfl),?_⟩
        simp only [go_sem]
        refine⟨by kernel_rfl,hK _ ?_⟩
        clear hK K
        refine z8 rfl ?_
        repeat (first|refine nx ?_|(refine z3 fun K hK=>?_;simp only [go_sem];apply hK;clear hK K))
        simp only [go_sem]
      ·have he:i=bases.length:=by (have:¬ i<bases.length:=by simpa using hb);omega
       subst he
       rw [List.take_length] at hall2
       rw [hall2,if_neg (by decide)]
       repeat (first|refine nx ?_|(refine z3 fun K hK=>?_;simp only [go_sem];apply hK;clear hK K))
       simp only [go_sem]
 ·rw [if_pos hc]
  have hne:(checkPartyF n p != 0)=true:=by simpa using hc
  rw [Net.cells] at *
  rw [Party.cells] at *
  refine z10 73 Tryz.call30 Tryz.func30 rfl (by decide) fun J=>?_
  simp only [go_sem,St.start,Tryz.ntmps30,Tryz.results30,Net.cells,Party.cells]
  repeat (first|refine nx ?_|(refine z3 fun K hK=>?_;simp only [go_sem,hne];(repeat (first|(refine⟨_,.lent (hf:=h23) (hd:=rfl) (hr:=rfl),?_⟩;simp only [go_sem,hne])|(refine⟨_,.given (hf:=h23) (hd:=rfl) (ha:=rfl),?_⟩;simp only [go_sem,hne])));apply hK;clear hK K))
  refine z8 rfl ?_
  repeat (first|refine nx ?_|(refine z3 fun K hK=>?_;simp only [go_sem];apply hK;clear hK K))
  simp only [go_sem]
def searchB (n:Net) (x:SearchT):Bool:=!farM n && (!farSe x && readyE n x.party x.bases x.spots == 0)
end Go.Ab
/- A range over an iterator of the second kind,within the round of another. -/
namespace Go.Ab
open Go.RowKit
section
variable {P:Program} {base:Own} {out:Own} {st st':St} {μ:Pl} {tmps:Array Value} {w w':World} {J:Env} {k:Option Nat} {B:Nat}
set_option maxHeartbeats 4000000 in
theorem z591 {rd:Option Nat} {n:Nat} {α:Type} {cs:List Code} {Q:Exit→Option Nat→St→Prop} {g:Operand} {ps:Array Tmp} {assign body:Code} {f:FuncId} {pre post:List AV} {items:List (List DV)} (hrd:∀ l0,rd=some l0→InLoop l0 J) (ns:List Nat) {m0:List Blk}
  (hg:rangeOf st g=some (f,pre,post)) (hnd:ns.Nodup) (hm0:ceded st ns ns=some m0) (hit:IterE P f m0 (fun l=>(pre++.d (.yld l)::post).map (AV.mapN (inv ns))) items) (hps:∀ row ∈ items,row.length=ps.size)
  (fs:α→St) (I:Option Nat→Nat→α→Prop) (Ix:Exit→Option Nat→α→Prop) (a0:α) (hw:Weak (st.cede ns) (fs a0)) (h0:I k 0 a0)
  (hround:∀ X W k' i a row,items[i]?=some row→I k' i a→∀ l m,WalkL P (some l) m (lendJ X W J) [assign] k' { t:=setPs ps.toList row (fs a).t,m:=(fs a).m }
   (thenA (fun k2 s=>∀ J2,InLoop l J2→WalkL P (some l) m J2 [body] k2 s fun e k3 s3=>match e with
    | .normal=>∃ a',Weak (s3.wipe (dsts (.rangeFunc g ps assign body))) (fs a')∧I k3 (i + 1) a'
    | e=>(jumpCode e).isSome∧∃ a',Weak (s3.wipe (dsts (.rangeFunc g ps assign body))) (fs a')∧Ix e k3 a') (fun _ _ _=>False)))
  (hdone:∀ k' a,I k' items.length a→WalkL P rd n J cs k' (fs a) Q) (hstop:∀ e k' a,Ix e k' a→(jumpCode e).isSome→Q e k' (fs a)) :
  WalkL P rd n J (.rangeFunc g ps assign body::cs) k st Q:=by
 intro B base out μ tmps w ds hO hA hJ hM
 obtain⟨fst,caps,hgv,hpl,hql,hpre,hpost⟩:=z269 hA hg
 obtain⟨μk,hAk,hk1,hk2⟩:=z945 hA ns
 obtain⟨X0,hX0⟩:∃ X0:Own,X0=ownsOf μ ns:=⟨_,rfl⟩
 rw [← hX0] at hAk
 have hX0w:∀ x,X0 x→ownOf out μ x∧¬ base x∧x<w.heap.size:=fun x hx=>by
  rw [hX0] at hx
  obtain⟨m,z,l,c,_,hm⟩:=hx
  exact⟨.inr ⟨m,z,l,c,hm⟩,(hA.mem.base m x z l c hm).1,(hA.mem.base m x z l c hm).2.1⟩
 obtain⟨μ0,hA0,hsub0⟩:=hw P _ _ μk tmps w hAk
 have hkown:∀ x,ownOf (fun x=>out x∨X0 x) μk x→ownOf out μ x:=by
  rintro x ((hx | hx) | ⟨m,z,l,c,hm⟩)
  ·exact .inl hx
  ·exact (hX0w x hx).1
  ·by_cases hmn:m ∈ ns
   ·rw [hk2 m hmn] at hm;cases hm
   ·exact .inr ⟨m,z,l,c,by rw [← hk1 m hmn];exact hm⟩
 have hsub1:∀ x,ownOf out μ0 x→ownOf out μ x:=fun x hx=>hkown x (hsub0 x (hx.imp .inl id))
 have hX0n:∀ x,X0 x→¬ ownOf out μ0 x:=by
  rintro x hx (hc | hc)
  ·exact (hX0w x hx).2.1 (hA.out x hc)
  ·exact (hA0.own_base x hc).1 (.inr hx)
 refine wpIn_rangeFunc ?_
 intro fn hfn
 have hent:∃ (l:Nat) (rec:LoopState→Option Code→Loop) (rsN:List Nat) (W1:World),(Instr.enterLoop fn tmps ps assign body rd).run P w=.ok (l,rsN.map fun r=>{ target:=.collected r,args:=#[] }) W1 ∧
   (∃ dd,rec=fun st pe=>{ state:=st,pending:=pe,fn,tmps:=tmps,params:=ps,assign,body,defers:=dd })∧W1.heap[l]?=some (.loop (rec .ready none))∧Below w.heap.size w W1∧w.heap.size≤l∧rsN.Nodup∧(∀ r ∈ rsN,w.heap.size≤r∧r<l∧W1.heap[r]?=some (.deferred (some [])))∧l + 1=W1.heap.size:=by
  cases rd with
  | none =>
   refine⟨w.heap.size + 1,fun st pe=>{ state:=st,pending:=pe,fn,tmps:=tmps,params:=ps,assign,body,defers:=w.heap.size },[w.heap.size],(w.alloc (.deferred (some []))).alloc (.loop { state:=.ready,pending:=none,fn,tmps:=tmps,params:=ps,assign,body,defers:=w.heap.size }),run_enterLoop_outer _ _ _ _ _,⟨_,rfl⟩,?_,((Below.refl _ w).alloc (Nat.le_refl _) _).alloc (by simp) _,by omega,by simp,fun r hr=>?_,by simp⟩
   ·have:=World.alloc_heap_new (w.alloc (.deferred (some []))) (.loop { state:=.ready,pending:=none,fn,tmps:=tmps,params:=ps,assign,body,defers:=w.heap.size });rwa [World.size_alloc] at this
   ·simp only [List.mem_singleton] at hr
    subst hr
    exact⟨Nat.le_refl _,by omega,(Below.heap_alloc _ _ _ (by simp)).trans (World.alloc_heap_new w _)⟩
  | some l0 =>
   obtain⟨r0,hr0⟩:=hrd l0 rfl _ _ _ _ (hJ w (.refl _ _))
   exact⟨w.heap.size,fun st pe=>{ state:=st,pending:=pe,fn,tmps:=tmps,params:=ps,assign,body,defers:=r0.defers },[],w.alloc (.loop { state:=.ready,pending:=none,fn,tmps:=tmps,params:=ps,assign,body,defers:=r0.defers }),run_enterLoop_inner hr0 _ _ _ _ _,⟨_,rfl⟩,World.alloc_heap_new w _,(Below.refl _ w).alloc (Nat.le_refl _) _,Nat.le_refl _,.nil,fun r hr=>by simp at hr,by simp⟩
 obtain⟨l,rec,rsN,W1,hent,⟨dd,hrec⟩,hL1,hB1,hwl,hndN,hrsN,hz1⟩:=hent
 obtain⟨JJ,hJJ⟩:∃ JJ:Env,JJ=fun ki bs os W=>∃ (e:Exit) (kk:Option Nat) (a:α) (b' o':Own) (μ':Pl) (X:Own),
   (∀ x,os x↔ownOf o' μ' x∨x=l)∧(∀ x,x<W.heap.size→bs x∨X x) ∧
   (∀ x,X x→x<W.heap.size∧¬ b' x∧¬ ownOf o' μ' x∧x ∉ rsN∧x≠l∧(ownOf out μ x∨l<x))∧(∀ x,o' x→b' x) ∧
   StRel P (fun x=>b' x∨X x) (fun x=>o' x∨X x) (fs a) μ' tmps W∧Firm J kk b' o' W∧Stays w (ownOf out μ) W (ownOf o' μ')∧(∀ r ∈ rsN,¬ ownOf o' μ' r)∧¬ ownOf o' μ' l ∧
   (∀ r ∈ rsN,W.heap[r]?=some (.deferred (some []))) ∧
   match ki with
   | some i=>I kk i a∧W.heap[l]?=some (.loop (rec .ready none))
   | none=>Ix e kk a∧(jumpCode e).isSome∧W.heap[l]?=some (.loop (rec .done (jumpCode e))):=⟨_,rfl⟩
 have hBw:B≤w.heap.size:=hM.1
 -- JJ abides
 have hclose:∀ ki bs os W W',JJ ki bs os W→BelowU bs W W'→JJ ki bs os W':=by
  rw [hJJ]
  rintro ki bs os W W' ⟨e,kk,a,b',o',μ',X,g1,g2,g3,g4,g5,g6,g7,g8,g9,g10,g11⟩ hB
  have hr0:∀ r ∈ rsN,r<W.heap.size:=fun r hr=>(Array.getElem?_eq_some_iff.1 (g10 r hr)).1
  have hr1:l<W.heap.size:=by
   cases ki with
   | some i=>exact (Array.getElem?_eq_some_iff.1 g11.2).1
   | none=>exact (Array.getElem?_eq_some_iff.1 g11.2.2).1
  have hlt:∀ x,(b' x∨X x)→x<W.heap.size:=g5.le
  have holt:∀ x,ownOf o' μ' x→x<W.heap.size:=fun x hx=>z41 g5 x (hx.imp .inl id)
  have hin:∀ x,x<W.heap.size→¬ X x→W'.heap[x]?=W.heap[x]?:=fun x hx hno=>hB.block x ((g2 x hx).resolve_right hno)
  have hl0:∀ r ∈ rsN,W'.heap[r]?=some (.deferred (some [])):=fun r hr=>by rw [hin _ (hr0 r hr) (fun hc=>(g3 _ hc).2.2.2.1 hr)];exact g10 r hr
  have hl1:W'.heap[l]?=W.heap[l]?:=hin _ hr1 (fun hc=>(g3 _ hc).2.2.2.2.1 rfl)
  refine⟨e,kk,a,b',o',μ',fun x=>X x∨(W.heap.size≤x∧x<W'.heap.size),g1,fun x hx=>?_,fun x hx=>?_,g4,?_,g6.next (hB.mono fun x hx=>(g2 x (hlt x (.inl hx))).resolve_right fun hc=>(g3 x hc).2.1 hx),⟨Nat.le_trans g7.1 hB.size,fun x hx ho=>?_⟩,g8,g9,hl0,?_⟩
  ·by_cases hlt':x<W.heap.size
   ·exact (g2 x hlt').imp id .inl
   ·exact .inr (.inr ⟨by omega,hx⟩)
  ·rcases hx with hx | hx
   ·obtain⟨q1,q2⟩:=g3 x hx
    exact⟨Nat.lt_of_lt_of_le q1 hB.size,q2⟩
   ·exact⟨hx.2,fun hc=>by have:=hlt x (.inl hc);omega,fun hc=>by have:=holt x hc;omega,fun hc=>by have:=hr0 x hc;omega,by omega,.inr (by omega)⟩
  ·refine g5.next hB.size (fun x hx hno=>hin x hx fun hc=>hno (.inr hc)) (fun x hx=>hx.imp (g4 x) id) (fun x hx=>?_) (fun x hx=>?_) (fun x hx=>?_)
   ·rcases hx with hx | hx | hx
    ·exact Nat.lt_of_lt_of_le (hlt x (.inl hx)) hB.size
    ·exact Nat.lt_of_lt_of_le (hlt x (.inr hx)) hB.size
    ·exact hx.2
   ·rcases hx with hx | hx | hx
    ·exact .inl (.inl hx)
    ·exact .inl (.inr hx)
    ·exact .inr hx.1
   ·have:=g5.own_base x hx
    rintro (hc | hc | hc)
    ·exact this.1 (.inl hc)
    ·exact this.1 (.inr hc)
    ·omega
  ·obtain⟨p1,p2⟩:=g7.2 x hx ho
   have hxW:x<W.heap.size:=by omega
   exact⟨(hin x hxW fun hc=>by rcases (g3 x hc).2.2.2.2.2 with h | h;exact ho h;omega).trans p1,p2⟩
  ·cases ki with
   | some i=>exact⟨g11.1,by rw [hl1];exact g11.2⟩
   | none=>exact⟨g11.1,g11.2.1,by rw [hl1];exact g11.2.2⟩
 have hfirm:∀ ki bs os W,JJ ki bs os W→Firm JJ ki bs os W:=fun ki bs os W h W' hB=>hclose ki bs os W W' h hB
 have hOJ:EnvOk W1.heap.size JJ:=by
  rw [hJJ]
  rintro ki bs os W W' r hr hno ho ⟨e,kk,a,b',o',μ',X,g1,g2,g3,g4,g5,g6,g7,g8,g9,g10,g11⟩
  have hr1:∀ q ∈ rsN,q≠r:=fun q hq=>by have:=(hrsN q hq).2.1;omega
  have hr2:r≠l:=by omega
  have hnr:¬ o' r:=fun hc=>hno ((g1 r).2 (.inl (.inl hc)))
  refine⟨e,kk,a,b',o',μ',X,g1,by rw [ho.wrote.size];exact g2,by rw [ho.wrote.size];exact g3,g4,g5.other ho,z48 hO g6 (fun x hx=>g5.le x (.inl hx)) (by omega) hnr ho,⟨by rw [ho.wrote.size];exact g7.1,fun x hx hob=>?_⟩,g8,g9,
   fun q hq=>by rw [ho.wrote.block _ (hr1 q hq)];exact g10 q hq,?_⟩
  ·rw [ho.wrote.block x (by omega)];exact g7.2 x hx hob
  ·cases ki with
   | some i=>exact⟨g11.1,by rw [ho.wrote.block _ (Ne.symm hr2)];exact g11.2⟩
   | none=>exact⟨g11.1,g11.2.1,by rw [ho.wrote.block _ (Ne.symm hr2)];exact g11.2.2⟩
 have hG:GivesE P l JJ items:=by
  intro m i bs os Xi W vals row hi hob hbs hF hXi hrow
  have hj:=hF W (.refl _ _)
  rw [hJJ] at hj
  obtain⟨_,kk,a,b',o',μ',X,g1,g2,g3,g4,g5,g6,g7,g8,g9,g10,h7,h8⟩:=hj
  have hXX:∀ x,Xi x→X x:=fun x hx=>(g2 x (hXi x hx).2).resolve_left (hXi x hx).1
  have hrl:=hps row (List.mem_of_getElem? hi)
  have hlt:l<W.heap.size:=(Array.getElem?_eq_some_iff.1 h8).1
  have hy:=run_yield (P:=P) (args:=vals) h8 (by rw [hrec];simp only;rw [← hrow.1,hrl])
  rw [hrec] at hy
  refine⟨fn,_,assign,body,hy,roundIn_of_wpIn trivial ?_⟩
  have hb0:StRel P (fun x=>b' x∨Xi x) (fun x=>o' x∨Xi x) (fs a) μ' tmps W:=by
   refine g5.next (Nat.le_refl _) (fun _ _ _=>rfl) (fun x hx=>hx.imp (g4 x) id) (fun x hx=>g5.le x (hx.imp id (hXX x))) (fun x hx=>.inl (hx.imp id (hXX x))) (fun x hx=>?_)
   have:=(g5.own_base x hx).1
   exact fun hc=>this (hc.imp id (hXX x))
  have hz:StRel P (fun x=>b' x∨Xi x) (fun x=>o' x∨Xi x) { t:=setPs ps.toList row (fs a).t,m:=(fs a).m } μ' ((ps.zip vals).foldl (fun t (p,v)=>t.setIfInBounds p v) tmps) W:=by
   have:=z333 ps.toList row vals.toList (fs a) tmps (by simpa using hrow.1) (fun i d v hd hv=>(hrow.2 i d v hd (by simpa using hv)).goes fun b o v h1 h2=>⟨fun hc=>h1 (by
    rcases hc with (hc | hc) | hc
    ·exact .inl ((g1 b).2 (.inl (.inl hc)))
    ·exact .inr hc
    ·exact .inl ((g1 b).2 (.inl (.inr hc)))),h2⟩) hb0
   rwa [← Array.toList_zip,← Array.foldl_toList] at *
  have hzs:Same ps.toList tmps ((ps.zip vals).foldl (fun t (p,v)=>t.setIfInBounds p v) tmps):=by
   have:=z196 ps.toList vals.toList tmps
   rwa [← Array.toList_zip,Array.foldl_toList] at this
  have hXb:∀ x,Xi x→¬ b' x∧x<W.heap.size:=fun x hx=>⟨(g3 x (hXX x hx)).2.1,(hXi x hx).2⟩
  have hO1:=z286 hO Xi W
  have hJ0:Firm (lendJ Xi W J) kk (fun x=>b' x∨Xi x) (fun x=>o' x∨Xi x) W:=z250 hXb (fun _ _=>rfl) g4 (fun x hx=>g5.le x (.inl hx)) g6
  have hnR1:¬ ownOf (fun x=>o' x∨Xi x) μ' l:=by
   rintro ((hc | hc) | hc)
   ·exact g9 (.inl hc)
   ·exact (g3 _ (hXX _ hc)).2.2.2.2.1 rfl
   ·exact g9 (.inr hc)
  have hnR0:∀ r ∈ rsN,¬ ownOf (fun x=>o' x∨Xi x) μ' r:=by
   rintro r hr ((hc | hc) | hc)
   ·exact g8 r hr (.inl hc)
   ·exact (g3 _ (hXX _ hc)).2.2.2.1 hr
   ·exact g8 r hr (.inr hc)
  have hr0:=z21 (hround Xi W kk i a row hi h7 l m) B _ _ μ' _ W [] hO1 hz hJ0 (.nil (by omega))
  refine wpIn_mono hr0 ?_
  rintro e a1 w1 ⟨k1,s1,b1,o1,μ1,hA1,hJ1,hM1,hst1,hsa1,hq1⟩
  cases e with
  | normal =>
   have hl1:w1.heap[l]?=some (.loop (rec .ready none)):=by rw [(hst1.2 _ hlt hnR1).1];exact h8
   have hno1:¬ ownOf o1 μ1 l:=(hst1.2 _ hlt hnR1).2
   have hd1:∀ r ∈ rsN,¬ ownOf o1 μ1 r∧w1.heap[r]?=some (.deferred (some [])):=fun r hr=>by
    have:=hst1.2 r (Array.getElem?_eq_some_iff.1 (g10 r hr)).1 (hnR0 r hr)
    exact⟨this.2,this.1.trans (g10 r hr)⟩
   have ho1:Other l w1 (w1.putObj l (.loop { rec .ready none with state:=.busy })):=z45 hl1 (fun _ _ _ e=>by cases e) (fun _ _ e=>by cases e)
   refine⟨_,run_beginRound hl1 (by rw [hrec]),?_⟩
   have hlt1:l<w1.heap.size:=(Array.getElem?_eq_some_iff.1 hl1).1
   have hown1:∀ x,ownOf (fun x=>o1 x∨x=l) μ1 x↔ownOf o1 μ1 x∨x=l:=fun x=>by
    constructor
    ·rintro ((h | h) | h)
     ·exact .inl (.inl h)
     ·exact .inr h
     ·exact .inl (.inr h)
    ·rintro ((h | h) | h)
     ·exact .inl (.inl h)
     ·exact .inr h
     ·exact .inl (.inr h)
   have hM2:Marked B (ownOf (fun x=>o1 x∨x=l) μ1) a1.defers (w1.putObj l (.loop { rec .ready none with state:=.busy })):=by
    obtain⟨q0,rs,q1,q2,q3⟩:=hM1
    have hne:∀ r ∈ rs,r≠l:=fun r hr e=>by subst e;have:=(q3 _ hr).2.2;rw [hl1] at this;cases this
    refine⟨by simpa using q0,rs,q1,q2,fun r hr=>⟨(q3 r hr).1,fun hc=>?_,?_⟩⟩
    ·rcases (hown1 r).1 hc with hc | hc
     ·exact (q3 r hr).2.1 hc
     ·exact hne r hr hc
    ·rw [World.putObj_heap_other (hne r hr)]
     exact (q3 r hr).2.2
   obtain⟨J2,hJ2d⟩:∃ J2,J2=roundJ l { rec .ready none with state:=.busy } (lendJ Xi W J):=⟨_,rfl⟩
   have hAr:StRel P (fun x=>b1 x∨x=l) (fun x=>o1 x∨x=l) s1 μ1 a1.tmps (w1.putObj l (.loop { rec .ready none with state:=.busy })):=by
    have hx:=hA1.other ho1
    have hgx:Goes (w1.putObj l (.loop { rec .ready none with state:=.busy })) (ownOf o1 μ1) (w1.putObj l (.loop { rec .ready none with state:=.busy })) (ownOf (fun x=>o1 x∨x=l) μ1):=fun b o v g1 g2=>⟨fun hc=>by
     rcases (hown1 b).1 hc with hc | rfl
     ·exact g1 hc
     ·rcases g2.block with ⟨_,_,_,e⟩ | ⟨_,_,e⟩ <;> (rw [World.putObj_heap_same hlt1] at e;cases e),g2⟩
    refine⟨hx.size,fun i x v q1 q2=>(hx.tmp i x v q1 q2).goes hgx (fun _ _ _=>rfl),⟨fun m blk hm=>(hx.mem.blk m blk hm).goes hgx rfl (fun _ _=>rfl) (fun _ _ _ _ _=>rfl),hx.mem.dom,hx.mem.inj,fun m b z l' c hm=>?_⟩,hx.hid.goes hgx,fun x hc=>hc.imp (hx.out x) id,fun x hc=>by
     rcases hc with hc | rfl
     ·exact hx.le x hc
     ·simpa using hlt1⟩
    have:=hx.mem.base m b z l' c hm
    refine⟨fun hc=>?_,this.2.1,fun hc=>?_⟩
    ·rcases hc with hc | rfl
     ·exact this.1 hc
     ·exact hno1 (.inr ⟨m,z,l',c,hm⟩)
    ·rcases hc with hc | rfl
     ·exact this.2.2 hc
     ·exact hno1 (.inr ⟨m,z,l',c,hm⟩)
   have hJr:roundJ l { rec .ready none with state:=.busy } (lendJ Xi W J) k1 (fun x=>b1 x∨x=l) (fun x=>o1 x∨x=l) (w1.putObj l (.loop { rec .ready none with state:=.busy })) :=
    ⟨b1,o1,fun _=>.rfl,fun _=>.rfl,fun hc=>hno1 (.inl hc),World.putObj_heap_same hlt1,hA1.out,fun x hx=>by simpa using hA1.le x hx,z48 hO1 hJ1 hA1.le (by omega) (fun hc=>hno1 (.inl hc)) ho1⟩
   have hbd:=z21 (hq1 J2 (by rw [hJ2d];exact z683)) B (fun x=>b1 x∨x=l) (fun x=>o1 x∨x=l) μ1 a1.tmps _ a1.defers (by rw [hJ2d];exact z467 hO1) hAr (by rw [hJ2d];exact z356 hJr) hM2
   refine wpIn_mono hbd ?_
   rintro e2 a2 w2 ⟨k2,s2,b2',o2',μ2,hA2',hJ2',hM3,hst2,hsa2,hq2⟩
   rw [hJ2d] at hJ2'
   obtain⟨b2,o2,r1,r2,r3,hl2,r5,r6,hJ2⟩:=hJ2' w2 (.refl _ _)
   have hz2:(w1.putObj l (.loop { rec .ready none with state:=.busy })).heap.size=w1.heap.size:=by simp
   have hno2:¬ ownOf o2 μ2 l:=by
    rintro (hc | ⟨m,z,l',c,hm⟩)
    ·exact r3 hc
    ·exact (hA2'.mem.base m _ z l' c hm).1 ((r1 l).2 (.inr rfl))
   have hsub2:∀ x,ownOf o2 μ2 x→ownOf o2' μ2 x:=fun x hx=>hx.imp (fun h=>(r2 x).2 (.inl h)) id
   have hA2:StRel P b2 o2 s2 μ2 a2.tmps w2:=by
    refine hA2'.next (Nat.le_refl _) (fun _ _ _=>rfl) r5 r6 (fun x hx=>.inl ((r2 x).2 (.inl hx))) (fun x hx hc=>?_)
    exact (hA2'.own_base x hx).1 ((r1 x).2 (.inl hc))
   have hd2:∀ r ∈ rsN,¬ ownOf o2 μ2 r∧w2.heap[r]?=some (.deferred (some [])):=fun r hr=>by
    have hrl:r≠l:=by have:=(hrsN r hr).2.1;omega
    obtain⟨q1,q2⟩:=hd1 r hr
    have:=hst2.2 r (by rw [hz2];exact (Array.getElem?_eq_some_iff.1 q2).1) (fun hc=>by rcases (hown1 r).1 hc with hc | hc;exact q1 hc;exact hrl hc)
    exact⟨fun hc=>this.2 (hsub2 r hc),this.1.trans ((World.putObj_heap_other hrl).trans q2)⟩
   obtain⟨j1,j2,j3,j4,j5⟩:=hJ2 w2 (.refl _ _)
   have hsame:Same (dsts (.rangeFunc g ps assign body)) tmps a2.tmps :=
    ((hzs.mono fun i hi=>by simp only [dsts,List.mem_append];exact .inl hi).trans (hsa1.mono fun i hi=>by simp only [dsts,List.mem_append];exact .inr (.inl hi))).trans (hsa2.mono fun i hi=>by simp only [dsts,List.mem_append];exact .inr (.inr hi))
   have hall:∀ (b:Nat),b<W.heap.size→b≠l→¬ ownOf (fun x=>o' x∨Xi x) μ' b→w2.heap[b]?=W.heap[b]?∧¬ ownOf o2 μ2 b:=by
    intro b hb hne ho
    obtain⟨p1,p2⟩:=hst1.2 b hb ho
    obtain⟨p3,p4⟩:=hst2.2 b (by rw [hz2];exact Nat.lt_of_lt_of_le hb hst1.1) (fun hc=>by rcases (hown1 b).1 hc with hc | hc;exact p2 hc;exact hne hc)
    exact⟨p3.trans ((World.putObj_heap_other hne).trans p1),fun hc=>p4 (hsub2 b hc)⟩
   have hsz:W.heap.size≤w2.heap.size:=Nat.le_trans hst1.1 (by rw [← hz2];exact hst2.1)
   have hlt2:l<w2.heap.size:=(Array.getElem?_eq_some_iff.1 hl2).1
   have fin:∀ (pe:Option Code) (stt:LoopState) (a':α) (ki:Option Nat) (e':Exit),Weak (s2.wipe (dsts (.rangeFunc g ps assign body))) (fs a')→∀ W5,W5=w2.putObj l (.loop (rec stt pe)) →
     (match ki with
      | some i=>I k2 i a'∧stt=.ready∧pe=none
      | none=>Ix e' k2 a'∧(jumpCode e').isSome∧stt=.done∧pe=jumpCode e') →
     ∃ b3 o3,(∀ x,o3 x→b3 x)∧(∀ x,b3 x→x<W5.heap.size)∧Firm JJ ki b3 o3 W5∧Stays W os W5 o3∧∀ x,Xi x→¬ b3 x:=by
    rintro pe stt a' ki e' hwk W5 rfl hki
    have ho2:Other l w2 (w2.putObj l (.loop (rec stt pe))):=z45 hl2 (fun _ _ _ e=>by cases e) (fun _ _ e=>by cases e)
    obtain⟨μ5,h51,h52⟩:=hwk P b2 o2 μ2 tmps _ (z322 (hA2.other ho2) hsame)
    have hXi2:∀ x,Xi x→b2 x:=fun x hx=>j3 x (j1 x hx)
    have h5n:∀ x,Xi x→¬ μ5.owns x:=fun x hx hc=>(h51.own_base x hc).1 (hXi2 x hx)
    have hold:∀ x,ownOf (fun x=>o2 x∧¬ Xi x) μ5 x→ownOf o2 μ2 x:=fun x hx=>h52 x (hx.imp (·.1) id)
    have hWW:∀ x,x<W.heap.size→x≠l→¬ ownOf o' μ' x→(w2.putObj l (.loop (rec stt pe))).heap[x]?=W.heap[x]?∧¬ ownOf (fun x=>o2 x∧¬ Xi x) μ5 x:=fun x hx hne ho=>by
     rw [World.putObj_heap_other hne]
     by_cases hxi:Xi x
     ·exact⟨j2 x hxi,fun hc=>hc.elim (fun h=>h.2 hxi) (h5n x hxi)⟩
     ·obtain⟨p1,p2⟩:=hall x hx hne (fun hc=>hc.elim (fun h=>h.elim (fun h=>ho (.inl h)) hxi) fun h=>ho (.inr h))
      exact⟨p1,fun hc=>p2 (hold x hc)⟩
    have hsz5:(w2.putObj l (.loop (rec stt pe))).heap.size=w2.heap.size:=by simp
    have hXR:∀ x,Xi x→x≠l:=fun x hx=>(g3 x (hXX x hx)).2.2.2.2.1
    refine⟨fun x=>x<(w2.putObj l (.loop (rec stt pe))).heap.size∧¬ Xi x,fun x=>ownOf (fun x=>o2 x∧¬ Xi x) μ5 x∨x=l,?_,fun x hx=>hx.1,hfirm _ _ _ _ ?_,⟨by rw [hsz5];exact hsz,fun x hx hno=>?_⟩,fun x hx hc=>hc.2 hx⟩
    ·rintro x (hx | rfl)
     ·exact⟨z41 h51 x (hx.imp (·.1) id),fun hxi=>hx.elim (fun h=>h.2 hxi) (h5n x hxi)⟩
     ·exact⟨by rw [hsz5];exact hlt2,fun hxi=>hXR _ hxi rfl⟩
    ·rw [hJJ]
     refine⟨e',k2,a',fun x=>b2 x∧¬ Xi x,fun x=>o2 x∧¬ Xi x,μ5,Xi,fun x=>Iff.rfl,fun x hx=>?_,fun x hx=>⟨?_,fun hc=>hc.2 hx,fun hc=>hc.elim (fun h=>h.2 hx) (h5n x hx),(g3 x (hXX x hx)).2.2.2.1,hXR x hx,(g3 x (hXX x hx)).2.2.2.2.2⟩,fun x hx=>⟨j3 x hx.1,hx.2⟩,?_,z48 hO j5 (fun x hx=>j4 x hx.1) (by omega) (fun hc=>hno2 (.inl hc.1)) ho2,⟨?_,fun x hx ho=>?_⟩,fun r hr hc=>(hd2 r hr).1 (hold _ hc),fun hc=>hno2 (hold _ hc),?_,?_⟩
     ·by_cases hxi:Xi x
      ·exact .inr hxi
      ·exact .inl ⟨hx,hxi⟩
     ·rw [hsz5];exact Nat.lt_of_lt_of_le (hXi x hx).2 hsz
     ·refine h51.next (Nat.le_refl _) (fun _ _ _=>rfl) (fun x hx=>?_) (fun x hx=>h51.le x (hx.elim (·.1) (hXi2 x))) (fun x hx=>.inl (hx.elim (·.1) (j1 x))) (fun x hx=>?_)
      ·exact hx.imp (fun h=>⟨j3 x h.1,h.2⟩) id
      ·have:=(h51.own_base x hx).1
       exact fun hc=>this (hc.elim (·.1) (hXi2 x))
     ·rw [hsz5];exact Nat.le_trans g7.1 hsz
     ·obtain⟨p1,p2⟩:=g7.2 x hx ho
      obtain⟨p3,p4⟩:=hWW x (Nat.lt_of_lt_of_le hx g7.1) (by omega) p2
      exact⟨p3.trans p1,p4⟩
     ·intro r hr
      rw [World.putObj_heap_other (by have:=(hrsN r hr).2.1;omega)];exact (hd2 r hr).2
     ·cases ki with
      | some i =>
       obtain⟨q1,rfl,rfl⟩:=hki
       exact⟨q1,World.putObj_heap_same hlt2⟩
      | none =>
       obtain⟨q1,q2,rfl,rfl⟩:=hki
       exact⟨q1,q2,World.putObj_heap_same hlt2⟩
    ·have hno':¬ ownOf o' μ' x∧x≠l:=⟨fun hc=>hno ((g1 x).2 (.inl hc)),fun hc=>hno ((g1 x).2 (.inr hc))⟩
     obtain⟨p1,p2⟩:=hWW x hx hno'.2 hno'.1
     exact⟨p1,fun hc=>hc.elim p2 hno'.2⟩
   have out_:∀ e3,(jumpCode e3).isSome→(∃ a',Weak (s2.wipe (dsts (.rangeFunc g ps assign body))) (fs a')∧Ix e3 k2 a')→∃ v w',(Instr.endRound l (jumpCode e3)).run P w2=.ok v w' ∧
     ∃ t b3 o3,Ending.returned v=.returned (.bool t)∧(∀ x,o3 x→b3 x)∧(∀ x,b3 x→x<w'.heap.size)∧Firm JJ (if t then some (i + 1) else none) b3 o3 w'∧Stays W os w' o3∧∀ x,Xi x→¬ b3 x:=by
    rintro e3 hjs ⟨a',hwk,hix⟩
    obtain⟨b3,o3,q1,q2,q3,q4,q5⟩:=fin (jumpCode e3) .done a' none e3 hwk _ rfl ⟨hix,hjs,rfl,rfl⟩
    have hen:=run_endRound (P:=P) (jumpCode e3) hl2
    have hjn:(jumpCode e3).isNone=false:=by cases hj:jumpCode e3 <;> simp_all
    rw [hjn] at hen
    refine⟨_,_,hen,false,b3,o3,rfl,q1,?_,?_,?_,q5⟩
    ·rw [hrec] at q2 ⊢;exact q2
    ·rw [hrec] at q3 ⊢;exact q3
    ·rw [hrec] at q4 ⊢;exact q4
   cases e2 with
   | normal =>
    obtain⟨a',hwk,hI'⟩:=hq2
    obtain⟨b3,o3,q1,q2,q3,q4,q5⟩:=fin none .ready a' (some (i + 1)) .normal hwk _ rfl ⟨hI',rfl,rfl⟩
    have hen:=run_endRound (P:=P) none hl2
    refine⟨_,_,hen,true,b3,o3,rfl,q1,?_,?_,?_,q5⟩
    ·rw [hrec] at q2 ⊢;exact q2
    ·rw [hrec] at q3 ⊢;exact q3
    ·rw [hrec] at q4 ⊢;exact q4
   | ret=>exact out_ .ret hq2.1 hq2.2
   | exit id=>exact out_ (.exit id) hq2.1 hq2.2
   | goto t=>exact out_ (.goto t) hq2.1 hq2.2
   | panic c=>exact absurd hq2.1 (by simp [jumpCode])
   | outgrown=>exact absurd hq2.1 (by simp [jumpCode])
  | _=>exact hq1.elim
 -- what the iterator is handed
 obtain⟨μi,hμi⟩:∃ μi:Pl,μi=fun i=>(ns[i]?).bind μ:=⟨_,rfl⟩
 have hμii:∀ i n,ns[i]?=some n→μi i=μ n:=fun i n hi=>by rw [hμi];simp [hi]
 have hμis:∀ i L,μi i=some L→∃ n,ns[i]?=some n∧μ n=some L:=fun i L hi=>by
  rw [hμi] at hi
  cases hn:ns[i]? with
  | none=>simp [hn] at hi
  | some n=>simp [hn] at hi;exact⟨n,rfl,hi⟩
 have hμX:∀ x,μi.owns x→X0 x:=by
  rintro x ⟨i,z,l,c,hi⟩
  obtain⟨m,hm,hμm⟩:=hμis i _ hi
  rw [hX0];exact⟨m,z,l,c,List.mem_of_getElem? hm,hμm⟩
 obtain⟨bs0,hbs0⟩:∃ bs0:Own,bs0=fun x=>x<W1.heap.size∧¬ X0 x:=⟨_,rfl⟩
 obtain⟨os0,hos0⟩:∃ os0:Own,os0=fun x=>ownOf out μ0 x∨x=l:=⟨_,rfl⟩
 have hlow:∀ x,ownOf out μ0 x→x<w.heap.size:=fun x hx=>z41 hA0 x (hx.imp .inl id)
 have hgi:Goes w (ownOf out μ) W1 (ownOf os0 μi):=fun b o u p1 p2=>⟨fun hc=>by
  rw [hos0] at hc
  rcases hc with (hc | hc) | hc
  ·exact p1 (hsub1 b hc)
  ·rw [hc] at p2;exact absurd p2.lt (by omega)
  ·exact p1 (hX0w b (hμX b hc)).1,p2.heap (hB1.block b p2.lt)⟩
 have hinv:∀ n,(μ n).isSome→∀ i,inv ns n=some i→μi i=μ n:=fun n _ i hi=>hμii i n (z76 hi)
 obtain⟨hnl,hget⟩:=z383 hm0
 have hMi:MemRel bs0 os0 W1 μi (m0.map some):=by
  refine⟨fun i b hi=>?_,fun i hi=>?_,fun a k b z l c z' l' c' h1 h2=>?_,fun i b z l c hi=>?_⟩
  ·simp only [List.getElem?_map,Option.map_eq_some_iff,Option.some.injEq] at hi
   obtain⟨b0,hi,rfl⟩:=hi
   obtain⟨m,b',h1,h2,rfl⟩:=hget i b0 hi
   refine BlkRel.mapN (.inl hgi) (hμii i m h1) hinv (fun b z l c hb=>?_) (hA.mem.blk m b' h2)
   exact hB1.block b (z49 hA.mem hb)
  ·obtain⟨L,hL⟩:=Option.isSome_iff_exists.1 hi
   obtain⟨m,hm,_⟩:=hμis i L hL
   have:i<m0.length:=by rw [← hnl];exact (List.getElem?_eq_some_iff.1 hm).1
   exact⟨m0[i],by simp [this]⟩
  ·obtain⟨m,hm,e1⟩:=hμis a _ h1
   obtain⟨m',hm',e2⟩:=hμis k _ h2
   have:=hA.mem.inj m m' b _ _ _ _ _ _ e1 e2
   subst this
   exact z129 hnd hm hm'
  ·have hx:X0 b:=hμX b ⟨i,z,l,c,hi⟩
   have hx2:=(hX0w b hx).2.2
   refine⟨by rw [hbs0];exact fun hc=>hc.2 hx,by omega,by rw [hos0];exact fun hc=>hc.elim (hX0n b hx) (by omega)⟩
 have hJ0:JJ (some 0) bs0 os0 W1:=by
  rw [hJJ]
  refine⟨.normal,k,a0,base,out,μ0,X0,fun x=>by rw [hos0],fun x hx=>?_,fun x hx=>?_,hA.out,?_,fun w'' hb=>hJ w'' ((BelowU.of hB1 hA.le).trans hb),⟨hB1.size,fun b hb ho=>⟨hB1.block b hb,fun hc=>ho (hsub1 b hc)⟩⟩,fun r hr hc=>by have:=hlow _ hc;have:=(hrsN r hr).1;omega,fun hc=>by have:=hlow _ hc;omega,fun r hr=>(hrsN r hr).2.2,h0,hL1⟩
  ·by_cases hx0:X0 x
   ·exact .inr hx0
   ·exact .inl (by rw [hbs0];exact⟨hx,hx0⟩)
  ·obtain⟨q1,q2,q3⟩:=hX0w x hx
   exact⟨by omega,q2,hX0n x hx,fun hc=>by have:=(hrsN x hc).1;omega,by omega,.inl q1⟩
  ·exact hA0.next hB1.size (fun x hx _=>hB1.block x hx) hA0.out (fun x hx=>Nat.lt_of_lt_of_le (hA0.le x hx) hB1.size) (fun x hx=>.inl hx) (fun x hx=>(hA0.own_base x hx).1)
 have hvals:∀ (i:Nat) x v,((pre++.d (.yld l)::post).map (AV.mapN (inv ns)))[i]?=some x→(fst++(#[.func (.yield l) #[] #[]]++caps))[i]?=some v→AVRel W1 (ownOf os0 μi) μi x v:=by
  intro i x v hx hv
  simp only [List.getElem?_map,Option.map_eq_some_iff] at hx
  obtain⟨y,hx,rfl⟩:=hx
  have:=z211 (μ:=μ) (w:=w) (own:=ownOf out μ) hpl hpre (ys:=[AV.d (.yld l)]++post) (vs:=(#[Value.func (.yield l) #[] #[]]:Array Value)++caps)
   (z211 (xs:=[AV.d (.yld l)]) (us:=(#[Value.func (.yield l) #[] #[]]:Array Value)) rfl (fun i x v q1 q2=>by
    cases i with
    | zero=>simp at q1 q2;subst q1;subst q2;exact .d (.yld _)
    | succ i=>simp at q1) hpost) i y v hx hv
  exact this.mapN (.inl hgi) (fun n _ hs k hk=>hinv n hs k hk)
 have hcalls:=hit.2 l JJ W1 bs0 os0 μi (fst++(#[.func (.yield l) #[] #[]]++caps)) hOJ hG (fun x hx=>by
   rw [hos0] at hx
   rw [hbs0]
   rcases hx with hx | hx
   ·exact⟨by have:=hlow x hx;omega,fun hc=>hX0n x hc hx⟩
   ·exact⟨by omega,fun hc=>by have:=(hX0w _ hc).2.2;omega⟩)
  (fun x hx=>by rw [hbs0] at hx;exact hx.1) hMi (hA.hid.goes hgi) (by simp [hpl,hql];omega) hvals (hfirm _ _ _ _ hJ0)
 refine⟨l,rsN.map fun r=>{ target:=.collected r,args:=#[] },W1,{ target:=.fn (.func f) caps,args:=fst++#[.func (.yield l) #[] #[]] },W1,f,
  fst++(#[.func (.yield l) #[] #[]]++caps),W1,?_,?_,fun _ _=>trivial,?_,fun h=>(by cases h),?_⟩
 ·exact hent
 ·simp only [resolve]
  have hgv':({ tmps:=tmps,defers:=ds }:Act).eval g=.func (.func f) fst caps:=hgv
  simp only [hgv']
  simp [Deferred.ofValue,go_sem]
 ·simp [invoke];exact hit.1 _ _
 ·refine (callsIn_wide (n:=n - 1)).2 (hcalls.mono ?_)
  rintro e W2 ⟨v,bF,oF,rfl,_,_,hj⟩
  have hMk:∀ (o':Own) (μ':Pl) (W4:World),Stays w (ownOf out μ) W4 (ownOf o' μ')→(∀ r ∈ rsN,¬ ownOf o' μ' r)→(∀ r ∈ rsN,W4.heap[r]?=some (.deferred (some []))) →
    Marked B (ownOf o' μ') ((rsN.map fun r=>{ target:=.collected r,args:=#[] })++ds) W4:=by
   intro o' μ' W4 hs hno hd
   obtain⟨q0,rs,q1,q2,q3⟩:=hM
   refine⟨Nat.le_trans q0 hs.1,rsN++rs,by rw [q1,List.map_append],?_,fun r hr=>?_⟩
   ·rw [List.nodup_append]
    refine⟨hndN,q2,fun x hx y hy e=>?_⟩
    subst e
    have:=(Array.getElem?_eq_some_iff.1 (q3 _ hy).2.2).1
    have:=(hrsN x hx).1
    omega
   ·rcases List.mem_append.1 hr with hr | hr
    ·exact⟨Nat.le_trans q0 (hrsN r hr).1,hno r hr,hd r hr⟩
    ·obtain⟨p1,p2,p3⟩:=q3 r hr
     obtain⟨p4,p5⟩:=hs.2 r (Array.getElem?_eq_some_iff.1 p3).1 p2
     exact⟨p1,p5,p4.trans p3⟩
  rcases hj with hj | hj
  ·have hj:=hj W2 (.refl _ _)
   rw [hJJ] at hj
   obtain⟨_,kk,a,b',o',μ',X,g1,g2,g3,g4,g5,g6,g7,g8,g9,g10,h7,h8⟩:=hj
   have hel:∃ o4,(Instr.endLoop l).run P W2=.ok (none) (W2.putObj l o4):=⟨_,by
    have hel:=run_endLoop (P:=P) h8 (by rw [hrec];simp)
    have hpn:(rec .ready none).pending=none:=by rw [hrec]
    rw [hpn] at hel
    exact hel⟩
   obtain⟨o4,hel⟩:=hel
   have ho2:Other l W2 (W2.putObj l o4):=z45 h8 (fun _ _ _ e=>by cases e) (fun _ _ e=>by cases e)
   refine⟨none,_,hel,?_⟩
   have hs4:Stays w (ownOf out μ) (W2.putObj l o4) (ownOf o' μ') :=
    ⟨by rw [World.putObj_size];exact g7.1,fun b hb ho=>⟨(World.putObj_heap_other (by omega)).trans (g7.2 b hb ho).1,(g7.2 b hb ho).2⟩⟩
   have g5':=(g5.other ho2).next (Nat.le_refl _) (fun _ _ _=>rfl) g4 (fun x hx=>(g5.other ho2).le x (.inl hx)) (fun x hx=>.inl (.inl hx)) (fun x hx hc=>(g5.own_base x hx).1 (.inl hc))
   exact⟨kk,fs a,b',o',μ',g5',z48 hO g6 (fun x hx=>g5.le x (.inl hx)) (by omega) (fun hc=>g9 (.inl hc)) ho2,hMk o' μ' _ hs4 g8 (fun r hr=>by rw [World.putObj_heap_other (by have:=(hrsN r hr).2.1;omega)];exact g10 r hr),hs4,Same.refl _ _,hdone kk a h7⟩
  ·have hj:=hj W2 (.refl _ _)
   rw [hJJ] at hj
   obtain⟨e,kk,a,b',o',μ',X,g1,g2,g3,g4,g5,g6,g7,g8,g9,g10,h7,hjs,h8⟩:=hj
   have hel:∃ o4,(Instr.endLoop l).run P W2=.ok (jumpCode e) (W2.putObj l o4):=⟨_,by
    have hel:=run_endLoop (P:=P) h8 (by rw [hrec];simp)
    have hpn:(rec .done (jumpCode e)).pending=jumpCode e:=by rw [hrec]
    rw [hpn] at hel
    exact hel⟩
   obtain⟨o4,hel⟩:=hel
   have ho2:Other l W2 (W2.putObj l o4):=z45 h8 (fun _ _ _ e=>by cases e) (fun _ _ e=>by cases e)
   refine⟨jumpCode e,_,hel,?_⟩
   have hs4:Stays w (ownOf out μ) (W2.putObj l o4) (ownOf o' μ') :=
    ⟨by rw [World.putObj_size];exact g7.1,fun b hb ho=>⟨(World.putObj_heap_other (by omega)).trans (g7.2 b hb ho).1,(g7.2 b hb ho).2⟩⟩
   have g5':=(g5.other ho2).next (Nat.le_refl _) (fun _ _ _=>rfl) g4 (fun x hx=>(g5.other ho2).le x (.inl hx)) (fun x hx=>.inl (.inl hx)) (fun x hx hc=>(g5.own_base x hx).1 (.inl hc))
   have hend:∀ Q',Q' e kk (fs a)→Ends P J B (dsts (.rangeFunc g ps assign body)) (ownOf out μ) tmps w Q' e { tmps:=tmps,defers:=(rsN.map fun r=>{ target:=.collected r,args:=#[] })++ds } (W2.putObj l o4):=fun Q' hq =>
    ⟨kk,fs a,b',o',μ',g5',z48 hO g6 (fun x hx=>g5.le x (.inl hx)) (by omega) (fun hc=>g9 (.inl hc)) ho2,hMk o' μ' _ hs4 g8 (fun r hr=>by rw [World.putObj_heap_other (by have:=(hrsN r hr).2.1;omega)];exact g10 r hr),hs4,Same.refl _ _,hq⟩
   have hq:=hstop e kk a h7 hjs
   cases e with
   | ret=>exact wpIn_ret (hend _ hq)
   | exit id=>exact wpIn_exit (hend _ hq)
   | goto t=>exact wpIn_goto (hend _ hq)
   | _=>simp [jumpCode] at hjs
theorem z228 {rd:Option Nat} {n:Nat} {α:Type} {cs:List Code} {Q:Exit→Option Nat→St→Prop} {g:Operand} {ps:Array Tmp} {assign body:Code} {f:FuncId} {pre post:List AV} {items:List (List DV)} (hrd:∀ l0,rd=some l0→InLoop l0 J) (ns:List Nat) {m0:List Blk}
  (hg:rangeOf st g=some (f,pre,post)) (hnd:ns.Nodup) (hm0:ceded st ns ns=some m0) (hit:IterE P f m0 (fun l=>(pre++.d (.yld l)::post).map (AV.mapN (inv ns))) items) (hps:∀ row ∈ items,row.length=ps.size)
  (ts:α→List (Nat × AV)) (ms:α→List (Nat × Option Blk)) (I:Nat→α→Prop) (Ix:Exit→α→Prop) (a0:α) (hw:Weak (st.cede ns) ((st.cede ns).head (dsts (.rangeFunc g ps assign body)) (ts a0) (ms a0))) (h0:I 0 a0)
  (hround:∀ X W i a row,items[i]?=some row→I i a→∀ l m,WalkL P (some l) m (lendJ X W J) [assign] k { t:=setPs ps.toList row ((st.cede ns).head (dsts (.rangeFunc g ps assign body)) (ts a) (ms a)).t,m:=((st.cede ns).head (dsts (.rangeFunc g ps assign body)) (ts a) (ms a)).m }
   (thenA (fun k2 s=>∀ J2,InLoop l J2→WalkL P (some l) m J2 [body] k2 s fun e k3 s3=>k3=k∧match e with
    | .normal=>∃ a',Weak (s3.wipe (dsts (.rangeFunc g ps assign body))) ((st.cede ns).head (dsts (.rangeFunc g ps assign body)) (ts a') (ms a'))∧I (i + 1) a'
    | e=>(jumpCode e).isSome∧∃ a',Weak (s3.wipe (dsts (.rangeFunc g ps assign body))) ((st.cede ns).head (dsts (.rangeFunc g ps assign body)) (ts a') (ms a'))∧Ix e a') (fun _ _ _=>False)))
  (hdone:∀ a,I items.length a→WalkL P rd n J cs k ((st.cede ns).head (dsts (.rangeFunc g ps assign body)) (ts a) (ms a)) Q) (hstop:∀ e a,Ix e a→(jumpCode e).isSome→Q e k ((st.cede ns).head (dsts (.rangeFunc g ps assign body)) (ts a) (ms a))) :
  WalkL P rd n J (.rangeFunc g ps assign body::cs) k st Q:=by
 refine z591 hrd ns hg hnd hm0 hit hps (fun a=>(st.cede ns).head (dsts (.rangeFunc g ps assign body)) (ts a) (ms a)) (fun k' i a=>k'=k∧I i a) (fun e k' a=>k'=k∧Ix e a) a0 hw ⟨rfl,h0⟩ ?_ ?_ ?_
 ·rintro X W k' i a row hi ⟨rfl,hI⟩ l m
  refine z53 (hround X W i a row hi hI l m) fun e k2 s hq=>?_
  cases e with
  | normal =>
   refine fun J2 hJ2=>z53 (z21 (hq J2 hJ2)) fun e k3 s3 hq3=>?_
   obtain⟨rfl,h⟩:=hq3
   cases e with
   | normal=>obtain⟨a',h1,h2⟩:=h;exact⟨a',h1,rfl,h2⟩
   | _=>obtain⟨hj,a',h1,h2⟩:=h;exact⟨hj,a',h1,rfl,h2⟩
  | _=>exact hq
 ·rintro k' a ⟨rfl,hI⟩;exact hdone a hI
 ·rintro e k' a ⟨rfl,hI⟩ hj;exact hstop e a hI hj
end
end Go.Ab
