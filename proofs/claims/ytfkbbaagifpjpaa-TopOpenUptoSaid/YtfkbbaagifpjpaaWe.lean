/- A walk engine over abstract states, and the contracts of the functions that the statement reaches: part 5. -/
import Derived.Test.YtfkbbaagifpjpaaWd
set_option linter.unusedVariables false
set_option linter.unusedSimpArgs false
set_option linter.unnecessarySimpa false
/- A range over a map that is read. -/
namespace Go.Ab
open Go.RowKit
open Go.ChangeMaps (setBlock)
section
variable {P:Program} {base:Own} {out:Own} {st st':St} {μ:Pl} {tmps:Array Value} {w w':World} {J:Env} {k:Option Nat} {B:Nat}
theorem z944 {r:Nat} {m:Option Nat} {s:Nat} {seen:Array Nat} {c:Nat} (h:w.heap[r]?=some (.mapIter m s seen c)) (o:Obj):Other r w (setBlock w r o) :=
 ⟨⟨rfl,rfl,rfl,by simp [setBlock],fun k hk=>by simp [setBlock,Ne.symm hk]⟩,fun cs ty x e=>(by rw [h] at e;cases e),fun es c e=>(by rw [h] at e;cases e)⟩
theorem z257:∀ (a b:List Oper),opDsts (a++b)=opDsts a++opDsts b
 | [],b=>rfl
 | x::a,b=>by
  simp only [List.cons_append,opDsts]
  rw [z257 a b]
  cases x.dst <;> simp
set_option maxHeartbeats 4000000 in
theorem z362 {rd:Option Nat} {n:Nat} {α:Type} {cs:List Code} {Q:Exit→Option Nat→St→Prop} {id8 id9 b2:Nat} {ops8:Array Oper} {pre:List Oper} {oR oN oX:Oper} {tI dN dE:Nat} {mt kt et:TypeId} {m:Operand} {bc:Code}
  (h8:ops8.toList=pre++[oR]) (hoR:oR.op=.range mt m) (hgR:oR.guard=none) (hdR:oR.dst=some tI)
  (hoN:oN.op=.next (.tmp tI) false) (hgN:oN.guard=none) (hdN:oN.dst=some dN) (hoX:oX.op=.extract (.tmp dN) 0) (hgX:oX.guard=none) (hdX:oX.dst=some dE)
  (hmt:P.underlying mt=some (.map kt et)) (htI:(dsts bc).contains tI=false) (hNI:dN≠tI) (hEI:dE≠tI) (hNE:dN≠dE)
  (kk:KK) (keys:List (MK × Nat)) (vals:List DV) (clock:Nat) (hcl:∀ (i:Nat) (p:MK × Nat),keys[i]?=some p→p.2<clock) (hnd:(keys.map (·.2)).Nodup) (hfl:∀ (i:Nat) (d:DV),vals[i]?=some d→d.flat=true)
  (fs:α→St) (I:List Nat→α→Prop)
  (hpre:∀ K:St→Prop,(∀ s,(s.ev m=.d (.mp kk keys vals clock)∧∃ a0,Weak (s.put (some tI) .undef) (fs a0)∧I [] a0)→K s)→runK P ops8 pre st K)
  (hlen:∀ seen a,I seen a→dN<(fs a).t.length∧dE<(fs a).t.length∧tI<(fs a).t.length)
  (hround:∀ seen a i key val,I seen a→keys[i]?=some key→vals[i]?=some val→i ∉ seen→∀ r J2,IterAt P r (keyD key.1) val J2 →
   WalkL P rd n J2 [bc] k ((((fs a).put (some dN) .undef).put (some dE) (.d (.bool true))).put (some tI) (.d (.raw r 0))) (fun e k' s=>e=.normal∧k'=k∧∃ a',Weak (s.put (some tI) .undef) (fs a')∧I (seen++[i]) a'))
  (hdone:∀ seen a,I seen a→(∀ i,i<keys.length→i ∈ seen)→seen.Nodup→WalkL P rd n J cs k (((fs a).put (some dN) .undef).put (some dE) (.d (.bool false))) Q) :
  WalkL P rd n J (.seq (.region id8 ops8 false) (.block b2 (.loop (.seq (.region id9 #[oN,oX] false) (.seq (.cond (.tmp dE) .skip (.exit b2)) bc))))::cs) k st Q:=by
 intro B base out μ tmps w ds hO hA hJ hM
 obtain ⟨s1,hseq,hev1,a0,hw0,hI0⟩:=z145 _ _ _ (hpre _ fun _ h=>h)
 obtain ⟨D,hD⟩:∃ D,D=dsts (.seq (.region id8 ops8 false) (.block b2 (.loop (.seq (.region id9 #[oN,oX] false) (.seq (.cond (.tmp dE) .skip (.exit b2)) bc))))):=⟨_,rfl⟩
 rw [← hD]
 have hDN:dN ∈ D:=by rw [hD];simp [dsts,opDsts,hdN]
 have hDE:dE ∈ D:=by rw [hD];simp [dsts,opDsts,hdN,hdX]
 have hDb:∀ i,i ∈ dsts bc→i ∈ D:=fun i hi=>by rw [hD];simp [dsts,hi]
 have hDp:∀ i,i ∈ opDsts pre→i ∈ D:=fun i hi=>by
  have:i ∈ opDsts ops8.toList:=by
   rw [h8]
   rw [z257];simp [hi]
  rw [hD];simp only [dsts,List.mem_append];exact .inl this
 have hDI:tI ∈ D:=by
  have:tI ∈ opDsts ops8.toList:=by
   rw [h8]
   rw [z257];simp [opDsts,hdR]
  rw [hD];simp only [dsts,List.mem_append];exact .inl this
 refine wpIn_seq (wpIn_region ?_)
 have hsz:ops8.size=pre.length + 1:=by have:=congrArg List.length h8;simpa using this
 have hget:∀ i q,(pre++[oR])[i]?=some q→ops8[i]?=some q:=fun i q hq=>by rw [← h8,Array.getElem?_toList] at hq;exact hq
 rw [List.range_eq_range',hsz,List.range'_concat,Nat.one_mul,Nat.zero_add]
 refine z430 pre 0 st μ tmps w (fun i q hi=>by
  rw [Nat.zero_add]
  exact hget i q (by rw [List.getElem?_append_left (List.getElem?_eq_some_iff.1 hi).1];exact hi)) hseq hA fun tmps1 μ1 w1 hA1 hK1 hS1=>?_
 have hoR8:ops8[pre.length]?=some oR:=hget _ _ (by simp)
 rw [wpOpsIn_cons]
 unfold wpOpIn
 simp only [hoR8,Region.wanted,hgR,if_true]
 -- the map
 have hxm:=hA1.ev m ds
 rw [hev1] at hxm
 obtain ⟨bm,mes,hmv,hbo,hbh,hkl,hvl,hkm,hvm⟩:=z1032 hxm
 have hrunR:=run_range_map (P:=P) w1 mt kt et bm mes clock hmt hbh
 refine z109 (v:=.pointer (some ⟨w1.heap.size,0,none⟩)) (w':=w1.alloc (.mapIter (some bm) clock #[] clock)) (by rw [hoR];intro c hc;cases hc) ?_ ?_
 ·unfold execOp
  simp only [hoR,hmv]
  simp [hrunR]
 obtain ⟨r,hr⟩:∃ r,r=w1.heap.size:=⟨_,rfl⟩
 rw [← hr]
 simp only [wpOpsIn,Exit.then]
 have hBr:B≤r:=by rw [hr];exact Nat.le_trans hM.1 hK1.keep.below.size
 have hbmlt:bm<w1.heap.size:=(Array.getElem?_eq_some_iff.1 hbh).1
 have hB1:Below w1.heap.size w1 (w1.alloc (.mapIter (some bm) clock #[] clock)):=(Below.refl _ _).alloc (Nat.le_refl _) _
 have hA2:=(hA1.below hB1).put (x:=.undef) (v:=.pointer (some ⟨r,0,none⟩)) (.undef _) oR.dst
 rw [hdR] at hA2 ⊢
 obtain ⟨μ2,hA3,hsub3⟩:=hw0 P base out μ1 _ _ hA2
 have hentry:∀ (i:Nat) key val,keys[i]?=some key→vals[i]?=some val→∀ e,mes[i]?=some e→e.key=key.1.val∧e.born=key.2∧∀ w own,DRel w own val e.val:=fun i key val h1 h2 e h3 =>
  ⟨(hkm i key e h1 h3).1.1,(hkm i key e h1 h3).2,fun w' own'=>(hvm i val e h2 h3).of_flat (hfl i val h2)⟩
 have hold:∀ x ∈ mes.toList,x.born<clock:=fun x hx=>by
  obtain ⟨i,hi⟩:=List.mem_iff_getElem?.1 hx
  rw [Array.getElem?_toList] at hi
  have hlt:i<keys.length:=by rw [hkl];exact (Array.getElem?_eq_some_iff.1 hi).1
  have:=(hkm i keys[i] x (by simp [hlt]) hi).2
  rw [this]
  exact hcl i _ (by simp [hlt])
 have hborn:mes.toList.map (·.born)=keys.map (·.2):=by
  apply List.ext_getElem?
  intro i
  simp only [List.getElem?_map,Array.getElem?_toList]
  by_cases hi:i<mes.size
  ·have hik:i<keys.length:=by omega
   rw [Array.getElem?_eq_getElem hi,List.getElem?_eq_getElem hik]
   simp only [Option.map_some,Option.some.injEq]
   exact (hkm i keys[i] mes[i] (by simp [hik]) (by simp [hi])).2
  ·rw [Array.getElem?_eq_none (by omega),List.getElem?_eq_none (by omega)]
   rfl
 have hndb:(mes.toList.map (·.born)).Nodup:=by rw [hborn];exact hnd
 refine wpIn_block (wpIn_loop (fun a W=>∃ (seen:List Nat) (al:α) (b' o':Own) (μ':Pl),StRel P b' o' (fs al) μ' a.tmps W∧(∀ w'',BelowU b' W w''→J k b' o' w'')∧Marked B (ownOf o' μ') a.defers W∧Stays w (ownOf out μ) W (ownOf o' μ')∧Same D tmps a.tmps ∧
   I seen al∧seen.Nodup∧(∀ i ∈ seen,i<keys.length)∧W.heap[r]?=some (.mapIter (some bm) clock (seen.map fun i=>((keys[i]?).map (·.2)).getD 0).toArray clock)∧W.heap[bm]?=some (.map mes clock)∧¬ ownOf o' μ' r∧¬ ownOf o' μ' bm∧a.tmps[tI]?=some (.pointer (some ⟨r,0,none⟩)))
  (fun _ W=>keys.length - match W.heap[r]? with | some (.mapIter _ _ s _)=>s.size | _=>0) ?_ ?_)
 ·refine ⟨[],a0,base,out,μ2,hA3,fun w'' hb=>hJ w'' (hK1.keep.below.trans ((BelowU.of hB1 hA1.le).trans hb)),?_,?_,?_,hI0,.nil,fun i hi=>by simp at hi,?_,?_,?_,fun hc=>hbo (hsub3 _ hc),?_⟩
  ·refine (hM.stays ⟨hK1.keep.below.size,hK1.stays⟩).stays ⟨hB1.size,fun b hb ho=>⟨hB1.block b hb,fun hc=>ho (hsub3 _ hc)⟩⟩
  ·exact Stays.trans ⟨hK1.keep.below.size,hK1.stays⟩ ⟨hB1.size,fun b hb ho=>⟨hB1.block b hb,fun hc=>ho (hsub3 _ hc)⟩⟩
  ·exact (hS1.mono hDp).trans ((z54 tmps1 (some tI) _).mono fun i hi=>by simp at hi;rw [hi];exact hDI)
  ·rw [hr];exact World.alloc_heap_new w1 _
  ·rw [hB1.block bm hbmlt];exact hbh
  ·intro hc
   have:=z46 hA1 r (hsub3 _ hc)
   omega
  ·have hlt:tI<tmps1.size:=by
    have h1:=(hlen [] a0 hI0).2.2
    have h2:=hA3.size
    simp [putT] at h2
    omega
   simp [putT,hlt]
 ·rintro a W ⟨seen,al,b',o',μ',g1,g2,g3,g4,g5,g6,g7,g8,g9,g10,g11,g12,g13⟩
  have hrlt:r<W.heap.size:=(Array.getElem?_eq_some_iff.1 g9).1
  obtain ⟨hl1,hl2,hl3⟩:=hlen seen al g6
  have hsz':=g1.size
  refine wpIn_seq (wpIn_region ?_)
  rw [show (#[oN,oX]:Array Oper).size=2 from rfl,show List.range 2=[0,1] from rfl,wpOpsIn_cons]
  unfold wpOpIn
  simp only [show (#[oN,oX]:Array Oper)[0]?=some oN from rfl,Region.wanted,hgN,if_true]
  have hev:∀ ds,({ tmps:=a.tmps,defers:=ds }:Act).eval (.tmp tI)=.pointer (some ⟨r,0,none⟩):=fun ds=>by
   show a.tmps.getD tI Go.undef=_
   rw [Array.getD_eq_getD_getElem?,g13];rfl
  have hexec:∀ (v:Value) (W':World),(Instr.next (.pointer (some ⟨r,0,none⟩)) false oN.type).run P W=.ok v W'→(execOp ({ tmps:=a.tmps,defers:=a.defers }:Act).eval oN).run P W=.ok (.value v) W':=fun v W' h=>by
   unfold execOp
   simp only [hoN,hev]
   simp [h]
  -- behind the extract
  have hext:∀ (b:Bool) (rest:Array Value) (W':World),(execOp ({ tmps:=putT a.tmps oN.dst (.tuple (#[.bool b]++rest)),defers:=a.defers }:Act).eval oX).run P W'=.ok (.value (.bool b)) W':=fun b rest W'=>by
   have he:({ tmps:=putT a.tmps oN.dst (.tuple (#[.bool b]++rest)),defers:=a.defers }:Act).eval (.tmp dN)=.tuple (#[.bool b]++rest):=by
    show (putT a.tmps oN.dst _).getD dN Go.undef=_
    rw [hdN,Array.getD_eq_getD_getElem?]
    simp [putT,show dN<a.tmps.size by omega]
   unfold execOp
   simp only [hoX,he]
   have h0:(#[Value.bool b]++rest)[0]?=some (.bool b):=by rw [Array.getElem?_append_left (by simp)];rfl
   simp [Instr.extract,h0]
  have hcond:∀ (b:Bool) (v:Value),({ tmps:=putT (putT a.tmps oN.dst v) oX.dst (.bool b),defers:=a.defers }:Act).eval (.tmp dE)=.bool b:=fun b v=>by
   show (putT (putT a.tmps oN.dst v) oX.dst _).getD dE Go.undef=_
   rw [hdN,hdX,Array.getD_eq_getD_getElem?]
   simp [putT,show dE<a.tmps.size by omega]
  have hsame2:∀ (b:Bool) (v:Value),Same D a.tmps (putT (putT a.tmps oN.dst v) oX.dst (.bool b)):=fun b v=>by
   rw [hdN,hdX]
   exact ((z54 a.tmps (some dN) v).mono fun i hi=>by simp at hi;rw [hi];exact hDN).trans ((z54 _ (some dE) _).mono fun i hi=>by simp at hi;rw [hi];exact hDE)
  have htI2:∀ (b:Bool) (v:Value),(putT (putT a.tmps oN.dst v) oX.dst (.bool b))[tI]?=some (.pointer (some ⟨r,0,none⟩)):=fun b v=>by
   rw [hdN,hdX]
   simp only [putT]
   rw [Array.getElem?_setIfInBounds_ne hEI,Array.getElem?_setIfInBounds_ne hNI]
   exact g13
  have hst2:∀ (b:Bool) (v:Value) (W':World),StRel P b' o' (fs al) μ' a.tmps W'→StRel P b' o' (((fs al).put (some dN) .undef).put (some dE) (.d (.bool b))) μ' (putT (putT a.tmps oN.dst v) oX.dst (.bool b)) W':=fun b v W' h=>by
   rw [hdN,hdX]
   exact (h.put (.undef v) (some dN)).put (.d (.bool b)) (some dE)
  rcases run_next_at (P:=P) W oN.type r bm clock clock _ mes clock g9 g10 hold (Nat.le_refl _) with ⟨h0,hrun⟩ | ⟨e,hem,W1,hW1,hrun⟩
  ·-- nothing is left
   refine z109 (v:=.tuple #[.bool false]) (w':=W) (by rw [hoN];intro c hc;cases hc) (hexec _ _ hrun) ?_
   rw [wpOpsIn_cons]
   unfold wpOpIn
   simp only [show (#[oN,oX]:Array Oper)[1]?=some oX from rfl,Region.wanted,hgX,if_true]
   refine z109 (v:=.bool false) (w':=W) (by rw [hoX];intro c hc;cases hc) (hext false #[] W) ?_
   simp only [wpOpsIn,Exit.then]
   refine wpIn_seq (wpIn_cond_false (hcond false _) (wpIn_exit ?_))
   simp only [Exit.then,Exit.inBlock,if_true]
   have hall:∀ i,i<keys.length→i ∈ seen:=fun i hi=>by
    have him:i<mes.size:=by omega
    have hL:leftOf mes (seen.map fun i=>((keys[i]?).map (·.2)).getD 0).toArray=#[]:=Array.eq_empty_of_size_eq_zero h0
    unfold leftOf at hL
    rw [Array.filter_eq_empty_iff] at hL
    have h1:=hL mes[i] (Array.getElem_mem him)
    simp only [Bool.not_eq_true,Bool.not_eq_false',Bool.not_not] at h1
    have hk2:=(hkm i keys[i] mes[i] (by simp [hi]) (by simp [him])).2
    simp only [List.contains_toArray,List.contains_iff_mem,List.mem_map] at h1
    obtain ⟨j,hj,hje⟩:=h1
    have hjl:=g8 j hj
    rw [hk2] at hje
    simp only [List.getElem?_eq_getElem hjl,Option.map_some,Option.getD_some] at hje
    have:j=i:=by
     have e1:(keys.map (·.2))[j]?=(keys.map (·.2))[i]?:=by simp [hjl,hi,hje]
     exact (List.getElem?_inj (by simpa using hjl) hnd).1 e1
    exact this ▸ hj
   have hwk:=hdone seen al g6 hall g7
   have hfin:Ends P J B D (ownOf out μ) tmps w (thenA (fun k s=>WalkL P rd n J cs k s Q) Q) .normal { tmps:=putT (putT a.tmps oN.dst (.tuple #[.bool false])) oX.dst (.bool false),defers:=a.defers } W :=
    ⟨k,_,b',o',μ',hst2 false _ W g1,g2,g3,g4,g5.trans (hsame2 false _),hwk⟩
   simpa using hfin
  ·-- an entry
   have hW1h:W1.heap=W.heap:=by rcases hW1 with rfl | rfl <;> rfl
   have hWb:Below W.heap.size W W1:=by rcases hW1 with rfl | rfl;exact Below.refl _ _;exact (Below.refl _ _).drew
   have g9':W1.heap[r]?=some (.mapIter (some bm) clock (seen.map fun i=>((keys[i]?).map (·.2)).getD 0).toArray clock):=by rw [hW1h];exact g9
   have ho:=z944 g9' (.mapIter (some bm) clock ((seen.map fun i=>((keys[i]?).map (·.2)).getD 0).toArray.push e.born) clock)
   obtain ⟨W2,hW2⟩:∃ W2,W2=setBlock W1 r (.mapIter (some bm) clock ((seen.map fun i=>((keys[i]?).map (·.2)).getD 0).toArray.push e.born) clock):=⟨_,rfl⟩
   rw [← hW2] at hrun ho
   refine z109 (v:=.tuple #[.bool true,e.key,e.val]) (w':=W2) (by rw [hoN];intro c hc;cases hc) (hexec _ _ hrun) ?_
   rw [wpOpsIn_cons]
   unfold wpOpIn
   simp only [show (#[oN,oX]:Array Oper)[1]?=some oX from rfl,Region.wanted,hgX,if_true]
   refine z109 (v:=.bool true) (w':=W2) (by rw [hoX];intro c hc;cases hc) (hext true #[e.key,e.val] W2) ?_
   simp only [wpOpsIn,Exit.then]
   refine wpIn_seq (wpIn_cond_true (hcond true _) (wpIn_skip ?_))
   simp only [Exit.then]
   -- which entry
   have hemm:e ∈ mes:=by
    unfold leftOf at hem
    simp at hem
    exact hem.1
   have hens:e.born ∉ seen.map fun i=>((keys[i]?).map (·.2)).getD 0:=by
    unfold leftOf at hem
    simp at hem
    simpa using hem.2
   obtain ⟨i,hi,hie⟩:=Array.mem_iff_getElem.1 hemm
   have hik:i<keys.length:=by omega
   have hiv:i<vals.length:=by omega
   have hent:=hentry i keys[i] vals[i] (by simp [hik]) (by simp [hiv]) e (by simp [hi,hie])
   have hni:i ∉ seen:=fun hc=>hens (by
    rw [hent.2.1]
    exact List.mem_map.2 ⟨i,hc,by simp [hik]⟩)
   have hz2:W2.heap.size=W.heap.size:=by rw [ho.wrote.size,hW1h]
   have hr2:W2.heap[r]?=some (.mapIter (some bm) clock ((seen.map fun i=>((keys[i]?).map (·.2)).getD 0).toArray.push e.born) clock):=by
    rw [hW2]
    have:r<W1.heap.size:=by rw [hW1h];exact hrlt
    simp [setBlock,this]
   have hne:bm≠r:=by omega
   have hm2:W2.heap[bm]?=some (.map mes clock):=by rw [ho.wrote.block bm hne,hW1h];exact g10
   have gW1:StRel P b' o' (fs al) μ' a.tmps W1:=g1.below hWb
   have gW2:StRel P b' o' (fs al) μ' a.tmps W2:=gW1.other ho
   have hst3:=(hst2 true (.tuple #[.bool true,e.key,e.val]) W2 gW2).tellT (i:=tI) (x:=.d (.raw r 0)) (htI2 true _) (.d (.raw r 0))
   have hgx:Goes W2 (ownOf o' μ') W2 (ownOf (fun x=>o' x∨x=r) μ'):=fun b o v q1 q2=>⟨fun hc=>by
    have:ownOf o' μ' b∨b=r:=by
     rcases hc with (h | h) | h
     ·exact .inl (.inl h)
     ·exact .inr h
     ·exact .inl (.inr h)
    rcases this with hc | rfl
    ·exact q1 hc
    ·rcases q2.block with ⟨_,_,_,e⟩ | ⟨_,_,e⟩ <;> (rw [hr2] at e;cases e),q2⟩
   have hnr:∀ x,ownOf (fun x=>o' x∨x=r) μ' x→ownOf o' μ' x∨x=r:=by
    rintro x ((h | h) | h)
    ·exact .inl (.inl h)
    ·exact .inr h
    ·exact .inl (.inr h)
   have hAr:StRel P (fun x=>b' x∨x=r∨x=bm) (fun x=>o' x∨x=r) ((((fs al).put (some dN) .undef).put (some dE) (.d (.bool true))).put (some tI) (.d (.raw r 0))) μ' (putT (putT a.tmps oN.dst (.tuple #[.bool true,e.key,e.val])) oX.dst (.bool true)) W2:=by
    refine ⟨hst3.size,fun i x v q1 q2=>(hst3.tmp i x v q1 q2).goes hgx (fun _ _ _=>rfl),⟨fun m blk hm=>(hst3.mem.blk m blk hm).goes hgx rfl (fun _ _=>rfl) (fun _ _ _ _ _=>rfl),hst3.mem.dom,hst3.mem.inj,fun m b z l' c hm=>?_⟩,hst3.hid.goes hgx,fun x hc=>hc.elim (fun h=>.inl (hst3.out x h)) (fun h=>.inr (.inl h)),fun x hc=>?_⟩
    ·have:=hst3.mem.base m b z l' c hm
     refine ⟨fun hc=>?_,this.2.1,fun hc=>?_⟩
     ·rcases hc with hc | rfl | rfl
      ·exact this.1 hc
      ·exact g11 (.inr ⟨m,z,l',c,hm⟩)
      ·exact g12 (.inr ⟨m,z,l',c,hm⟩)
     ·rcases hc with hc | rfl
      ·exact this.2.2 hc
      ·exact g11 (.inr ⟨m,z,l',c,hm⟩)
    ·rcases hc with hc | rfl | rfl
     ·exact hst3.le x hc
     ·rw [hz2];exact hrlt
     ·exact (Array.getElem?_eq_some_iff.1 hm2).1
   have hJ2W:∀ w'',BelowU b' W2 w''→J k b' o' w'':=by
    refine z48 hO (fun w'' hb=>g2 w'' ((BelowU.of hWb g1.le).trans hb)) hBr (fun hc=>g11 (.inl hc)) (by rw [hW1h];exact hrlt) ho
   obtain ⟨J2,hJ2⟩:∃ J2,J2=keepJ r (.mapIter (some bm) clock ((seen.map fun i=>((keys[i]?).map (·.2)).getD 0).toArray.push e.born) clock) bm (.map mes clock) J:=⟨_,rfl⟩
   have hJr:J2 k (fun x=>b' x∨x=r∨x=bm) (fun x=>o' x∨x=r) W2:=by
    rw [hJ2]
    exact ⟨b',o',fun _=>.rfl,fun _=>.rfl,fun hc=>g11 (.inl hc),hr2,hm2,g1.out,fun x hx=>by rw [hz2];exact g1.le x hx,hJ2W⟩
   have hIt:IterAt P r (keyD keys[i].1) vals[i] J2:=by
    rw [hJ2]
    rintro k3 b3 o3 w3 ⟨_,_,_,_,_,q4,q5,_⟩
    refine ⟨e.key,e.val,?_,by rw [hent.1];exact z1108 _ _ _,hent.2.2 _ _⟩
    exact run_entry_at w3 r bm clock _ mes clock e q4 q5 (by simpa using hemm) hndb
   have hM2:Marked B (ownOf (fun x=>o' x∨x=r) μ') a.defers W2:=by
    obtain ⟨q0,rs,q1,q2,q3⟩:=g3
    have hner:∀ x ∈ rs,x≠r:=fun x hx e=>by subst e;have:=(q3 _ hx).2.2;rw [g9] at this;cases this
    refine ⟨by rw [hz2];exact q0,rs,q1,q2,fun x hx=>⟨(q3 x hx).1,fun hc=>?_,?_⟩⟩
    ·rcases hnr x hc with hc | hc
     ·exact (q3 x hx).2.1 hc
     ·exact hner x hx hc
    ·rw [ho.wrote.block x (hner x hx),hW1h];exact (q3 x hx).2.2
   have hbd:=z29 (hround seen al i keys[i] vals[i] g6 (by simp [hik]) (by simp [hiv]) hni r J2 hIt) B _ _ μ' _ W2 a.defers (by rw [hJ2];exact z1027 hO) hAr (by rw [hJ2] at hJr ⊢;exact z958 hJr) hM2
   refine wpIn_mono hbd ?_
   rintro e2 a2 w2 ⟨k2,s2,b2',o2',μ2',hA2',hJ2',hM3,hst2',hsa2,rfl,rfl,a',hwk,hI'⟩
   rw [hJ2] at hJ2'
   obtain ⟨b2,o2,q1,q2,q3,hr3,hm3,q5,q6,hJ3⟩:=hJ2' w2 (.refl _ _)
   have hno2:¬ ownOf o2 μ2' r:=by
    rintro (hc | ⟨m,z,l',c,hm⟩)
    ·exact q3 hc
    ·exact (hA2'.mem.base m _ z l' c hm).1 ((q1 r).2 (.inr (.inl rfl)))
   have hsub2:∀ x,ownOf o2 μ2' x→ownOf o2' μ2' x:=fun x hx=>hx.imp (fun h=>(q2 x).2 (.inl h)) id
   have hAx:StRel P b2 o2 s2 μ2' a2.tmps w2:=by
    refine hA2'.next (Nat.le_refl _) (fun _ _ _=>rfl) q5 q6 (fun x hx=>.inl ((q2 x).2 (.inl hx))) (fun x hx hc=>?_)
    exact (hA2'.own_base x hx).1 ((q1 x).2 (.inl hc))
   obtain ⟨μ5,hA5,hsub5⟩:=hwk P b2 o2 μ2' _ _ (hAx.forgetT tI)
   have hst5:∀ x,x<W.heap.size→¬ ownOf o' μ' x→x≠r→w2.heap[x]?=W.heap[x]?∧¬ ownOf o2 μ5 x:=fun x hx hno hxr=>by
    obtain ⟨p1,p2⟩:=hst2'.2 x (by rw [hz2];exact hx) (fun hc=>by rcases hnr x hc with hc | hc;exact hno hc;exact hxr hc)
    exact ⟨p1.trans ((ho.wrote.block x hxr).trans (by rw [hW1h])),fun hc=>p2 (hsub2 x (hsub5 x hc))⟩
   have hszw:W.heap.size≤w2.heap.size:=by rw [← hz2];exact hst2'.1
   have hseen:((seen++[i]).map fun i=>((keys[i]?).map (·.2)).getD 0).toArray=(seen.map fun i=>((keys[i]?).map (·.2)).getD 0).toArray.push e.born:=by
    apply Array.toList_inj.1
    simp [hik,hent.2.1]
   refine ⟨⟨seen++[i],a',b2,o2,μ5,hA5,hJ3,?_,?_,?_,hI',?_,?_,?_,hm3,fun hc=>hno2 (hsub5 r hc),fun hc=>?_,?_⟩,?_⟩
   ·obtain ⟨p0,rs,p1,p2,p3⟩:=hM3
    exact ⟨p0,rs,p1,p2,fun x hx=>⟨(p3 x hx).1,fun hc=>(p3 x hx).2.1 (hsub2 x (hsub5 x hc)),(p3 x hx).2.2⟩⟩
   ·refine ⟨Nat.le_trans g4.1 hszw,fun x hx hno=>?_⟩
    obtain ⟨p1,p2⟩:=g4.2 x hx hno
    have hxr:x≠r:=by
     have:=hK1.keep.below.size
     omega
    obtain ⟨p3,p4⟩:=hst5 x (Nat.lt_of_lt_of_le hx g4.1) p2 hxr
    exact ⟨p3.trans p1,p4⟩
   ·exact g5.trans ((hsame2 true _).trans (hsa2.mono hDb))
   ·rw [List.nodup_append]
    exact ⟨g7,by simp,fun x hx y hy e=>by simp at hy;subst hy;subst e;exact hni hx⟩
   ·intro x hx
    rcases List.mem_append.1 hx with hx | hx
    ·exact g8 x hx
    ·simp at hx;rw [hx];exact hik
   ·rw [hseen];exact hr3
   ·exact (hst2'.2 bm (by rw [hz2];exact (Array.getElem?_eq_some_iff.1 g10).1) (fun hc=>by rcases hnr bm hc with hc | hc;exact g12 hc;exact hne hc)).2 (hsub2 bm (hsub5 bm hc))
   ·have:=hsa2.2 tI (by intro hc;have:(dsts bc).contains tI=true:=by simpa using hc
                        rw [htI] at this;cases this)
    rw [this];exact htI2 true _
   ·simp only [hr3,g9]
    have hsl:seen.length<keys.length:=by
     have hsub:(seen++[i]).length≤(List.range keys.length).length:=by
      refine (List.nodup_append.2 ⟨g7,by simp,fun x hx y hy e=>by simp at hy;subst hy;subst e;exact hni hx⟩:(seen++[i]).Nodup).length_le_of_subset fun x hx=>?_
      rcases List.mem_append.1 hx with hx | hx
      ·exact List.mem_range.2 (g8 x hx)
      ·simp at hx;rw [hx];exact List.mem_range.2 hik
     simp at hsub
     omega
    have e1:((seen.map fun i=>((keys[i]?).map (·.2)).getD 0).toArray.push e.born).size=seen.length + 1:=by simp
    have e2:((seen.map fun i=>((keys[i]?).map (·.2)).getD 0).toArray).size=seen.length:=by simp
    show keys.length - ((seen.map fun i=>((keys[i]?).map (·.2)).getD 0).toArray.push e.born).size<keys.length - ((seen.map fun i=>((keys[i]?).map (·.2)).getD 0).toArray).size
    rw [e1,e2]
    omega
end
end Go.Ab
/- Drawn regions of an iterator that reads some cells of its caller's box: for the first operations the box is lent. -/
namespace Go.Ab
open Go.RowKit
def borrowV (pb:Nat) (drow:List DV):AV→AV
 | .d (.raw b off)=>if b=pb then .d (.ptr drow off) else .d (.raw b off)
 | .d (.ptr [.raw b o] q)=>if b=pb then .d (.ptr [.ptr drow o] q) else .d (.ptr [.raw b o] q)
 | x=>x
def keepFlat:AV→AV
 | .d x=>if x.flat then .d x else .undef
 | .void=>.void
 | _=>.undef
def backT (D:List Nat):List AV→List AV→Nat→List AV
 | x::t,y::s,i=>(if D.contains i then keepFlat y else x)::backT D t s (i + 1)
 | _,_,_=>[]
section
variable {P:Program} {base:Own} {out:Own} {st st':St} {μ:Pl} {tmps:Array Value} {w w':World} {ops:Array Oper} {n:Nat}
theorem z701 {D:List Nat}:∀ {t s:List AV} {i j:Nat} {z:AV},(backT D t s i)[j]?=some z→∃ x y,t[j]?=some x∧s[j]?=some y∧z=if D.contains (i + j) then keepFlat y else x
 | [],s,i,j,z,h=>by simp [backT] at h
 | _::_,[],i,j,z,h=>by simp [backT] at h
 | x::t,y::s,i,j,z,h=>by
  cases j with
  | zero=>simp [backT] at h;exact ⟨x,y,rfl,rfl,by simp [h]⟩
  | succ j =>
   simp only [backT,List.getElem?_cons_succ] at h ⊢
   obtain ⟨a,b,h1,h2,h3⟩:=z701 h
   exact ⟨a,b,h1,h2,by rw [h3,show i + 1 + j=i + (j + 1) by omega]⟩
theorem z700 {D:List Nat}:∀ (t s:List AV) (i:Nat),t.length=s.length→(backT D t s i).length=t.length
 | [],[],_,_=>rfl
 | [],_::_,_,h=>by simp at h
 | _::_,[],_,h=>by simp at h
 | x::t,y::s,i,h=>by simp [backT,z700 t s (i + 1) (by simpa using h)]
theorem z525 (h:StRel P base out st μ tmps w) (hm:noMem st.m=true):∀ k,μ k=none:=fun k=>by
 cases hk:μ k with
 | none=>rfl
 | some L=>obtain ⟨b,hb⟩:=h.mem.dom k (by simp [hk]);exact absurd hb (z180 hm)
theorem z969 (h:StRel P base out st μ tmps w) (hm:noMem st.m=true) {pb:Nat} {drow:List DV} (hp:Pin w out pb (drow.map some)) :
  StRel P base (fun x=>out x∧x≠pb) { t:=st.t.map (borrowV pb drow),m:=st.m } μ tmps w:=by
 have hμ:=z525 h hm
 have hown:∀ k,ownOf (fun x=>out x∧x≠pb) μ k→out k∧k≠pb:=by
  rintro k (hk | ⟨m,z,l,c,hk⟩)
  ·exact hk
  ·rw [hμ m] at hk;cases hk
 have hg:Goes w (ownOf out μ) w (ownOf (fun x=>out x∧x≠pb) μ):=fun b o v h1 h2=>⟨fun hc=>h1 (.inl (hown b hc).1),h2⟩
 obtain ⟨cs,ty,hh,hc⟩:=hp
 have key:∀ off,DRel w (ownOf (fun x=>out x∧x≠pb) μ) (.ptr drow off) (.pointer (some ⟨pb,off,none⟩)):=fun off=>by
  have:=DRel.ptr (w:=w) (own:=ownOf (fun x=>out x∧x≠pb) μ) drow off pb 0 (fun j=>cs.getD j Go.undef)
   (fun j d hj=>by
    obtain ⟨v,h1,h2,h3⟩:=hc j d (by simp [hj])
    have e:cs.getD j Go.undef=v:=by rw [Array.getD_eq_getD_getElem?,h1];rfl
    exact ⟨fun hcc=>(hown pb hcc).2 rfl,by rw [z31 hh,Nat.zero_add,h1,e],by rw [e];exact h2⟩)
   (fun j d hj=>by
    obtain ⟨v,h1,h2,h3⟩:=hc j d (by simp [hj])
    have e:cs.getD j Go.undef=v:=by rw [Array.getD_eq_getD_getElem?,h1];rfl
    rw [e]
    exact h3.goes fun b o u q1 q2=>⟨fun hcc=>q1 (hown b hcc).1,q2⟩)
  simpa using this
 refine ⟨by simp [h.size],fun i x v hx hv=>?_,⟨fun k b hb=>absurd hb (z180 hm),fun k hk=>(by rw [hμ k] at hk;cases hk),fun k q b z l c z' l' c' h1=>(by rw [hμ k] at h1;cases h1),fun k b z l c h1=>(by rw [hμ k] at h1;cases h1)⟩,h.hid.goes hg,fun x hx=>h.out x hx.1,h.le⟩
 simp only [List.getElem?_map,Option.map_eq_some_iff] at hx
 obtain ⟨y,hy,rfl⟩:=hx
 have hrel:=h.tmp i y v hy hv
 unfold borrowV
 split
 ·rename_i b off
  split
  ·rename_i e
   subst e
   rw [z263 hrel]
   exact .d (key off)
  ·exact hrel.goes hg (fun _ _ _=>rfl)
 ·rename_i b o q
  split
  ·rename_i e
   subst e
   have hd:=hrel.d_inv
   cases hd with
   | ptr _ _ b' o' f hc' hd' =>
    refine .d (.ptr _ q b' o' f (fun j d hj=>?_) (fun j d hj=>?_))
    ·have hj0:j=0:=by have:=(List.getElem?_eq_some_iff.1 hj).1;simpa using this
     subst hj0
     obtain ⟨a1,a2⟩:=hc' 0 _ rfl
     exact ⟨fun hcc=>a1 (.inl (hown _ hcc).1),a2⟩
    ·have hj0:j=0:=by have:=(List.getElem?_eq_some_iff.1 hj).1;simpa using this
     subst hj0
     simp at hj
     subst hj
     have:=hd' 0 _ rfl
     generalize f 0=z at this
     cases this
     exact key o
  ·exact hrel.goes hg (fun _ _ _=>rfl)
 ·exact hrel.goes hg (fun _ _ _=>rfl)
theorem z707 {pb:Nat} {drow:List DV} {l:Nat} {items:List (List DV)} {J:Seen} {B0:Nat} (hS:SeenOk B0 J) (hG:Gives P l J items) (hP:∀ k o w',J k o w'→Pin w' o pb (drow.map some)) (p:Nat) {id:Nat} {k:Option Nat} {Q:Exit→Option Nat→St→Prop} (hfol:P.follows .mixedOrders=true) (hback:backB ops=true) (hp:tailB ops p=true) (hps:p≤ops.size)
  (hm:noMem st.m=true) (h:runD P ops (ops.toList.take p) 0 [] { t:=st.t.map (borrowV pb drow),m:=st.m } fun s=>noMem s.m=true∧runZ P pb (drow.map some) l items ops (ops.toList.drop p) k { t:=backT (opDsts ops.toList) st.t s.t 0,m:=s.m } (Q .normal)) :
  Walk P none n (fun k _ o w=>J k o w) (.region id ops true) k st Q:=fun B base out μ tmps w ds hO hst hJ hM=>by
 obtain ⟨rs,s1,hch,hrs,hpr,hm1,hrest⟩:=z133 (ops.toList.take p) 0 [] _ _ (fun j o hj=>by
  rw [List.getElem?_take] at hj
  split at hj
  ·simpa using hj
  ·cases hj) h
 have hrl:rs.map (·.i)=List.range p:=by rw [hrs,List.range_eq_range'];simp [hps]
 have hlen:rs.length=p:=by have:=congrArg List.length hrl;simpa using this
 refine wpIn_region_any hfol ?_
 have hB0:Below w.heap.size w { w with drawn:=w.drawn + 1 }:=(Below.refl _ w).drew
 have hsz:ops.size=(ops.size - p) + p:=by omega
 conv=>arg 7;rw [hsz]
 have hpairs:=z191 (fun k i=>z113 ops.toList [] (fun k i hk=>by simp at hk) (fun k o hk=>by simpa using hk) k i) (by simpa using hpr:pairsB ops (masks ops.toList []) (rs.map Rec.key)=true)
 have hbor:=z969 hst hm (hP _ _ _ (hJ w (.refl _ _)))
 refine z542 (·.i) (fun a b=>indepB ops a.key b.key=true) (Chain P ops) (fun _ _ h=>by cases h;rfl) (fun r rs s s' h=>by cases h with | cons ho hd hl ht=>exact ⟨_,_,ho,hd,hl.1.step,ht⟩) (fun r B s s' A hA h=>z870 A s hA h)
  hback p (fun i j hi hj hs=>z110 hp i j (by omega) hj hs) (ops.size - p) p _ rs _ μ tmps _ hlen (by rw [hrl];exact List.pairwise_lt_range) (by simp) (fun i=>?_) (fun j hj hs=>by simp [hs]) (fun k o ho hk=>?_) hpairs hch (hbor.below hB0) (fun listed' tmps' μ' w' g1 g2 g3 h1 hB hS1=>?_)
 ·rw [hrl]
  simp only [List.mem_range,Array.getElem?_replicate]
  constructor
  ·intro hi;exact ⟨hi,by rw [if_pos (by omega)]⟩
  ·intro hi;exact hi.1
 ·simp only [Array.getElem?_replicate] at hk
  split at hk <;> simp at hk
 ·have hB1:=(KeepO.below (own:=ownOf (fun x=>out x∧x≠pb) μ) hB0 hst.le).trans hB
  have hμ0:=z525 hst hm
  have hμ1:=z525 h1 hm1
  have hst1:Stays w (ownOf out μ) w' (ownOf out μ'):=⟨hB1.keep.below.size,fun x hx hno=>by
   obtain ⟨p1,p2⟩:=hB1.stays x hx (fun hc=>hno (by
    rcases hc with hc | ⟨m,z,l,c,hc⟩
    ·exact .inl hc.1
    ·rw [hμ0 m] at hc;cases hc))
   refine ⟨p1,fun hc=>?_⟩
   rcases hc with hc | ⟨m,z,l,c,hc⟩
   ·exact hno (.inl hc)
   ·rw [hμ1 m] at hc;cases hc⟩
  have hsame:Same (opDsts ops.toList) tmps tmps':=hS1
  have hback1:StRel P base out { t:=backT (opDsts ops.toList) st.t s1.t 0,m:=s1.m } μ' tmps' w':=by
   have hl1:st.t.length=s1.t.length:=by
    have e1:=hst.size
    have e2:=h1.size
    have e3:=hsame.1
    omega
   refine ⟨by rw [z700 _ _ _ hl1];have:=h1.size;omega,fun i x v hx hv=>?_,⟨fun k b hb=>absurd hb (z180 hm1),fun k hk=>(by rw [hμ1 k] at hk;cases hk),fun k q b z l c z' l' c' h1=>(by rw [hμ1 k] at h1;cases h1),fun k b z l c h1=>(by rw [hμ1 k] at h1;cases h1)⟩,hst.hid.goes hst1.goes,hst.out,fun b hb=>Nat.lt_of_lt_of_le (hst.le b hb) hst1.1⟩
   obtain ⟨x0,y0,q1,q2,q3⟩:=z701 hx
   rw [Nat.zero_add] at q3
   by_cases hD:(opDsts ops.toList).contains i=true
   ·rw [if_pos hD] at q3
    subst q3
    unfold keepFlat
    split
    ·rename_i d
     split
     ·rename_i hf
      exact .d ((h1.tmp i _ v q2 hv).d_inv.of_flat hf)
     ·exact .undef v
    ·have:=h1.tmp i _ v q2 hv
     cases this;exact .void
    ·exact .undef v
   ·rw [if_neg hD] at q3
    subst q3
    have hni:i ∉ opDsts ops.toList:=by simpa using hD
    have hv0:tmps[i]?=some v:=by rw [← hsame.2 i hni];exact hv
    exact (hst.tmp i x v q1 hv0).goes hst1.goes fun k _ hk=>by rw [hμ0 k] at hk;cases hk
  refine z300 hback (z110 hp) (ops.size - p) p listed' _ w' (by omega) (Nat.le_refl _) g1 (fun i hi=>g2 i hi (by omega)) g3 ?_
  have:=z321 (n:=n) hS hG hP (ds:=ds) (Qm:=Ends P (fun k _ o w=>J k o w) B (dsts (.region id ops true)) (ownOf out μ) tmps w Q) (ops.toList.drop p) p k _ (Q .normal) base out μ' tmps' w' (fun j o hj=>by simpa [List.getElem?_drop] using hj) hrest hback1 (fun w'' hb=>hJ w'' (hB1.keep.below.trans hb))
   (fun k' st' base' out' μ2 tmps2 w2 h2 hJ' hs hSa hk=>⟨k',st',base',out',μ2,h2,hJ',hM.stays (hst1.trans hs),hst1.trans hs,hS1.trans (hSa.mono fun i hi=>z149 p hi),hk⟩)
  simpa using this
theorem z169 {pb:Nat} {drow:List DV} {l:Nat} {items:List (List DV)} {J:Seen} {B0:Nat} (hS:SeenOk B0 J) (hG:Gives P l J items) (hP:∀ k o w',J k o w'→Pin w' o pb (drow.map some)) (p:Nat) {id:Nat} {k:Option Nat} {cs:List Code} {Q:Exit→Option Nat→St→Prop} (hfol:P.follows .mixedOrders=true) (hback:backB ops=true) (hp:tailB ops p=true) (hps:p≤ops.size)
  (hm:noMem st.m=true) (h:∀ K:Option Nat→St→Prop,(∀ k s,WalkL P none n (fun k _ o w=>J k o w) cs k s Q→K k s)→runD P ops (ops.toList.take p) 0 [] { t:=st.t.map (borrowV pb drow),m:=st.m } fun s=>noMem s.m=true∧runZ P pb (drow.map some) l items ops (ops.toList.drop p) k { t:=backT (opDsts ops.toList) st.t s.t 0,m:=s.m } K) :
  WalkL P none n (fun k _ o w=>J k o w) (.region id ops true::cs) k st Q :=
 z707 hS hG hP p hfol hback hp hps hm (h _ fun _ _ h=>h)
end
attribute [go_sem] borrowV keepFlat backT DV.flat DV.flat.DV.flats
end Go.Ab
namespace Go.Ab
open Go.RowKit Go.Proofs
set_option maxHeartbeats 4000000
set_option maxRecDepth 20000
attribute [local irreducible] WalkL Walk
def staysF (cl:List Clue) (place top:Int):Nat→Int→List Int
 | 0,_=>[]
 | f + 1,m=>if m≤top∧atB cl place m=true then m::staysF cl place top f (m + 1) else []
def staysL (x:Missed) (place m most:Int):List Int:=staysF x.clues place (min most x.now) (min most x.now - m + 1).toNat m
theorem z348 {α:Type} {l:List α} {j:Nat} {x:α} {r:List α} (h:l.drop j=x::r):l[j]?=some x∧l.drop (j + 1)=r∧j<l.length:=by
 have h1:l[j]?=some x:=by
  have:=congrArg (fun l=>l[0]?) h
  simpa using this
 refine ⟨h1,?_,(List.getElem?_eq_some_iff.1 h1).1⟩
 have:=congrArg (List.drop 1) h
 simpa [Nat.add_comm] using this
theorem z139 {α:Type} {l:List α} {j:Nat} (h:l.drop j=[]) (hj:j≤l.length):j=l.length:=by
 have:=List.drop_eq_nil_iff.1 h
 omega
def minRows (l:List Int):List (List DV):=l.map fun m=>[.i m]
theorem z329 {l:List Int} {j:Nat} {m:Int} (h:l[j]?=some m):(minRows l)[j]?=some [.i m]:=by simp [minRows,h]
def trkB (n:Net) (x:Missed):List DV:=[.ptr (huntC n x) 0]
theorem z1177 (n:Net) (x:Missed) (place m0 most:Int) (hp:0≤place) (hm:0≤m0∧m0≤2 ^ 40) (hn:x.now≤2 ^ 40) (hl:x.clues.length<2 ^ 62) :
  IterB Try.prog 75 (fun b=>[.ptr [.i place,.i m0] 0,.ptr [.i most] 0,.ptr [.raw b 0] 0]) ((trkB n x).map some) (minRows (staysL x place m0 most)):=by
 refine z447 40 Try.call75 Try.func75 rfl rfl fun l J B pb hS hG hP=>?_
 simp only [go_sem,St.start,Try.ntmps75]
 repeat (first | refine nx ?_ | (refine z3 fun K hK=>?_;simp only [go_sem];apply hK;clear hK K))
 obtain ⟨L,hL⟩:∃ L,L=staysL x place m0 most:=⟨_,rfl⟩
 obtain ⟨top,htop⟩:∃ top,top=min most x.now:=⟨_,rfl⟩
 rw [← hL]
 have hL0:L=staysF x.clues place top (top - m0 + 1).toNat m0:=by rw [hL,staysL,htop]
 refine z84 (fun (j:Nat)=>[(5,.d (.i (m0 + j)))]) (fun _=>[]) (fun k j=>k=some j∧j≤L.length∧L.drop j=staysF x.clues place top ((top - m0 + 1).toNat - j) (m0 + j)) (fun j=>(top - m0 + 1).toNat + 1 - j) 0 ?_ ⟨rfl,Nat.zero_le _,by simpa using hL0⟩ ?_
 ·simp only [go_sem]
  refine weA ?_ ?_ <;> simp
 ·rintro k j ⟨rfl,hj,hd⟩
  simp only [go_sem]
  have hc9:(huntC n x)[9]?=some (.i x.now):=rfl
  repeat refine nx ?_
  have h74:=z1189 n x place (m0 + j) hp hl
  by_cases h1:m0 + (j:Int)≤min most x.now
  ·have hb1:decide (m0 + (j:Int)≤min most x.now)=true:=by simpa using h1
   have hf1:(top - m0 + 1).toNat - j=((top - m0 + 1).toNat - (j + 1)) + 1:=by omega
   have hw:IntKind.i64.wrap (m0 + (j:Int) + 1)=m0 + ((j + 1:Nat):Int):=by rw [z9 (by omega)];omega
   rw [hf1,staysF] at hd
   by_cases h2:atB x.clues place (m0 + j)=true
   ·rw [if_pos ⟨by omega,h2⟩] at hd
    obtain ⟨hg,hd2,hlt⟩:=z348 hd
    refine z169 hS hG hP 25 (by kernel_rfl) (by kernel_rfl) (by kernel_rfl) (by decide) rfl fun K hK=>?_
    simp only [go_sem,trkB,hc9,hb1]
    refine ⟨_,.fn (hf:=h74) (hd:=rfl) (hr:=.inl rfl),?_⟩
    simp only [go_sem,hb1,h2]
    refine ⟨by kernel_rfl,?_⟩
    refine ⟨rfl,j,[.i (m0 + j)],rfl,rfl,by rw [← hL];exact z329 hg,?_,?_⟩
    ·simp only [go_sem]
     refine hK _ _ ?_
     clear hK K
     refine z10 rfl ?_
     repeat (first | refine nx ?_ | (refine z3 fun K hK=>?_;simp only [go_sem,hw];apply hK;clear hK K))
     refine ⟨j + 1,?_,⟨rfl,hlt,by rw [hd2];congr 1;omega⟩,by omega⟩
     refine weA ?_ ?_ <;> simp
    ·simp only [go_sem]
     refine hK _ _ ?_
     clear hK K
     refine z7 rfl ?_
     repeat (first | refine nx ?_ | (refine z3 fun K hK=>?_;simp only [go_sem];apply hK;clear hK K))
     exact ⟨trivial,.inr rfl⟩
   ·rw [if_neg (fun hc=>h2 hc.2)] at hd
    have h2:atB x.clues place (m0 + j)=false:=by simpa using h2
    have he:=z139 hd hj
    refine z169 hS hG hP 25 (by kernel_rfl) (by kernel_rfl) (by kernel_rfl) (by decide) rfl fun K hK=>?_
    simp only [go_sem,trkB,hc9,hb1]
    refine ⟨_,.fn (hf:=h74) (hd:=rfl) (hr:=.inl rfl),?_⟩
    simp only [go_sem,hb1,h2]
    refine ⟨by kernel_rfl,?_⟩
    refine hK _ _ ?_
    clear hK K
    refine z7 rfl ?_
    repeat (first | refine nx ?_ | (refine z3 fun K hK=>?_;simp only [go_sem];apply hK;clear hK K))
    exact ⟨trivial,.inl (by rw [he,minRows,List.length_map])⟩
  ·have hb1:decide (m0 + (j:Int)≤min most x.now)=false:=by simpa using h1
   have he:j=L.length:=by
    refine z139 ?_ hj
    rw [hd]
    cases hf:(top - m0 + 1).toNat - j with
    | zero=>rfl
    | succ f=>rw [staysF,if_neg (fun hc=>h1 (by rw [← htop];exact hc.1))]
   refine z169 hS hG hP 25 (by kernel_rfl) (by kernel_rfl) (by kernel_rfl) (by decide) rfl fun K hK=>?_
   simp only [go_sem,trkB,hc9,hb1]
   refine ⟨by kernel_rfl,?_⟩
   refine hK _ _ ?_
   clear hK K
   refine z7 rfl ?_
   repeat (first | refine nx ?_ | (refine z3 fun K hK=>?_;simp only [go_sem];apply hK;clear hK K))
   exact ⟨trivial,.inl (by rw [he,minRows,List.length_map])⟩
theorem z1029 (n:Net) (x:Missed) (a b:DV) (place m0 most:Int) (hp:0≤place) (hm:0≤m0∧m0≤2 ^ 40) (hn:x.now≤2 ^ 40) (hl:x.clues.length<2 ^ 62) :
  IterE Try.prog 75 [] (fun l=>[.d (.yld l),.d (.ptr [.i place,.i m0] 0),.d (.ptr [.i most] 0),.d (.ptr [.ptr [.ptr (huntC n x) 0,a,b] 0] 0)]) (minRows (staysL x place m0 most)):=by
 refine z446 40 Try.call75 Try.func75 rfl rfl fun l J hG=>?_
 simp only [go_sem,St.startG,Try.ntmps75,Try.results75,List.map_cons,List.map_nil,List.range_succ,  ]
 repeat (first | refine nx ?_ | (refine z3 fun K hK=>?_;simp only [go_sem];apply hK;clear hK K))
 obtain ⟨L,hL⟩:∃ L,L=staysL x place m0 most:=⟨_,rfl⟩
 obtain ⟨top,htop⟩:∃ top,top=min most x.now:=⟨_,rfl⟩
 rw [← hL]
 have hL0:L=staysF x.clues place top (top - m0 + 1).toNat m0:=by rw [hL,staysL,htop]
 refine z84 (fun (j:Nat)=>[(5,.d (.i (m0 + j)))]) (fun _=>[]) (fun k j=>k=some j∧j≤L.length∧L.drop j=staysF x.clues place top ((top - m0 + 1).toNat - j) (m0 + j)) (fun j=>(top - m0 + 1).toNat + 1 - j) 0 ?_ ⟨rfl,Nat.zero_le _,by simpa using hL0⟩ ?_
 ·simp only [go_sem]
  refine weA ?_ ?_ <;> simp
 ·rintro k j ⟨rfl,hj,hd⟩
  simp only [go_sem]
  have hc9:(huntC n x)[9]?=some (.i x.now):=rfl
  repeat refine nx ?_
  have h74:=z1189 n x place (m0 + j) hp hl
  by_cases h1:m0 + (j:Int)≤min most x.now
  ·have hb1:decide (m0 + (j:Int)≤min most x.now)=true:=by simpa using h1
   have hf1:(top - m0 + 1).toNat - j=((top - m0 + 1).toNat - (j + 1)) + 1:=by omega
   have hw:IntKind.i64.wrap (m0 + (j:Int) + 1)=m0 + ((j + 1:Nat):Int):=by rw [z9 (by omega)];omega
   rw [hf1,staysF] at hd
   by_cases h2:atB x.clues place (m0 + j)=true
   ·rw [if_pos ⟨by omega,h2⟩] at hd
    obtain ⟨hg,hd2,hlt⟩:=z348 hd
    refine z71 hG [] 25 (by kernel_rfl) (by kernel_rfl) (by kernel_rfl) (by decide) fun K hK=>?_
    simp only [go_sem,hc9,hb1]
    refine ⟨_,.fn (hf:=h74) (hd:=rfl) (hr:=.inl rfl),?_⟩
    simp only [go_sem,hb1,h2]
    refine ⟨by kernel_rfl,?_⟩
    refine ⟨rfl,j,[.i (m0 + j)],rfl,rfl,rfl,by rw [← hL];exact z329 hg,?_,?_⟩
    ·simp only [go_sem]
     refine hK _ _ ?_
     clear hK K
     refine z10 rfl ?_
     repeat (first | refine nx ?_ | (refine z3 fun K hK=>?_;simp only [go_sem,hw];apply hK;clear hK K))
     refine ⟨j + 1,?_,⟨rfl,hlt,by rw [hd2];congr 1;omega⟩,by omega⟩
     refine weA ?_ ?_ <;> simp
    ·simp only [go_sem]
     refine hK _ _ ?_
     clear hK K
     refine z7 rfl ?_
     repeat (first | refine nx ?_ | (refine z3 fun K hK=>?_;simp only [go_sem];apply hK;clear hK K))
     exact ⟨trivial,.inr rfl⟩
   ·rw [if_neg (fun hc=>h2 hc.2)] at hd
    have h2:atB x.clues place (m0 + j)=false:=by simpa using h2
    have he:=z139 hd hj
    refine z71 hG [] 25 (by kernel_rfl) (by kernel_rfl) (by kernel_rfl) (by decide) fun K hK=>?_
    simp only [go_sem,hc9,hb1]
    refine ⟨_,.fn (hf:=h74) (hd:=rfl) (hr:=.inl rfl),?_⟩
    simp only [go_sem,hb1,h2]
    refine ⟨by kernel_rfl,?_⟩
    refine hK _ _ ?_
    clear hK K
    refine z7 rfl ?_
    repeat (first | refine nx ?_ | (refine z3 fun K hK=>?_;simp only [go_sem];apply hK;clear hK K))
    exact ⟨trivial,.inl (by rw [he,minRows,List.length_map])⟩
  ·have hb1:decide (m0 + (j:Int)≤min most x.now)=false:=by simpa using h1
   have he:j=L.length:=by
    refine z139 ?_ hj
    rw [hd]
    cases hf:(top - m0 + 1).toNat - j with
    | zero=>rfl
    | succ f=>rw [staysF,if_neg (fun hc=>h1 (by rw [← htop];exact hc.1))]
   refine z71 hG [] 25 (by kernel_rfl) (by kernel_rfl) (by kernel_rfl) (by decide) fun K hK=>?_
   simp only [go_sem,hc9,hb1]
   refine ⟨by kernel_rfl,?_⟩
   refine hK _ _ ?_
   clear hK K
   refine z7 rfl ?_
   repeat (first | refine nx ?_ | (refine z3 fun K hK=>?_;simp only [go_sem];apply hK;clear hK K))
   exact ⟨trivial,.inl (by rw [he,minRows,List.length_map])⟩
end Go.Ab
namespace Go.Ab
open Go.RowKit Go.Proofs
set_option maxHeartbeats 4000000
set_option maxRecDepth 20000
attribute [local irreducible] WalkL Walk
def walksF (cl:List Clue):Nat→Int→List (Int × Bool)
 | 0,_=>[]
 | f + 1,m=>(m,onB8 cl m)::if onB8 cl m=true then walksF cl f (m + 1) else []
def walksL (x:Missed) (leave:Int):List (Int × Bool):=walksF x.clues (x.now - leave).toNat (leave + 1)
def wkRows (l:List (Int × Bool)):List (List DV):=l.map fun m=>[.i m.1,.bool m.2]
theorem z877 {l:List (Int × Bool)} {j:Nat} {m:Int × Bool} (h:l[j]?=some m):(wkRows l)[j]?=some [.i m.1,.bool m.2]:=by simp [wkRows,h]
theorem z1176 (n:Net) (x:Missed) (leave:Int) (hm:0≤leave∧leave≤2 ^ 40) (hn:x.now≤2 ^ 40) (hl:x.clues.length<2 ^ 62) :
  IterB Try.prog 76 (fun b=>[.ptr [.i leave] 0,.ptr [.raw b 0] 0]) ((trkB n x).map some) (wkRows (walksL x leave)):=by
 refine z447 40 Try.call76 Try.func76 rfl rfl fun l J B pb hS hG hP=>?_
 have hw0:IntKind.i64.wrap (leave + 1)=leave + 1 + ((0:Nat):Int):=by rw [z9 (by omega)];omega
 simp only [go_sem,St.start,Try.ntmps76]
 repeat (first | refine nx ?_ | (refine z3 fun K hK=>?_;simp only [go_sem,hw0];apply hK;clear hK K))
 obtain ⟨L,hL⟩:∃ L,L=walksL x leave:=⟨_,rfl⟩
 rw [← hL]
 have hL0:L=walksF x.clues (x.now - leave).toNat (leave + 1):=by rw [hL,walksL]
 refine z84 (fun (j:Nat)=>[(4,.d (.i (leave + 1 + j)))]) (fun _=>[]) (fun k j=>k=some j∧j≤L.length∧L.drop j=walksF x.clues ((x.now - leave).toNat - j) (leave + 1 + j)) (fun j=>(x.now - leave).toNat + 1 - j) 0 ?_ ⟨rfl,Nat.zero_le _,by simpa using hL0⟩ ?_
 ·simp only [go_sem]
  refine weA ?_ ?_ <;> simp
 ·rintro k j ⟨rfl,hj,hd⟩
  have hc9:(huntC n x)[9]?=some (.i x.now):=rfl
  have h77:=zf77 n x (leave + 1 + j) hl
  have tr:trkB n x=[.ptr (huntC n x) 0]:=rfl
  simp only [go_sem]
  repeat refine nx ?_
  refine z144 hS hG hP fun K hK=>?_
  simp only [go_sem,tr,List.map_cons,List.map_nil,hc9]
  refine hK _ _ ?_
  clear hK K
  refine z4 rfl (fun hb=>?_) (fun hb=>?_)
  ·have hb1:leave + 1 + (j:Int)≤x.now:=by simpa using hb
   have hf1:(x.now - leave).toNat - j=((x.now - leave).toNat - (j + 1)) + 1:=by omega
   have hw:IntKind.i64.wrap (leave + 1 + (j:Int) + 1)=leave + 1 + ((j + 1:Nat):Int):=by rw [z9 (by omega)];omega
   rw [hf1,walksF] at hd
   obtain ⟨hg,hd2,hlt⟩:=z348 hd
   repeat refine nx ?_
   refine z144 hS hG hP fun K hK=>?_
   simp only [go_sem,tr,List.map_cons,List.map_nil]
   refine ⟨_,.lent (hf:=h77) (hd:=rfl) (hr:=rfl),?_⟩
   simp only [go_sem]
   refine hK _ _ ?_
   clear hK K
   repeat refine nx ?_
   refine z144 hS hG hP fun K hK=>?_
   simp only [go_sem,tr,List.map_cons,List.map_nil]
   refine ⟨rfl,j,[.i (leave + 1 + j),.bool (onB8 x.clues (leave + 1 + j))],rfl,rfl,by rw [← hL];exact z877 hg,?_,?_⟩
   ·by_cases ho:onB8 x.clues (leave + 1 + j)=true
    ·rw [if_pos ho] at hd2
     simp only [go_sem,ho]
     refine hK _ _ ?_
     clear hK K
     refine z7 rfl ?_
     repeat (first | refine nx ?_ | (refine z3 fun K hK=>?_;simp only [go_sem,hw];apply hK;clear hK K))
     refine ⟨j + 1,?_,⟨rfl,hlt,by rw [hd2];congr 1;omega⟩,by omega⟩
     refine weA ?_ ?_ <;> simp
    ·rw [if_neg ho] at hd2
     have ho:onB8 x.clues (leave + 1 + j)=false:=by simpa using ho
     have he:=z139 hd2 hlt
     simp only [go_sem,ho]
     refine hK _ _ ?_
     clear hK K
     refine z10 rfl ?_
     repeat (first | refine nx ?_ | (refine z3 fun K hK=>?_;simp only [go_sem];apply hK;clear hK K))
     exact ⟨trivial,.inl (by rw [he,wkRows,List.length_map])⟩
   ·simp only [go_sem]
    refine hK _ _ ?_
    clear hK K
    refine z10 rfl ?_
    repeat (first | refine nx ?_ | (refine z3 fun K hK=>?_;simp only [go_sem];apply hK;clear hK K))
    exact ⟨trivial,.inr rfl⟩
  ·have he:j=L.length:=by
    have hb1:¬ leave + 1 + (j:Int)≤x.now:=by simpa using hb
    refine z139 ?_ hj
    rw [hd,show (x.now - leave).toNat - j=0 by omega]
    rfl
   repeat (first | refine nx ?_ | (refine z3 fun K hK=>?_;simp only [go_sem];apply hK;clear hK K))
   exact ⟨trivial,.inl (by rw [he,wkRows,List.length_map])⟩
end Go.Ab
namespace Go.Ab
open Go.RowKit Go.Proofs
set_option maxHeartbeats 4000000
set_option maxRecDepth 20000
attribute [local irreducible] WalkL Walk
structure Arv where
 pl:Int
 mi:Int
 fp:Int
 fm:Int
 pa:Int
 lv:Int
def Arv.spot (a:Arv):List DV:=[.i a.pl,.i a.mi]
def Arv.leg (a:Arv):List DV:=[.i a.fp,.i a.fm,.i a.pa,.i a.lv]
def keyS (p m:Int):MK:=.s [(.i64,p),(.i64,m)]
def entsA:List Arv→Nat→List (MK × DV × Nat)
 | [],_=>[]
 | a::l,j=>(keyS a.pl a.mi,.agg a.leg,j)::entsA l (j + 1)
def arvRows (A:List Arv):List (List DV):=A.map Arv.spot
def legsB (A:List Arv):Blk:=.mp (some [.i64,.i64]) (entsA A 0) A.length
def trkM (h:DV) (A:List Arv):List Blk:=[.box [.d h,.mp 1,.own 2],legsB A,.arr 97 2 (arvRows A)]
def sameS (a b:Arv):Bool:=b.pl == a.pl && b.mi == a.mi
def arriveA (cl:List Clue) (A:List Arv) (a:Arv):List Arv:=if A.any (sameS a) || !atB cl a.pl a.mi then A else A++[a]
theorem z461 (a:Arv):∀ (l:List Arv) (j:Nat),entsA (l++[a]) j=entsA l j++[(keyS a.pl a.mi,.agg a.leg,j + l.length)]
 | [],j=>by simp [entsA]
 | x::l,j=>by simp [entsA,z461 a l];omega
theorem z195 {a b c d:Int}:keyS a b=keyS c d↔a=c∧b=d:=by simp [keyS]
theorem z462 (a:Arv):∀ (l:List Arv) (j i:Nat),l.any (sameS a)=false→findE (entsA l j) (keyS a.pl a.mi) i=none
 | [],_,_,_=>rfl
 | b::l,j,i,h=>by
  simp only [List.any_cons,Bool.or_eq_false_iff] at h
  rw [entsA,findE,if_neg (by rw [z195];intro hc;simp [sameS,hc.1,hc.2] at h)]
  exact z462 a l _ _ h.2
theorem z460 (a:Arv):∀ (l:List Arv) (j i:Nat),l.any (sameS a)=true→∃ q b s,b ∈ l∧sameS a b=true∧findE (entsA l j) (keyS a.pl a.mi) i=some (q,.agg b.leg,s)
 | [],_,_,h=>by simp at h
 | b::l,j,i,h=>by
  by_cases hb:sameS a b=true
  ·refine ⟨i,b,j,by simp,hb,?_⟩
   rw [entsA,findE,if_pos (by rw [z195];simp [sameS] at hb;exact ⟨hb.1.symm,hb.2.symm⟩)]
  ·have hb:sameS a b=false:=by simpa using hb
   simp only [List.any_cons,hb,Bool.false_or] at h
   obtain ⟨q,c,s,h1,h2,h3⟩:=z460 a l (j + 1) (i + 1) h
   refine ⟨q,c,s,by simp [h1],h2,?_⟩
   rw [entsA,findE,if_neg (by rw [z195];intro hc;simp [sameS,hc.1,hc.2] at hb)]
   exact h3
theorem zf64 (T:List DV) (place m0 most:Int):Fn Try.prog 64 [.ptr T 0,.agg [.i place,.i m0],.i most] (.fn 75 [.ptr [.i place,.i m0] 0,.ptr [.i most] 0,.ptr [.ptr T 0] 0]):=by
 refine z12 8 Try.call64 Try.func64 rfl (by decide) fun J=>?_
 simp only [go_sem,St.start,Try.ntmps64,Try.results64]
 repeat (first | refine nx ?_ | (refine z3 fun K hK=>?_;simp only [go_sem];apply hK;clear hK K))
 simp only [go_sem]
theorem z1192 (h:DV) (A:List Arv) (place m0 most:Int):FnG Try.prog 64 (trkM h A) [0] [.box 0 0,.d (.agg [.i place,.i m0]),.d (.i most)] (.fn 75 [.box 3 0,.box 4 0,.box 5 0]) (trkM h A++[.box [.d (.i place),.d (.i m0)],.box [.d (.i most)],.box [.box 0 0]]):=by
 simp only [trkM,legsB]
 refine z157 8 Try.call64 Try.func64 rfl (by decide) [4,5,3] [(0,0)] (by simp only [List.length_cons,List.length_nil];decide) (by kernel_rfl) fun J=>?_
 simp only [go_sem,St.startG,Try.ntmps64,Try.results64,List.map_cons,List.map_nil,List.range_succ,  ]
 repeat (first | refine nx ?_ | (refine z3 fun K hK=>?_;simp only [go_sem];apply hK;clear hK K))
 simp only [go_sem,List.cons_append,List.nil_append]
theorem z1191 (h:DV) (A:List Arv) (leave:Int):FnG Try.prog 65 (trkM h A) [0] [.box 0 0,.d (.i leave)] (.fn 76 [.box 3 0,.box 4 0]) (trkM h A++[.box [.d (.i leave)],.box [.box 0 0]]):=by
 simp only [trkM,legsB]
 refine z157 6 Try.call65 Try.func65 rfl (by decide) [3,2] [(0,0)] (by simp only [List.length_cons,List.length_nil];decide) (by kernel_rfl) fun J=>?_
 simp only [go_sem,St.startG,Try.ntmps65,Try.results65,List.map_cons,List.map_nil,List.range_succ,  ]
 repeat (first | refine nx ?_ | (refine z3 fun K hK=>?_;simp only [go_sem];apply hK;clear hK K))
 simp only [go_sem,List.cons_append,List.nil_append]
theorem zf63 (n:Net) (x:Missed) (A:List Arv) (a:Arv) (hp:0≤a.pl) (hl:x.clues.length<2 ^ 62) (hA:A.length<2 ^ 30) :
  FnG Try.prog 63 (trkM (.ptr (huntC n x) 0) A) [0] [.box 0 0,.d (.agg a.spot),.d (.agg a.leg)] (.tup []) (trkM (.ptr (huntC n x) 0) (arriveA x.clues A a)):=by
 have h74:=z1189 n x a.pl a.mi hp hl
 simp only [trkM,legsB,Arv.spot,Arv.leg]
 by_cases hk:A.any (sameS a)=true
 ·obtain ⟨q,b,s,_,_,hf⟩:=z460 a A 0 0 hk
  rw [keyS] at hf
  have e:arriveA x.clues A a=A:=by rw [arriveA,hk];rfl
  rw [e]
  refine z157 46 Try.call63 Try.func63 rfl (by decide) [] [(0,0)] (by simp only [List.length_cons,List.length_nil];decide) (by kernel_rfl) fun J=>?_
  simp only [go_sem,St.startG,Try.ntmps63,Try.results63,List.map_cons,List.map_nil,List.range_succ,  ]
  repeat (first | refine nx ?_ | (refine z3 fun K hK=>?_;simp only [go_sem,hf,Arv.leg];apply hK;clear hK K) | (refine z6 (by kernel_rfl) (by kernel_rfl) fun K hK=>?_;simp only [go_sem,hf,Arv.leg];refine ⟨by kernel_rfl,hK _ ?_⟩;clear hK K))
  refine z7 rfl ?_
  repeat (first | refine nx ?_ | (refine z3 fun K hK=>?_;simp only [go_sem];apply hK;clear hK K))
  simp only [go_sem]
 ·have hk:A.any (sameS a)=false:=by simpa using hk
  have hf:=z462 a A 0 0 hk
  rw [keyS] at hf
  by_cases ha:atB x.clues a.pl a.mi=true
  ·have e:arriveA x.clues A a=A++[a]:=by rw [arriveA,hk,ha];rfl
   rw [e]
   refine z157 46 Try.call63 Try.func63 rfl (by decide) [] [(0,0)] (by simp only [List.length_cons,List.length_nil];decide) (by kernel_rfl) fun J=>?_
   simp only [go_sem,St.startG,Try.ntmps63,Try.results63,List.map_cons,List.map_nil,List.range_succ,  ]
   repeat (first | refine nx ?_ | (refine z3 fun K hK=>?_;simp only [go_sem,hf,ha];(repeat (first | (refine ⟨_,.lent (hf:=h74) (hd:=rfl) (hr:=rfl),?_⟩;simp only [go_sem,hf,ha]) | (refine ⟨_,.given (hf:=h74) (hd:=rfl) (ha:=rfl),?_⟩;simp only [go_sem,hf,ha])));apply hK;clear hK K) | (refine z6 (by kernel_rfl) (by kernel_rfl) fun K hK=>?_;simp only [go_sem,hf,ha];(repeat (first | (refine ⟨_,.fn (hf:=h74) (hd:=rfl) (hr:=.inl rfl),?_⟩;simp only [go_sem,hf,ha])));refine ⟨by kernel_rfl,hK _ ?_⟩;clear hK K))
   refine z10 rfl ?_
   refine z33 ?_
   refine z170 6 (by kernel_rfl) (by kernel_rfl) (by kernel_rfl) (by decide) fun K hK=>?_
   simp only [go_sem,hf]
   refine ⟨by kernel_rfl,?_⟩
   refine hK _ _ ?_
   clear hK K
   have hrl:(arvRows A).length≤549755813887:=by rw [arvRows,List.length_map];omega
   have hpush:=z461 a A 0
   refine z562 (by kernel_rfl) (by kernel_rfl) fun K hK=>?_
   simp only [go_sem,hrl]
   refine ⟨by kernel_rfl,hK _ ?_⟩
   clear hK K
   repeat (first | refine nx ?_ | (refine z3 fun K hK=>?_;simp only [go_sem];apply hK;clear hK K))
   simp only [go_sem,hpush,arvRows,List.map_append,List.map_cons,List.map_nil,Arv.spot,Arv.leg,keyS,List.length_append,List.length_cons,List.length_nil,Nat.zero_add]
  ·have ha:atB x.clues a.pl a.mi=false:=by simpa using ha
   have e:arriveA x.clues A a=A:=by rw [arriveA,hk,ha];rfl
   rw [e]
   refine z157 46 Try.call63 Try.func63 rfl (by decide) [] [(0,0)] (by simp only [List.length_cons,List.length_nil];decide) (by kernel_rfl) fun J=>?_
   simp only [go_sem,St.startG,Try.ntmps63,Try.results63,List.map_cons,List.map_nil,List.range_succ,  ]
   repeat (first | refine nx ?_ | (refine z3 fun K hK=>?_;simp only [go_sem,hf,ha];(repeat (first | (refine ⟨_,.lent (hf:=h74) (hd:=rfl) (hr:=rfl),?_⟩;simp only [go_sem,hf,ha]) | (refine ⟨_,.given (hf:=h74) (hd:=rfl) (ha:=rfl),?_⟩;simp only [go_sem,hf,ha])));apply hK;clear hK K) | (refine z6 (by kernel_rfl) (by kernel_rfl) fun K hK=>?_;simp only [go_sem,hf,ha];(repeat (first | (refine ⟨_,.fn (hf:=h74) (hd:=rfl) (hr:=.inl rfl),?_⟩;simp only [go_sem,hf,ha])));refine ⟨by kernel_rfl,hK _ ?_⟩;clear hK K))
   refine z7 rfl ?_
   repeat (first | refine nx ?_ | (refine z3 fun K hK=>?_;simp only [go_sem];apply hK;clear hK K))
   simp only [go_sem]
end Go.Ab
/- A range over an iterator that reads what its caller writes beside: the states told by what differs. -/
namespace Go.Ab
open Go.RowKit
theorem z220 {P:Program} {J:Env} {k:Option Nat} {st:St} {rd:Option Nat} {n:Nat} {α:Type} {cs:List Code} {Q:Exit→Option Nat→St→Prop} {g:Operand} {ps:Array Tmp} {assign body:Code} {f:FuncId} {post:List AV} {caps:Nat→List DV} {items:List (List DV)}
  (hrd:∀ l0,rd=some l0→InLoop l0 J) (nb p:Nat) (prow:List (Option DV)) (rs:List Nat)
  (hg:rangeOf st g=some (f,[],post)) (hit:IterB P f caps prow items) (hcaps:∀ b,allSome (post.map (rawV st rs nb b))=some (caps b)) (hps:∀ row ∈ items,row.length=ps.size)
  (ts:α→List (Nat × AV)) (ms:α→List (Nat × Option Blk)) (I:Nat→α→Prop) (Ix:Exit→α→Prop) (a0:α) (hp0:pinned nb p prow st)
  (hw:Weak (releaseAll rs st) (st.head (dsts (.rangeFunc g ps assign body)) (ts a0) (ms a0))) (h0:I 0 a0)
  (hpI:∀ a,pinned nb p prow (st.head (dsts (.rangeFunc g ps assign body)) (ts a) (ms a)))
  (hround:∀ i a row,items[i]?=some row→I i a→∀ l m,WalkL P (some l) m J [assign] k { t:=setPs ps.toList row (st.head (dsts (.rangeFunc g ps assign body)) (ts a) (ms a)).t,m:=(st.head (dsts (.rangeFunc g ps assign body)) (ts a) (ms a)).m }
   (thenA (fun k2 s=>∀ J2,InLoop l J2→WalkL P (some l) m J2 [body] k2 s fun e k3 s3=>k3=k∧match e with
    | .normal=>∃ a',Weak (s3.wipe (dsts (.rangeFunc g ps assign body))) (st.head (dsts (.rangeFunc g ps assign body)) (ts a') (ms a'))∧I (i + 1) a'
    | e=>(jumpCode e).isSome∧∃ a',Weak (s3.wipe (dsts (.rangeFunc g ps assign body))) (st.head (dsts (.rangeFunc g ps assign body)) (ts a') (ms a'))∧Ix e a') (fun _ _ _=>False)))
  (hdone:∀ a,I items.length a→WalkL P rd n J cs k (st.head (dsts (.rangeFunc g ps assign body)) (ts a) (ms a)) Q) (hstop:∀ e a,Ix e a→(jumpCode e).isSome→Q e k (st.head (dsts (.rangeFunc g ps assign body)) (ts a) (ms a))) :
  WalkL P rd n J (.rangeFunc g ps assign body::cs) k st Q:=by
 refine z559 hrd nb p prow rs hg hcaps hit hps (fun a=>st.head (dsts (.rangeFunc g ps assign body)) (ts a) (ms a)) (fun k' i a=>k'=k∧I i a) (fun e k' a=>k'=k∧Ix e a) a0 hp0 hw ⟨rfl,h0⟩ (fun _ _ a _=>hpI a) (fun _ _ a _=>hpI a) ?_ ?_ ?_
 ·rintro k' i a row hi ⟨rfl,hI⟩ l m
  refine z76 (hround i a row hi hI l m) fun e k2 s hq=>?_
  cases e with
  | normal =>
   refine fun J2 hJ2=>z76 (z29 (hq J2 hJ2)) fun e k3 s3 hq3=>?_
   obtain ⟨rfl,h⟩:=hq3
   cases e with
   | normal=>obtain ⟨a',h1,h2⟩:=h;exact ⟨a',h1,rfl,h2⟩
   | _=>obtain ⟨hj,a',h1,h2⟩:=h;exact ⟨hj,a',h1,rfl,h2⟩
  | _=>exact hq
 ·rintro k' a ⟨rfl,hI⟩;exact hdone a hI
 ·rintro e k' a ⟨rfl,hI⟩ hj;exact hstop e a hI hj
theorem z168 {P:Program} {J:Env} {k:Option Nat} {st:St} {n:Nat} {α:Type} {cs:List Code} {Q:Exit→Option Nat→St→Prop} {g:Operand} {ps:Array Tmp} {assign body:Code} {f:FuncId} {pre post:List AV} {items:List (List DV)}
  (hg:rangeOf st g=some (f,pre,post)) (hit:IterE P f [] (fun l=>(pre++.d (.yld l)::post).map (AV.mapN (inv []))) items) (hps:∀ row ∈ items,row.length=ps.size)
  (ts:α→List (Nat × AV)) (ms:α→List (Nat × Option Blk)) (I:Option Nat→Nat→α→Prop) (Ix:Exit→Option Nat→α→Prop) (a0:α) (hw:Weak st (st.head (dsts (.rangeFunc g ps assign body)) (ts a0) (ms a0))) (h0:I k 0 a0)
  (hround:∀ X W k' i a row,items[i]?=some row→I k' i a→∀ l m,WalkL P (some l) m (lendJ X W J) [assign] k' { t:=setPs ps.toList row (st.head (dsts (.rangeFunc g ps assign body)) (ts a) (ms a)).t,m:=(st.head (dsts (.rangeFunc g ps assign body)) (ts a) (ms a)).m }
   (thenA (fun k2 s=>WalkL P (some l) m (lendJ X W J) [body] k2 s fun e k3 s3=>match e with
    | .normal=>∃ a',Weak (s3.wipe (dsts (.rangeFunc g ps assign body))) (st.head (dsts (.rangeFunc g ps assign body)) (ts a') (ms a'))∧I k3 (i + 1) a'
    | e=>(jumpCode e).isSome∧∃ a',Weak (s3.wipe (dsts (.rangeFunc g ps assign body))) (st.head (dsts (.rangeFunc g ps assign body)) (ts a') (ms a'))∧Ix e k3 a') (fun _ _ _=>False)))
  (hdone:∀ k' a,I k' items.length a→WalkL P none n J cs k' (st.head (dsts (.rangeFunc g ps assign body)) (ts a) (ms a)) Q) (hstop:∀ e k' a,Ix e k' a→(jumpCode e).isSome→Q e k' (st.head (dsts (.rangeFunc g ps assign body)) (ts a) (ms a))) :
  WalkL P none n J (.rangeFunc g ps assign body::cs) k st Q :=
 z558 [] hg (by decide) rfl hit hps (fun a=>st.head (dsts (.rangeFunc g ps assign body)) (ts a) (ms a)) I Ix a0 hw h0 hround hdone hstop
attribute [go_sem] lookD rawV rawOf rangeOf
end Go.Ab
namespace Go.Ab
open Go.RowKit Go.Proofs
set_option maxHeartbeats 4000000
set_option maxRecDepth 20000
attribute [local irreducible] WalkL Walk
structure Cnt where
 pl:Int
 mi:Int
 c:Int
def entsL:List Cnt→Nat→List (MK × DV × Nat)
 | [],_=>[]
 | a::l,j=>(keyS a.pl a.mi,.i a.c,j)::entsL l (j + 1)
def leftB (L:List Cnt):Blk:=.mp (some [.i64,.i64]) (entsL L 0) L.length
def cntL:List Cnt→Int→Int→Int
 | [],_,_=>0
 | a::l,p,m=>if a.pl=p∧a.mi=m then a.c else cntL l p m
def bumpL:List Cnt→Int→Int→List Cnt
 | [],p,m=>[⟨p,m,wr (0 + 1)⟩]
 | a::l,p,m=>if a.pl=p∧a.mi=m then ⟨a.pl,a.mi,wr (a.c + 1)⟩::l else a::bumpL l p m
def hasL (l:List Cnt) (p m:Int):Bool:=l.any fun a=>decide (a.pl=p∧a.mi=m)
theorem z270 {p m:Int}:∀ (l:List Cnt) (j i:Nat),hasL l p m=true→∃ q,findE (entsL l j) (keyS p m) i=some (i + q,.i (cntL l p m),j + q) ∧
  setBorn (entsL l j) ((j + q:Nat):Int) (.i (wr (cntL l p m + 1)))=some (entsL (bumpL l p m) j)∧(bumpL l p m).length=l.length
 | [],_,_,h=>by simp [hasL] at h
 | a::l,j,i,h=>by
  by_cases ha:a.pl=p∧a.mi=m
  ·refine ⟨0,?_,?_,?_⟩
   ·rw [entsL,findE,if_pos (by rw [z195];exact ⟨ha.1.symm,ha.2.symm⟩),cntL,if_pos ha];rfl
   ·rw [entsL,setBorn,if_pos (by simp),bumpL,if_pos ha,cntL,if_pos ha];rfl
   ·rw [bumpL,if_pos ha];rfl
  ·have h':hasL l p m=true:=by simpa [hasL,ha] using h
   obtain ⟨q,h1,h2,h3⟩:=z270 l (j + 1) (i + 1) h'
   refine ⟨q + 1,?_,?_,?_⟩
   ·rw [entsL,findE,if_neg (by rw [z195];exact fun hc=>ha ⟨hc.1.symm,hc.2.symm⟩),h1,cntL,if_neg ha,show i + 1 + q=i + (q + 1) by omega,show j + 1 + q=j + (q + 1) by omega]
   ·rw [entsL,setBorn,if_neg (by simp;omega),bumpL,if_neg ha,cntL,if_neg ha]
    rw [show ((j + (q + 1):Nat):Int)=((j + 1 + q:Nat):Int) by omega,h2]
    rfl
   ·rw [bumpL,if_neg ha];simp [h3]
theorem z281 {d:DV} {k:MK} {z:DV}:∀ (l:List Cnt) (j:Nat),setBorn (entsL l j++[(k,z,j + l.length)]) ((j + l.length:Nat):Int) d=some (entsL l j++[(k,d,j + l.length)])
 | [],j=>by simp [entsL,setBorn]
 | a::l,j=>by
  rw [entsL,List.cons_append,setBorn,if_neg (by simp only [List.length_cons];omega),List.length_cons]
  have:=z281 (d:=d) (k:=k) (z:=z) l (j + 1)
  rw [show j + 1 + l.length=j + (l.length + 1) by omega] at this
  rw [this]
  rfl
theorem z457 {p m:Int}:∀ (l:List Cnt) (j i:Nat),hasL l p m=false→findE (entsL l j) (keyS p m) i=none∧cntL l p m=0 ∧
  entsL (bumpL l p m) j=entsL l j++[(keyS p m,.i (wr (0 + 1)),j + l.length)]∧(bumpL l p m).length=l.length + 1
 | [],j,_,_=>by simp [entsL,findE,cntL,bumpL]
 | a::l,j,i,h=>by
  have ha:¬ (a.pl=p∧a.mi=m):=fun hc=>by simp [hasL,hc] at h
  have h':hasL l p m=false:=by
   rw [hasL,List.any_cons,Bool.or_eq_false_iff] at h
   exact h.2
  obtain ⟨h1,h2,h3,h4⟩:=z457 l (j + 1) (i + 1) h'
  refine ⟨?_,?_,?_,?_⟩
  ·rw [entsL,findE,if_neg (by rw [z195];exact fun hc=>ha ⟨hc.1.symm,hc.2.symm⟩),h1]
  ·rw [cntL,if_neg ha,h2]
  ·rw [bumpL,if_neg ha,entsL,h3,entsL,List.length_cons,List.cons_append]
   congr 3
   congr 2
   omega
  ·rw [bumpL,if_neg ha];simp [h4]
theorem z349 {p m:Int}:∀ (l:List Cnt),cntL (bumpL l p m) p m=wr (cntL l p m + 1)
 | []=>by simp [bumpL,cntL]
 | a::l=>by
  by_cases ha:a.pl=p∧a.mi=m
  ·rw [bumpL,if_pos ha,cntL,if_pos ha,cntL,if_pos ha]
  ·rw [bumpL,if_neg ha,cntL,if_neg ha,cntL,if_neg ha,z349 l]
theorem z660 {p m:Int}:∀ (l:List Cnt),hasL (bumpL l p m) p m=true
 | []=>by simp [bumpL,hasL]
 | a::l=>by
  by_cases ha:a.pl=p∧a.mi=m
  ·rw [bumpL,if_pos ha];simp [hasL,ha]
  ·rw [bumpL,if_neg ha]
   have:=z660 (p:=p) (m:=m) l
   simp [hasL] at this ⊢
   exact .inr this
def walkA (cl:List Clue) (lo hi:Int) (mk:Int→Arv):List (Int × Bool)→List Arv→List Arv
 | [],A=>A
 | w::ws,A=>if w.1 > hi then A else walkA cl lo hi mk ws (if w.1 ≥ lo then arriveA cl A (mk w.1) else A)
def pathA (n:Net) (x:Missed) (p m leave:Int) (A:List Arv) (k:Nat):List Arv:=match n.paths[k]? with
 | some y=>if y.frm=p∧y.grade≤x.party.grade then walkA x.clues (wr (leave + (spanW y x.party).lo)) (wr (leave + (spanW y x.party).hi)) (fun t=>⟨y.to,t,p,m,k,leave⟩) (walksL x leave) A else A
 | none=>A
def pathsA (n:Net) (x:Missed) (p m leave:Int) (k:Nat) (A:List Arv):List Arv:=(List.range k).foldl (pathA n x p m leave) A
def leaveA (n:Net) (x:Missed) (p m:Int) (a:List Arv × List Cnt) (leave:Int):List Arv × List Cnt :=
 if cntL (bumpL a.2 p leave) p leave > 1 then (a.1,bumpL a.2 p leave) else (pathsA n x p m leave n.paths.length a.1,bumpL a.2 p leave)
def spotA (n:Net) (x:Missed) (s:Arv) (a:List Arv × List Cnt):List Arv × List Cnt:=(staysL x s.pl s.mi (wr (s.mi + x.rest))).foldl (leaveA n x s.pl s.mi) a
def followF (n:Net) (x:Missed):Nat→Nat→List Arv × List Cnt→List Arv × List Cnt
 | 0,_,a=>a
 | f + 1,i,a=>match a.1[i]? with
  | some s=>followF n x f (i + 1) (spotA n x s a)
  | none=>a
def startA (x:Missed):List Arv:=arriveA x.clues [] ⟨x.place,x.start,0,0,-1,0⟩
end Go.Ab
namespace Go.Ab
open Go.RowKit Go.Proofs
set_option maxHeartbeats 16000000
set_option maxRecDepth 20000
attribute [local irreducible] WalkL Walk
structure Hunted (n:Net) (x:Missed):Prop where
 net:n.Good
 party:x.party.Good
 place:0≤x.place∧x.place<n.places
 start:0≤x.start∧x.start≤x.now
 now:x.now≤2880
 rest:0≤x.rest∧x.rest≤600
 clues:x.clues.length<2 ^ 30
def goodA (n:Net) (x:Missed) (A:List Arv):Prop:=(∀ a ∈ A,(0≤a.pl∧a.pl<n.places)∧x.start≤a.mi∧a.mi≤x.now)∧(A.map fun a=>(a.pl,a.mi)).Nodup
def boundN (n:Net) (x:Missed):Nat:=n.places.toNat * (x.now - x.start + 1).toNat
theorem z182 {n:Net} {x:Missed} {A:List Arv} (h:goodA n x A):A.length≤boundN n x:=by
 have h1:(A.map fun a=>(a.pl,a.mi)).length≤((List.range n.places.toNat).flatMap fun (i:Nat)=>(List.range (x.now - x.start + 1).toNat).map fun (j:Nat)=>((i:Int),x.start + (j:Int))).length:=by
  refine List.Nodup.length_le_of_subset h.2 fun q hq=>?_
  obtain ⟨a,ha,rfl⟩:=List.mem_map.1 hq
  obtain ⟨⟨h1,h2⟩,h3,h4⟩:=h.1 a ha
  refine List.mem_flatMap.2 ⟨a.pl.toNat,List.mem_range.2 (by omega),List.mem_map.2 ⟨(a.mi - x.start).toNat,List.mem_range.2 (by omega),?_⟩⟩
  simp;omega
 simp only [List.length_map,List.length_flatMap,List.length_range] at h1
 have:(List.map (fun _=>(x.now - x.start + 1).toNat) (List.range n.places.toNat)).sum=n.places.toNat * (x.now - x.start + 1).toNat:=by
  rw [List.map_const',List.sum_replicate_nat,List.length_range]
 rw [boundN];omega
theorem z353 {n:Net} {x:Missed} (h:Hunted n x):boundN n x≤40000:=by
 have h1:=h.net.places
 have h2:=h.start
 have h3:=h.now
 rw [boundN]
 have a1:n.places.toNat≤12:=by omega
 have a2:(x.now - x.start + 1).toNat≤2881:=by omega
 have:=Nat.mul_le_mul a1 a2
 omega
theorem z74 {n:Net} {x:Missed} {A:List Arv} {a:Arv} (h:goodA n x A) (ha:(0≤a.pl∧a.pl<n.places)∧x.start≤a.mi∧a.mi≤x.now):goodA n x (arriveA x.clues A a):=by
 rw [arriveA]
 split
 ·exact h
 ·rename_i hc
  have hc:A.any (sameS a)=false:=by
   rw [Bool.or_eq_true] at hc
   simpa using fun hh=>hc (.inl hh)
  refine ⟨fun b hb=>?_,?_⟩
  ·rcases List.mem_append.1 hb with hb | hb
   ·exact h.1 b hb
   ·simp at hb;subst hb;exact ha
  ·rw [List.map_append,List.nodup_append]
   refine ⟨h.2,by simp,fun u hu v hv e=>?_⟩
   simp at hv
   subst hv;subst e
   obtain ⟨b,hb,he⟩:=List.mem_map.1 hu
   have:=List.any_eq_false.1 hc b hb
   simp [sameS] at this
   simp at he
   exact this he.1 he.2
theorem z166 {cl:List Clue}:∀ {f:Nat} {m:Int} {w:Int × Bool},w ∈ walksF cl f m→m≤w.1∧w.1<m + f
 | 0,m,w,h=>by simp [walksF] at h
 | f + 1,m,w,h=>by
  rw [walksF] at h
  rcases List.mem_cons.1 h with rfl | h
  ·exact ⟨Int.le_refl _,by simp;omega⟩
  ·split at h
   ·have:=z166 h;omega
   ·simp at h
theorem z274 {x:Missed} {leave:Int} {w:Int × Bool} (h:w ∈ walksL x leave):leave + 1≤w.1∧w.1≤x.now:=by
 have:=z166 h
 omega
theorem z279 {cl:List Clue} {p top:Int}:∀ {f:Nat} {m w:Int},w ∈ staysF cl p top f m→m≤w∧w≤top
 | 0,m,w,h=>by simp [staysF] at h
 | f + 1,m,w,h=>by
  rw [staysF] at h
  split at h
  ·rename_i hc
   rcases List.mem_cons.1 h with rfl | h
   ·exact ⟨Int.le_refl _,hc.1⟩
   ·have:=z279 h;omega
  ·simp at h
theorem z278 {x:Missed} {p m most w:Int} (h:w ∈ staysL x p m most):m≤w∧w≤most∧w≤x.now:=by
 have:=z279 h
 omega
end Go.Ab
namespace Go.Ab
open Go.RowKit Go.Proofs
set_option maxHeartbeats 16000000
set_option maxRecDepth 20000
attribute [local irreducible] WalkL Walk
def trkL (h:DV) (A:List Arv):List Blk:=[.box [.d h,.mp 1,.own 2],.mp (some [.i64,.i64]) (entsA A 0) A.length,.arr 97 2 (arvRows A)]
theorem z355 (A:List Arv):(arvRows A).length=A.length:=by simp [arvRows]
theorem z356 {A:List Arv} {i:Nat} {s:Arv} (h:A[i]?=some s):(arvRows A)[i]?=some [.i s.pl,.i s.mi]:=by simp [arvRows,h,Arv.spot]
theorem z1148 (es:List (MK × DV × Nat)):mkE (es.map fun e=>(e.1,e.2.2)) (es.map fun e=>e.2.1)=es:=by
 induction es with
 | nil=>rfl
 | cons e es ih=>simp only [mkE,List.map_cons,List.zipWith_cons_cons] at ih ⊢;rw [ih]
theorem z423 (n:Net) (p:Party) {k:Nat} {y:Path} (hy:n.paths[k]?=some y):∃ ks vs c,timesD n p=.mp none ks vs c ∧
  ((y.grade≤p.grade∧∃ q b,findE (mkE ks vs) (.i k) 0=some (q,.agg (spanW y p).row,b))∨(¬ y.grade≤p.grade∧findE (mkE ks vs) (.i k) 0=none)):=by
 refine ⟨_,_,_,rfl,?_⟩
 rw [z1148]
 have hlt:=(List.getElem?_eq_some_iff.1 hy).1
 by_cases hg:y.grade≤p.grade
 ·obtain ⟨q,b,h⟩:=z458 p (w:=(k,y)) (canL n p) 0 0 (z694 hy hg hlt) (fun v hv e=>by
   obtain ⟨_,h2,_⟩:=z197 hv
   have e:v.1=k:=e
   rw [e,hy] at h2
   cases v
   simp at e h2
   rw [e,h2])
  exact .inl ⟨hg,q,b,h⟩
 ·refine .inr ⟨hg,z271 p _ 0 0 fun w hw e=>hg ?_⟩
  obtain ⟨_,h2,h3⟩:=z197 hw
  have:w.1=k:=by omega
  rw [this,hy] at h2
  cases h2
  exact h3
theorem z344 {k:MK} {d:DV} {b:Nat}:∀ (es:List (MK × DV × Nat)) (i:Nat),findE es k i=none→findE (es++[(k,d,b)]) k i=some (i + es.length,d,b)
 | [],i,_=>by simp [findE]
 | e::es,i,h=>by
  rw [findE] at h
  split at h
  ·cases h
  ·rename_i hk
   rw [List.cons_append,findE,if_neg hk,z344 es (i + 1) h]
   congr 2
   simp;omega
theorem z843 (cl:List Clue) (A:List Arv) (a:Arv):A.length≤(arriveA cl A a).length:=by
 rw [arriveA];split <;> simp
theorem z564 (cl:List Clue) (lo hi:Int) (mk:Int→Arv):∀ (ws:List (Int × Bool)) (A:List Arv),A.length≤(walkA cl lo hi mk ws A).length
 | [],A=>Nat.le_refl _
 | w::ws,A=>by
  rw [walkA];split
  ·exact Nat.le_refl _
  ·refine Nat.le_trans ?_ (z564 cl lo hi mk ws _)
   split
   ·exact z843 _ _ _
   ·exact Nat.le_refl _
theorem z1011 (n:Net) (x:Missed) (p m leave:Int) (A:List Arv) (k:Nat):A.length≤(pathA n x p m leave A k).length:=by
 rw [pathA];split
 ·split
  ·exact z564 _ _ _ _ _ _
  ·exact Nat.le_refl _
 ·exact Nat.le_refl _
theorem z677 {α β:Type} (f:List α→β→List α) (h:∀ a b,a.length≤(f a b).length):∀ (l:List β) (a:List α),a.length≤(l.foldl f a).length
 | [],a=>Nat.le_refl _
 | b::l,a=>Nat.le_trans (h a b) (z677 f h l _)
theorem z952 (n:Net) (x:Missed) (p m:Int) (a:List Arv × List Cnt) (lv:Int):a.1.length≤(leaveA n x p m a lv).1.length:=by
 rw [leaveA];split
 ·exact Nat.le_refl _
 ·exact z677 _ (fun A k=>z1011 n x p m lv A k) _ _
theorem z453 (n:Net) (x:Missed) (p m:Int):∀ (l:List Int) (a:List Arv × List Cnt),a.1.length≤(l.foldl (leaveA n x p m) a).1.length
 | [],a=>Nat.le_refl _
 | b::l,a=>Nat.le_trans (z952 n x p m a b) (z453 n x p m l _)
theorem z994 (n:Net) (x:Missed) (s:Arv) (a:List Arv × List Cnt):a.1.length≤(spotA n x s a).1.length:=z453 _ _ _ _ _ _
theorem zf39 (n:Net) (x:Missed) (hx:Hunted n x):FnG Try.prog 39 [] [] [.d (.ptr (huntC n x) 0)] (.box 0 0) (trkM (.ptr (huntC n x) 0) (followF n x (boundN n x + 1) 0 (startA x,[])).1):=by
 have c7:(huntC n x)[7]?=some (.i x.place):=rfl
 have c8:(huntC n x)[8]?=some (.i x.start):=rfl
 have c10:(huntC n x)[10]?=some (.i x.rest):=rfl
 have c1:(huntC n x)[1]?=some (.sl (n.paths.map Path.row)):=rfl
 have h63:FnG Try.prog 63 [.box [.d (.ptr (huntC n x) 0),.mp 1,.own 2],.mp (some [.i64,.i64]) [] 0,.arr 97 2 []] [0] [.box 0 0,.d (.agg [.i x.place,.i x.start]),.d (.agg [.i 0,.i 0,.i (-1),.i 0])] (.tup [])
   [.box [.d (.ptr (huntC n x) 0),.mp 1,.own 2],.mp (some [.i64,.i64]) (entsA (startA x) 0) (startA x).length,.arr 97 2 (arvRows (startA x))] :=
  zf63 n x [] ⟨x.place,x.start,0,0,-1,0⟩ hx.place.1 (by have:=hx.clues;omega) (by simp)
 have hN:=z353 hx
 have hst:=hx.start
 have hno:=hx.now
 have hre:=hx.rest
 have hcl:=hx.clues
 have hpl:=hx.net.paths
 refine z157 160 Try.call39 Try.func39 rfl (by decide) [16,14,150] [] (by simp only [List.length_cons,List.length_nil];decide) (by kernel_rfl) fun J=>?_
 simp only [go_sem,St.startG,Try.ntmps39,Try.results39,List.map_cons,List.map_nil,List.range_succ,  ]
 repeat (first | refine nx ?_ | (refine z3 fun K hK=>?_;simp only [go_sem];apply hK;clear hK K))
 refine z422 [] [] [(16,some (.box [.d (.ptr (huntC n x) 0),.mp 14,.own 150])),(150,some (.arr 97 2 []))] ?_ ?_
 ·simp only [go_sem]
  refine z32 [150] ?_ ?_ rfl rfl <;> simp [lessT,lessM,lessB,AV.less]
 simp only [go_sem]
 refine z170 13 (by kernel_rfl) (by kernel_rfl) (by kernel_rfl) (by decide) fun K hK=>?_
 simp only [go_sem,c7,c8]
 refine ⟨by kernel_rfl,?_⟩
 refine ⟨_,.own (ns:=[16,14,150]) (news:=[]) (bads:=[14,150]) (rd:=[]) (hf:=h63) (hnd:=by decide) (hl0:=rfl) (hl1:=rfl) (hm:=by repeat (first | exact trivial | refine And.intro ?_ ?_ | rfl)) (hnew:=rfl) (hla:=rfl) (ha:=z162 (by repeat (first | exact trivial | refine And.intro ?_ ?_ | exact z198 rfl | exact z142 rfl rfl))) (hrd:=rfl) (hsh:=z221 _) (hb:=rfl) (hfl:=.inl rfl),?_⟩
 simp only [go_sem,List.map_cons,List.map_nil]
 refine hK _ _ ?_
 clear hK K
 repeat (first | refine nx ?_ | (refine z3 fun K hK=>?_;simp only [go_sem];apply hK;clear hK K))
 obtain ⟨R,hR⟩:∃ R,R=followF n x (boundN n x + 1) 0 (startA x,[]):=⟨_,rfl⟩
 rw [← hR]
 refine z18 (fun (a:Nat × List Arv × List Cnt)=>[(5,.d (.i a.1))]) (fun a=>[(14,some (.mp (some [.i64,.i64]) (entsA a.2.1 0) a.2.1.length)),(150,some (.arr 97 2 (arvRows a.2.1))),(31,some (.mp (some [.i64,.i64]) (entsL a.2.2 0) a.2.2.length))])
  (fun a=>a.1≤a.2.1.length∧goodA n x a.2.1∧R=followF n x (boundN n x + 1 - a.1) a.1 a.2) (fun a=>boundN n x + 1 - a.1) (0,startA x,[]) ?_ ⟨Nat.zero_le _,?_,hR⟩ ?_
 ·simp only [go_sem,entsL,List.length_nil]
  refine weA ?_ ?_ <;> simp
 ·exact z74 ⟨fun a ha=>(by simp at ha),by simp⟩ ⟨hx.place,Int.le_refl _,hst.2⟩
 ·rintro ⟨i,A,L⟩ ⟨hi,hgA,hRi⟩
  dsimp only at hi hgA hRi
  have hAl:=z182 hgA
  have hrl:=z355 A
  simp only [go_sem]
  repeat (first | refine nx ?_ | (refine z3 fun K hK=>?_;simp only [go_sem,hrl];apply hK;clear hK K))
  refine z4 rfl (fun hb=>?_) (fun hb=>?_)
  ·have hlt:i<A.length:=by simpa using hb
   have hw:IntKind.i64.wrap ((i:Int) + 1)=((i + 1:Nat):Int):=by rw [z9 (by omega)];simp
   obtain ⟨s,hs⟩:∃ s,A[i]?=some s:=⟨_,List.getElem?_eq_getElem hlt⟩
   have hrow:=z356 hs
   have hil:i<(arvRows A).length:=by omega
   have hgs:=hgA.1 s (List.mem_of_getElem? hs)
   have h64:FnG Try.prog 64 [.box [.d (.ptr (huntC n x) 0),.mp 1,.own 2],.mp (some [.i64,.i64]) (entsA A 0) A.length,.arr 97 2 (arvRows A)] [0] [.box 0 0,.d (.agg [.i s.pl,.i s.mi]),.d (.i (wr (s.mi + x.rest)))] (.fn 75 [.box 3 0,.box 4 0,.box 5 0])
    [.box [.d (.ptr (huntC n x) 0),.mp 1,.own 2],.mp (some [.i64,.i64]) (entsA A 0) A.length,.arr 97 2 (arvRows A),.box [.d (.i s.pl),.d (.i s.mi)],.box [.d (.i (wr (s.mi + x.rest)))],.box [.box 0 0]]:=z1192 _ A s.pl s.mi _
   repeat (first | refine nx ?_ | (refine z3 fun K hK=>?_;simp only [go_sem,hrow,hil];apply hK;clear hK K))
   refine z170 10 (by kernel_rfl) (by kernel_rfl) (by kernel_rfl) (by decide) fun K hK=>?_
   simp only [go_sem,c10]
   refine ⟨by kernel_rfl,?_⟩
   refine ⟨_,.own (ns:=[16,14,150]) (news:=[151,152,153]) (bads:=[14,150]) (rd:=[]) (hf:=h64) (hnd:=by decide) (hl0:=rfl) (hl1:=rfl) (hm:=by repeat (first | exact trivial | refine And.intro ?_ ?_ | rfl)) (hnew:=rfl) (hla:=rfl) (ha:=z162 (by repeat (first | exact trivial | refine And.intro ?_ ?_ | exact z198 rfl | exact z142 rfl rfl))) (hrd:=rfl) (hsh:=z221 _) (hb:=rfl) (hfl:=.inl rfl),?_⟩
   simp only [go_sem,List.map_cons,List.map_nil]
   refine hK _ _ ?_
   clear hK K
   refine z49 ?_
   have hsp:0≤s.pl:=hgs.1.1
   obtain ⟨Ls,hLs⟩:∃ Ls,Ls=staysL x s.pl s.mi (wr (s.mi + x.rest)):=⟨_,rfl⟩
   have hit:=z1177 n x s.pl s.mi (wr (s.mi + x.rest)) hsp (by omega) (by omega) (by omega)
   rw [← hLs] at hit
   refine z220 (fun _ h=>by cases h) 16 16 ((trkB n x).map some) [151,152,153] rfl hit (fun b=>rfl) (by intro row hr;obtain ⟨w,_,rfl⟩:=List.mem_map.1 hr;rfl)
    (fun _=>[(58,.undef)]) (fun (a:List Arv × List Cnt)=>[(151,none),(152,none),(153,none),(14,some (.mp (some [.i64,.i64]) (entsA a.1 0) a.1.length)),(150,some (.arr 97 2 (arvRows a.1))),(31,some (.mp (some [.i64,.i64]) (entsL a.2 0) a.2.length))])
    (fun i a=>a=(Ls.take i).foldl (leaveA n x s.pl s.mi) (A,L)∧goodA n x a.1) (fun _ _=>False) (A,L) ?_ ?_ ⟨by simp,hgA⟩ ?_ ?_ ?_ (fun _ _ h=>h.elim)
   ·exact ⟨rfl,rfl,trivial⟩
   ·simp only [go_sem]
    refine weA ?_ ?_ <;> simp
   ·intro a
    simp only [go_sem]
    exact ⟨rfl,rfl,trivial⟩
   ·rintro j ⟨A1,L1⟩ row hj ⟨hA1,hgA1⟩ l m
    dsimp only at hA1 hgA1
    obtain ⟨lv,hlv,rfl⟩:∃ lv,Ls[j]?=some lv∧row=[.i lv]:=by
     simp only [minRows,List.getElem?_map,Option.map_eq_some_iff] at hj
     obtain ⟨lv,h1,h2⟩:=hj
     exact ⟨lv,h1,h2.symm⟩
    have hlr:=z278 (hLs ▸ List.mem_of_getElem? hlv)
    have hnext:(Ls.take (j + 1)).foldl (leaveA n x s.pl s.mi) (A,L)=leaveA n x s.pl s.mi (A1,L1) lv:=by
     rw [List.take_add_one,hlv,List.foldl_append,← hA1];rfl
    simp only [go_sem]
    repeat (first | refine nx ?_ | (refine z3 fun K hK=>?_;simp only [go_sem];apply hK;clear hK K))
    intro J2 hJ2
    refine z49 ?_
    obtain ⟨c,hc⟩:∃ c,c=wr (cntL L1 s.pl lv + 1):=⟨_,rfl⟩
    obtain ⟨L2,hL2⟩:∃ L2,L2=bumpL L1 s.pl lv:=⟨_,rfl⟩
    have hcb:cntL L2 s.pl lv=c:=by rw [hL2,hc,z349]
    obtain ⟨q2,hq2,_⟩:=z270 (p:=s.pl) (m:=lv) L2 0 0 (by rw [hL2];exact z660 L1)
    rw [keyS,hcb,Nat.zero_add] at hq2
    have hc':IntKind.i64.wrap (cntL L1 s.pl lv + 1)=c:=hc.symm
    have hlv:leaveA n x s.pl s.mi (A1,L1) lv=if c > 1 then (A1,L2) else (pathsA n x s.pl s.mi lv n.paths.length A1,L2):=by
     rw [leaveA];dsimp only;rw [← hL2,hcb]
    repeat refine z33 ?_
    refine z26 [] [(31,some (.mp (some [.i64,.i64]) (entsL L2 0) L2.length))] ?_ ?_
    ·by_cases hin:hasL L1 s.pl lv=true
     ·obtain ⟨q1,hq1,hb1,hl1⟩:=z270 (p:=s.pl) (m:=lv) L1 0 0 hin
      rw [keyS,Nat.zero_add] at hq1
      rw [Nat.zero_add,← hc,← hL2] at hb1
      rw [← hL2] at hl1
      refine z275 (fun b=>[(60,bif b 0 then .undef else .mp 31),(61,bif b 1 then .undef else .box 6 0),(62,bif b 2 then .undef else .d (.i s.pl)),(63,bif b 3 then .undef else .d (.i lv)),(64,bif b 4 then .undef else .agg [.d (.i s.pl),.d (.i lv)]),
       (65,bif b 5 then .undef else .d (.i (cntL L1 s.pl lv))),(66,bif b 6 then .undef else .d (.i c)),(67,bif b 7 then .undef else .tup [.d (.i (cntL L1 s.pl lv)),.d (.i ((q1:Nat):Int))]),(68,bif b 8 then .undef else .d (.i ((q1:Nat):Int)))])
       (fun _=>[]) 9 (by kernel_rfl) (by kernel_rfl) (by kernel_rfl) (by decide) ?_ ?_ (Weak.refl _) ?_
      ·simp only [go_sem]
      ·refine ⟨?_,?_,?_,?_,?_,?_,?_,?_,?_,trivial⟩
       all_goals
        intro b hbm hdm _
        simp only [depsM,Region.binds,true_and,and_true,Nat.zero_add,Nat.reduceAdd,reduceCtorEq,forall_const] at hdm
        refine ⟨rfl,rfl,?_⟩
        cases hb7:b 7
        all_goals
         first | (exfalso;rw [hb7] at hbm;exact Bool.noConfusion hbm) | (exfalso;rw [hb7] at hdm;simp at hdm;done) | simp only [go_sem,hbm,hdm,hb7,hq1,hc']
      ·intro K hK
       simp only [go_sem,hb1]
       refine hK _ _ ?_
       clear hK K
       refine z8 ?_
       refine z5 ?_
       refine ⟨rfl,?_⟩
       simp only [go_sem,hl1]
       refine weA ?_ ?_ <;> simp
     ·have hin:hasL L1 s.pl lv=false:=by simpa using hin
      obtain ⟨hq1,hcz,hb1,hl1⟩:=z457 (p:=s.pl) (m:=lv) L1 0 0 hin
      have hsb:=z281 (d:=.i c) (k:=keyS s.pl lv) (z:=.i 0) L1 0
      have hc0:IntKind.i64.wrap (0 + 1)=c:=by rw [hc,hcz]
      rw [← hL2,show wr (0 + 1)=c from hc0] at hb1
      rw [← hb1] at hsb
      rw [← hL2] at hl1
      rw [keyS] at hq1 hsb
      simp only [Nat.zero_add] at hsb
      have hq1p:=z344 (d:=.i 0) (b:=L1.length) _ 0 hq1
      rw [Nat.zero_add] at hq1p
      refine z275 (fun b=>[(60,bif b 0 then .undef else .mp 31),(61,bif b 1 then .undef else .box 6 0),(62,bif b 2 then .undef else .d (.i s.pl)),(63,bif b 3 then .undef else .d (.i lv)),(64,bif b 4 then .undef else .agg [.d (.i s.pl),.d (.i lv)]),
       (65,bif b 5 then .undef else .d (.i 0)),(66,bif b 6 then .undef else .d (.i c)),(67,bif b 7 then .undef else .tup [.d (.i 0),.d (.i ((L1.length:Nat):Int))]),(68,bif b 8 then .undef else .d (.i ((L1.length:Nat):Int)))])
       (fun b=>[(31,bif b 7 then some (.mp (some [.i64,.i64]) (entsL L1 0) L1.length) else some (.mp (some [.i64,.i64]) (entsL L1 0++[(.s [(.i64,s.pl),(.i64,lv)],.i 0,L1.length)]) (L1.length + 1)))]) 9 (by kernel_rfl) (by kernel_rfl) (by kernel_rfl) (by decide) ?_ ?_ (Weak.refl _) ?_
      ·simp only [go_sem]
      ·refine ⟨?_,?_,?_,?_,?_,?_,?_,?_,?_,trivial⟩
       all_goals
        intro b hbm hdm _
        simp only [depsM,Region.binds,true_and,and_true,Nat.zero_add,Nat.reduceAdd,reduceCtorEq,forall_const] at hdm
        refine ⟨rfl,rfl,?_⟩
        cases hb7:b 7
        all_goals
         first | (exfalso;rw [hb7] at hbm;exact Bool.noConfusion hbm) | (exfalso;rw [hb7] at hdm;simp at hdm;done) | simp only [go_sem,hbm,hdm,hb7,hq1,hq1p,hc0]
      ·intro K hK
       simp only [go_sem,hsb]
       refine hK _ _ ?_
       clear hK K
       refine z8 ?_
       refine z5 ?_
       refine ⟨rfl,?_⟩
       simp only [go_sem,hl1]
       refine weA ?_ ?_ <;> simp
    simp only [go_sem]
    repeat (first | refine nx ?_ | (refine z3 fun K hK=>?_;simp only [go_sem,hq2];apply hK;clear hK K))
    refine z4 rfl (fun hcc=>?_) (fun hcc=>?_)
    ·have hcc':c > 1:=by simpa using hcc
     rw [if_pos hcc'] at hlv
     repeat (first | refine nx ?_ | (refine z3 fun K hK=>?_;simp only [go_sem];apply hK;clear hK K))
     refine ⟨rfl,(A1,L2),?_,by rw [hnext,hlv],hgA1⟩
     simp only [go_sem]
     refine weA ?_ ?_ <;> simp
    ·have hcc':¬ c > 1:=by simpa using hcc
     rw [if_neg hcc'] at hlv
     repeat (first | refine nx ?_ | (refine z3 fun K hK=>?_;simp only [go_sem,c1];apply hK;clear hK K))
     refine z18 (fun (a:Nat × List Arv)=>[(83,.d (.i a.1))]) (fun a=>[(14,some (.mp (some [.i64,.i64]) (entsA a.2 0) a.2.length)),(150,some (.arr 97 2 (arvRows a.2)))])
      (fun a=>a.1≤n.paths.length∧goodA n x a.2∧a.2=pathsA n x s.pl s.mi lv a.1 A1) (fun a=>n.paths.length - a.1) (0,A1) ?_ ⟨Nat.zero_le _,hgA1,rfl⟩ ?_
     ·simp only [go_sem]
      refine weA ?_ ?_ <;> simp
     ·rintro ⟨k,A2⟩ ⟨hk,hgA2,hA2⟩
      dsimp only at hk hgA2 hA2
      simp only [go_sem]
      repeat (first | refine nx ?_ | (refine z3 fun K hK=>?_;simp only [go_sem];apply hK;clear hK K))
      refine z4 rfl (fun hkb=>?_) (fun hkb=>?_)
      ·have hkl:k<n.paths.length:=by simpa using hkb
       have hkw:IntKind.i64.wrap ((k:Int) + 1)=((k + 1:Nat):Int):=by rw [z9 (by omega)];simp
       obtain ⟨y,hy⟩:∃ y,n.paths[k]?=some y:=⟨_,List.getElem?_eq_getElem hkl⟩
       obtain ⟨ks,vs,cc,hT,hlook⟩:=z423 n x.party hy
       have c2:(huntC n x)[2]?=some (.mp none ks vs cc):=by rw [← hT];rfl
       have hyg:=hx.net.path y (List.mem_of_getElem? hy)
       have hpk:pathsA n x s.pl s.mi lv (k + 1) A1=pathA n x s.pl s.mi lv A2 k:=by rw [pathsA,List.range_succ,List.foldl_append,hA2];rfl
       rw [pathA,hy] at hpk
       dsimp only at hpk
       rcases hlook with ⟨hg,q,b,hf⟩ | ⟨hg,hf⟩
       ·repeat (first | refine nx ?_ | (refine z3 fun K hK=>?_;simp only [go_sem,hy,List.getElem?_map,Path.row];apply hK;clear hK K))
        refine z6 (by kernel_rfl) (by kernel_rfl) fun K hK=>?_
        simp only [go_sem,c2,hf,Span.row]
        refine ⟨by kernel_rfl,hK _ ?_⟩
        clear hK K
        by_cases hfr:y.frm=s.pl
        ·have hne:(y.frm != s.pl)=false:=by simp [hfr]
         rw [if_pos ⟨hfr,hg⟩] at hpk
         have h65:FnG Try.prog 65 [.box [.d (.ptr (huntC n x) 0),.mp 1,.own 2],.mp (some [.i64,.i64]) (entsA A2 0) A2.length,.arr 97 2 (arvRows A2)] [0] [.box 0 0,.d (.i lv)] (.fn 76 [.box 3 0,.box 4 0])
          [.box [.d (.ptr (huntC n x) 0),.mp 1,.own 2],.mp (some [.i64,.i64]) (entsA A2 0) A2.length,.arr 97 2 (arvRows A2),.box [.d (.i lv)],.box [.box 0 0]]:=z1191 _ A2 lv
         obtain ⟨Ws,hWs⟩:∃ Ws,Ws=walksL x lv:=⟨_,rfl⟩
         have hit2:=z1176 n x lv (by omega) (by omega) (by omega)
         rw [← hWs] at hit2 hpk
         obtain ⟨lo,hlo⟩:∃ lo,lo=wr (lv + (spanW y x.party).lo):=⟨_,rfl⟩
         obtain ⟨hi,hhi⟩:∃ hi,hi=wr (lv + (spanW y x.party).hi):=⟨_,rfl⟩
         rw [← hlo,← hhi] at hpk
         have hlo':IntKind.i64.wrap (lv + (spanW y x.party).lo)=lo:=hlo.symm
         have hhi':IntKind.i64.wrap (lv + (spanW y x.party).hi)=hi:=hhi.symm
         repeat (first | refine nx ?_ | (refine z3 fun K hK=>?_;simp only [go_sem,hne];apply hK;clear hK K))
         refine z7 rfl ?_
         repeat (first | refine z33 ?_ | refine z52 ?_ | refine z8 ?_ | refine z5 ?_)
         refine z3 fun K hK=>?_
         simp only [go_sem]
         refine ⟨_,.own (ns:=[16,14,150]) (news:=[154,155]) (bads:=[14,150]) (rd:=[]) (hf:=h65) (hnd:=by decide) (hl0:=rfl) (hl1:=rfl) (hm:=by repeat (first | exact trivial | refine And.intro ?_ ?_ | rfl)) (hnew:=rfl) (hla:=rfl) (ha:=z162 (by repeat (first | exact trivial | refine And.intro ?_ ?_ | exact z198 rfl | exact z142 rfl rfl))) (hrd:=rfl) (hsh:=z221 _) (hb:=rfl) (hfl:=.inl rfl),?_⟩
         simp only [go_sem,List.map_cons,List.map_nil]
         apply hK
         clear hK K
         repeat (first | refine z33 ?_ | refine z52 ?_ | refine z8 ?_ | refine z5 ?_)
         refine z49 ?_
         have fin:∀ A3,walkA x.clues lo hi (fun t=>⟨y.to,t,s.pl,s.mi,k,lv⟩) Ws A2=A3→pathsA n x s.pl s.mi lv (k + 1) A1=A3:=fun A3 h=>by rw [hpk,h]
         refine z220 (fun _ h=>by cases h;exact hJ2) 16 16 ((trkB n x).map some) [154,155] rfl hit2 (fun b=>rfl) (by intro row hr;obtain ⟨w,_,rfl⟩:=List.mem_map.1 hr;rfl)
          (fun _=>[(109,.undef)]) (fun (a:List Arv)=>[(154,none),(155,none),(14,some (.mp (some [.i64,.i64]) (entsA a 0) a.length)),(150,some (.arr 97 2 (arvRows a)))])
          (fun i a=>walkA x.clues lo hi (fun t=>⟨y.to,t,s.pl,s.mi,k,lv⟩) Ws A2=walkA x.clues lo hi (fun t=>⟨y.to,t,s.pl,s.mi,k,lv⟩) (Ws.drop i) a∧goodA n x a)
          (fun e a=>e=.exit 6∧walkA x.clues lo hi (fun t=>⟨y.to,t,s.pl,s.mi,k,lv⟩) Ws A2=a∧goodA n x a) A2 ?_ ?_ ⟨rfl,hgA2⟩ ?_ ?_ ?_ ?_
         ·exact ⟨rfl,rfl,trivial⟩
         ·simp only [go_sem]
          refine weA ?_ ?_ <;> simp
         ·intro a
          simp only [go_sem]
          exact ⟨rfl,rfl,trivial⟩
         ·rintro i2 A3 row hj2 ⟨hA3,hgA3⟩ l2 m2
          obtain ⟨w,hw2,rfl⟩:∃ w,Ws[i2]?=some w∧row=[.i w.1,.bool w.2]:=by
           simp only [wkRows,List.getElem?_map,Option.map_eq_some_iff] at hj2
           obtain ⟨w,h1,h2⟩:=hj2
           exact ⟨w,h1,h2.symm⟩
          have hwr:=z274 (hWs ▸ List.mem_of_getElem? hw2)
          rw [z69 hw2,walkA] at hA3
          have hA3l:=z182 hgA3
          simp only [go_sem]
          repeat (first | refine nx ?_ | (refine z3 fun K hK=>?_;simp only [go_sem];apply hK;clear hK K))
          intro J3 hJ3
          refine z49 ?_
          repeat (first | refine nx ?_ | (refine z3 fun K hK=>?_;simp only [go_sem,hhi'];apply hK;clear hK K))
          refine z4 rfl (fun hc1=>?_) (fun hc1=>?_)
          ·have hc1':w.1 > hi:=by simpa using hc1
           rw [if_pos hc1'] at hA3
           repeat (first | refine nx ?_ | (refine z3 fun K hK=>?_;simp only [go_sem];apply hK;clear hK K))
           refine ⟨rfl,rfl,A3,?_,rfl,hA3,hgA3⟩
           simp only [go_sem]
           refine weA ?_ ?_ <;> simp
          ·have hc1':¬ w.1 > hi:=by simpa using hc1
           rw [if_neg hc1'] at hA3
           repeat (first | refine nx ?_ | (refine z3 fun K hK=>?_;simp only [go_sem,hlo'];apply hK;clear hK K))
           refine z4 rfl (fun hc2=>?_) (fun hc2=>?_)
           ·have hc2':w.1 ≥ lo:=by simpa using hc2
            rw [if_pos hc2'] at hA3
            have h63':FnG Try.prog 63 [.box [.d (.ptr (huntC n x) 0),.mp 1,.own 2],.mp (some [.i64,.i64]) (entsA A3 0) A3.length,.arr 97 2 (arvRows A3)] [0] [.box 0 0,.d (.agg [.i y.to,.i w.1]),.d (.agg [.i s.pl,.i s.mi,.i k,.i lv])] (.tup [])
             [.box [.d (.ptr (huntC n x) 0),.mp 1,.own 2],.mp (some [.i64,.i64]) (entsA (arriveA x.clues A3 ⟨y.to,w.1,s.pl,s.mi,k,lv⟩) 0) (arriveA x.clues A3 ⟨y.to,w.1,s.pl,s.mi,k,lv⟩).length,.arr 97 2 (arvRows (arriveA x.clues A3 ⟨y.to,w.1,s.pl,s.mi,k,lv⟩))] :=
             zf63 n x A3 ⟨y.to,w.1,s.pl,s.mi,k,lv⟩ hyg.to.1 (by omega) (by omega)
            repeat (first | refine z33 ?_ | refine z52 ?_)
            refine z3 fun K hK=>?_
            simp only [go_sem]
            refine ⟨_,.own (ns:=[16,14,150]) (news:=[]) (bads:=[14,150]) (rd:=[]) (hf:=h63') (hnd:=by decide) (hl0:=rfl) (hl1:=rfl) (hm:=by repeat (first | exact trivial | refine And.intro ?_ ?_ | rfl)) (hnew:=rfl) (hla:=rfl) (ha:=z162 (by repeat (first | exact trivial | refine And.intro ?_ ?_ | exact z198 rfl | exact z142 rfl rfl))) (hrd:=rfl) (hsh:=z221 _) (hb:=rfl) (hfl:=.inl rfl),?_⟩
            simp only [go_sem,List.map_cons,List.map_nil]
            apply hK
            clear hK K
            repeat (first | refine nx ?_ | (refine z3 fun K hK=>?_;simp only [go_sem];apply hK;clear hK K))
            refine ⟨rfl,arriveA x.clues A3 ⟨y.to,w.1,s.pl,s.mi,k,lv⟩,?_,hA3,z74 hgA3 ⟨hyg.to,by dsimp only;omega⟩⟩
            simp only [go_sem]
            refine weA ?_ ?_ <;> simp
           ·have hc2':¬ w.1 ≥ lo:=by simpa using hc2
            rw [if_neg hc2'] at hA3
            repeat (first | refine nx ?_ | (refine z3 fun K hK=>?_;simp only [go_sem];apply hK;clear hK K))
            refine ⟨rfl,A3,?_,hA3,hgA3⟩
            simp only [go_sem]
            refine weA ?_ ?_ <;> simp
         ·rintro A3 ⟨hA3,hgA3⟩
          rw [wkRows,List.length_map,List.drop_length,walkA] at hA3
          simp only [go_sem]
          repeat (first | refine nx ?_ | (refine z3 fun K hK=>?_;simp only [go_sem,hkw];apply hK;clear hK K))
          refine ⟨rfl,(k + 1,A3),?_,⟨hkl,hgA3,(fin A3 hA3).symm⟩,by dsimp only;omega⟩
          simp only [go_sem]
          refine weA ?_ ?_ <;> simp
         ·rintro e A3 ⟨rfl,hA3,hgA3⟩ _
          refine z59 ?_
          refine z5 ?_
          simp only [go_sem]
          repeat (first | refine nx ?_ | (refine z3 fun K hK=>?_;simp only [go_sem,hkw];apply hK;clear hK K))
          refine ⟨rfl,(k + 1,A3),?_,⟨hkl,hgA3,(fin A3 hA3).symm⟩,by dsimp only;omega⟩
          simp only [go_sem]
          refine weA ?_ ?_ <;> simp
        ·have hne:(y.frm != s.pl)=true:=by simpa using hfr
         rw [if_neg (fun hc=>hfr hc.1)] at hpk
         repeat (first | refine nx ?_ | (refine z3 fun K hK=>?_;simp only [go_sem,hne];apply hK;clear hK K))
         refine z10 rfl ?_
         repeat (first | refine nx ?_ | (refine z3 fun K hK=>?_;simp only [go_sem,hkw];apply hK;clear hK K))
         refine ⟨rfl,(k + 1,A2),?_,⟨hkl,hgA2,hpk.symm⟩,by dsimp only;omega⟩
         simp only [go_sem]
         refine weA ?_ ?_ <;> simp
       ·rw [if_neg (fun hc=>hg hc.2)] at hpk
        repeat (first | refine nx ?_ | (refine z3 fun K hK=>?_;simp only [go_sem,hy,List.getElem?_map,Path.row];apply hK;clear hK K))
        refine z6 (by kernel_rfl) (by kernel_rfl) fun K hK=>?_
        simp only [go_sem,c2,hf]
        refine ⟨by kernel_rfl,hK _ ?_⟩
        clear hK K
        by_cases hfr:y.frm=s.pl
        all_goals
         first | (have hne:(y.frm != s.pl)=false:=by simp [hfr]) | (have hne:(y.frm != s.pl)=true:=by simpa using hfr)
         repeat (first | refine nx ?_ | (refine z3 fun K hK=>?_;simp only [go_sem,hne];apply hK;clear hK K))
         refine z10 rfl ?_
         repeat (first | refine nx ?_ | (refine z3 fun K hK=>?_;simp only [go_sem,hkw];apply hK;clear hK K))
         refine ⟨rfl,(k + 1,A2),?_,⟨hkl,hgA2,hpk.symm⟩,by dsimp only;omega⟩
         simp only [go_sem]
         refine weA ?_ ?_ <;> simp
      ·have he:k=n.paths.length:=by (have:¬ k<n.paths.length:=by simpa using hkb);omega
       subst he
       repeat (first | refine nx ?_ | (refine z3 fun K hK=>?_;simp only [go_sem];apply hK;clear hK K))
       refine ⟨rfl,(A2,L2),?_,by rw [hnext,hlv,hA2],hgA2⟩
       simp only [go_sem]
       refine weA ?_ ?_ <;> simp
   ·rintro ⟨A1,L1⟩ ⟨hA1,hgA1⟩
    rw [minRows,List.length_map,List.take_length,hLs] at hA1
    have hA1:(A1,L1)=spotA n x s (A,L):=hA1
    have hln:A.length≤A1.length:=by
     have:=z994 n x s (A,L)
     rw [← hA1] at this
     exact this
    rw [show boundN n x + 1 - i=(boundN n x - i) + 1 by omega,followF] at hRi
    dsimp only at hRi
    rw [hs] at hRi
    dsimp only at hRi
    rw [← hA1] at hRi
    simp only [go_sem]
    repeat (first | refine nx ?_ | (refine z3 fun K hK=>?_;simp only [go_sem,hw];apply hK;clear hK K))
    refine ⟨rfl,(i + 1,A1,L1),?_,⟨?_,hgA1,?_⟩,by dsimp only;omega⟩
    ·simp only [go_sem]
     refine weA ?_ ?_ <;> simp
    ·dsimp only at hgA1 ⊢;omega
    ·dsimp only
     rw [show boundN n x + 1 - (i + 1)=boundN n x - i by omega]
     exact hRi
  ·have he:i=A.length:=by (have:¬ i<A.length:=by simpa using hb);omega
   have hRe:R=(A,L):=by
    rw [hRi]
    cases hf:boundN n x + 1 - i with
    | zero=>rfl
    | succ f=>rw [followF];dsimp only;rw [List.getElem?_eq_none (by omega)]
   rw [hRe]
   repeat (first | refine nx ?_ | (refine z3 fun K hK=>?_;simp only [go_sem];apply hK;clear hK K))
   simp only [go_sem,trkM,legsB]
end Go.Ab
namespace Go.Ab
open Go.RowKit Go.Proofs
set_option maxHeartbeats 16000000
set_option maxRecDepth 20000
attribute [local irreducible] WalkL Walk
structure EndT where
 pl:Int
 mi:Int
 pa:Int
 lv:Int
def EndT.row (e:EndT):List DV:=[.i e.pl,.i e.mi,.i e.pa,.i e.lv]
def endRows (l:List EndT):List (List DV):=l.map fun e=>[.agg e.row]
def seenF (l:List Clue):Int:=l.foldl (fun a c=>if c.seen then max a c.minute else a) 0
def endIn (x:Missed) (s:Arv) (m:Int):Option EndT:=if m=x.now then some ⟨s.pl,s.mi,-1,x.now⟩ else none
def endOn (n:Net) (x:Missed) (s:Arv) (lv:Int) (k:Nat):Option EndT:=match n.paths[k]? with
 | some y=>if y.grade≤x.party.grade∧y.frm=s.pl then some ⟨s.pl,s.mi,k,lv⟩ else none
 | none=>none
def endLv (n:Net) (x:Missed) (s:Arv) (lv:Int):List EndT:=if lv=x.now∨lv<seenF x.clues then [] else (List.range n.paths.length).filterMap (endOn n x s lv)
def endOf8 (n:Net) (x:Missed) (s:Arv):List EndT:=(staysL x s.pl s.mi x.now).filterMap (endIn x s)++(staysL x s.pl s.mi (wr (s.mi + x.rest))).flatMap (endLv n x s)
def endsL (n:Net) (x:Missed) (A:List Arv):List EndT:=A.flatMap (endOf8 n x)
theorem z464 {I X Y:List EndT} {e:EndT} (h:I=X++e::Y):(endRows I)[X.length]?=some [.agg e.row]:=by
 rw [h];simp [endRows]
theorem z1178 (n:Net) (x:Missed) (hx:Hunted n x) (A:List Arv) (b:DV) (hgA:goodA n x A) :
  IterE Try.prog 40 [] (fun l=>[.d (.ptr [.ptr (huntC n x) 0,b,.sl (arvRows A)] 0),.d (.yld l)]) (endRows (endsL n x A)):=by
 have c11:(huntC n x)[11]?=some (.sl (x.clues.map Clue.row)):=rfl
 have c9:(huntC n x)[9]?=some (.i x.now):=rfl
 have c10:(huntC n x)[10]?=some (.i x.rest):=rfl
 have c1:(huntC n x)[1]?=some (.sl (n.paths.map Path.row)):=rfl
 have hst:=hx.start
 have hno:=hx.now
 have hre:=hx.rest
 have hcl:=hx.clues
 have hpl:=hx.net.paths
 have hAl:=z182 hgA
 have hN:=z353 hx
 obtain ⟨H,hH⟩:∃ H,H=huntC n x:=⟨_,rfl⟩
 refine z446 160 Try.call40 Try.func40 rfl rfl fun l J hG=>?_
 simp only [go_sem,St.startG,Try.ntmps40,Try.results40,List.map_cons,List.map_nil,List.range_succ,  ]
 repeat (first | refine nx ?_ | (refine z3 fun K hK=>?_;simp only [go_sem,c11];apply hK;clear hK K))
 refine z18 (fun (i:Nat)=>[(24,.d (.i i))]) (fun i=>[(4,some (.box [.d (.i (seenF (x.clues.take i)))]))]) (fun i=>i≤x.clues.length) (fun i=>x.clues.length - i) 0 ?_ (Nat.zero_le _) ?_
 ·simp only [go_sem,seenF,List.take_zero,List.foldl_nil]
  refine weA ?_ ?_ <;> simp
 ·intro i hi
  simp only [go_sem]
  repeat (first | refine nx ?_ | (refine z3 fun K hK=>?_;simp only [go_sem];apply hK;clear hK K))
  refine z4 rfl (fun hb=>?_) (fun hb=>?_)
  ·have hlt:i<x.clues.length:=by simpa using hb
   have hw:IntKind.i64.wrap ((i:Int) + 1)=((i + 1:Nat):Int):=by rw [z9 (by omega)];simp
   obtain ⟨c,hc⟩:∃ c,x.clues[i]?=some c:=⟨_,List.getElem?_eq_getElem hlt⟩
   have hs1:seenF (x.clues.take (i + 1))=if c.seen then max (seenF (x.clues.take i)) c.minute else seenF (x.clues.take i):=by
    rw [seenF,z40 _ _ _ _ _ hc];rfl
   repeat (first | refine nx ?_ | (refine z3 fun K hK=>?_;simp only [go_sem,hc,List.getElem?_map,Clue.row];apply hK;clear hK K))
   cases hcs:c.seen
   ·rw [hcs] at hs1
    refine z7 rfl ?_
    repeat (first | refine nx ?_ | (refine z3 fun K hK=>?_;simp only [go_sem,hw];apply hK;clear hK K))
    refine ⟨rfl,i + 1,?_,hlt,by omega⟩
    simp only [go_sem,hs1,Bool.false_eq_true,if_false]
    refine weA ?_ ?_ <;> simp
   ·rw [hcs] at hs1
    refine z10 rfl ?_
    repeat (first | refine nx ?_ | (refine z3 fun K hK=>?_;simp only [go_sem,hw];apply hK;clear hK K))
    refine ⟨rfl,i + 1,?_,hlt,by omega⟩
    simp only [go_sem,hs1,if_true]
    refine weA ?_ ?_ <;> simp
  ·have he:i=x.clues.length:=by (have:¬ i<x.clues.length:=by simpa using hb);omega
   subst he
   rw [List.take_length]
   have hrl:=z355 A
   repeat (first | refine nx ?_ | (refine z3 fun K hK=>?_;simp only [go_sem,hrl];apply hK;clear hK K))
   obtain ⟨I,hI⟩:∃ I,I=endsL n x A:=⟨_,rfl⟩
   rw [← hI] at hG ⊢
   refine z84 (fun (i:Nat)=>[(40,.d (.i i))]) (fun _=>[]) (fun k i=>i≤A.length∧∃ X,k=some X.length∧I=X++(A.drop i).flatMap (endOf8 n x)) (fun i=>A.length - i) 0 ?_ ⟨Nat.zero_le _,[],rfl,by rw [hI];rfl⟩ ?_
   ·simp only [go_sem]
    refine weA ?_ ?_ <;> simp
   ·rintro k i ⟨hi,X,rfl,hX⟩
    simp only [go_sem]
    repeat (first | refine nx ?_ | (refine z3 fun K hK=>?_;simp only [go_sem];apply hK;clear hK K))
    refine z4 rfl (fun hb=>?_) (fun hb=>?_)
    ·have hlt:i<A.length:=by simpa using hb
     have hw:IntKind.i64.wrap ((i:Int) + 1)=((i + 1:Nat):Int):=by rw [z9 (by omega)];simp
     obtain ⟨s,hs⟩:∃ s,A[i]?=some s:=⟨_,List.getElem?_eq_getElem hlt⟩
     have hrow:=z356 hs
     have hgs:=hgA.1 s (List.mem_of_getElem? hs)
     rw [z69 hs,List.flatMap_cons,endOf8] at hX
     have h64a:=zf64 [.ptr (huntC n x) 0,b,.sl (arvRows A)] s.pl s.mi x.now
     have h64b:=zf64 [.ptr (huntC n x) 0,b,.sl (arvRows A)] s.pl s.mi (wr (s.mi + x.rest))
     have hit1:=z1029 n x b (.sl (arvRows A)) s.pl s.mi x.now hgs.1.1 (by omega) (by omega) (by omega)
     have hit2:=z1029 n x b (.sl (arvRows A)) s.pl s.mi (wr (s.mi + x.rest)) hgs.1.1 (by omega) (by omega) (by omega)
     obtain ⟨L1,hL1⟩:∃ L,L=staysL x s.pl s.mi x.now:=⟨_,rfl⟩
     obtain ⟨L2,hL2⟩:∃ L,L=staysL x s.pl s.mi (wr (s.mi + x.rest)):=⟨_,rfl⟩
     rw [← hL1] at hit1 hX
     rw [← hL2] at hit2 hX
     obtain ⟨Z,hZ⟩:∃ Z,Z=(A.drop (i + 1)).flatMap (endOf8 n x):=⟨_,rfl⟩
     rw [← hZ] at hX
     repeat (first | refine nx ?_ | (refine z3 fun K hK=>?_;simp only [go_sem,hrow];apply hK;clear hK K))
     refine z6 (by kernel_rfl) (by kernel_rfl) fun K hK=>?_
     simp only [go_sem,c9]
     refine ⟨_,.fn (hf:=h64a) (hd:=rfl) (hr:=.inr rfl),?_⟩
     simp only [go_sem]
     refine ⟨by kernel_rfl,hK _ ?_⟩
     clear hK K
     refine z49 ?_
     refine z168 rfl hit1 (by intro row hr;obtain ⟨w,_,rfl⟩:=List.mem_map.1 hr;rfl) (fun (_:Unit)=>[]) (fun _=>[]) (fun k' j _=>∃ Y,k'=some Y.length∧I=Y++((L1.drop j).filterMap (endIn x s)++(L2.flatMap (endLv n x s)++Z)))
      (fun e k' _=>e=.ret∧k'=none) () ?_ ⟨X,rfl,by simpa using hX⟩ ?_ ?_ ?_
     ·simp only [go_sem]
      refine weA ?_ ?_ <;> simp
     ·rintro X0 W0 k' j _ row hj ⟨Y,rfl,hY⟩ l1 m1
      obtain ⟨m,hm,rfl⟩:∃ m,L1[j]?=some m∧row=[.i m]:=by
       simp only [minRows,List.getElem?_map,Option.map_eq_some_iff] at hj
       obtain ⟨lv,h1,h2⟩:=hj
       exact ⟨lv,h1,h2.symm⟩
      have hG1:=z265 hG X0 W0
      rw [z69 hm,List.filterMap_cons] at hY
      simp only [go_sem]
      repeat (first | refine nx ?_ | (refine z3 fun K hK=>?_;simp only [go_sem];apply hK;clear hK K))
      by_cases hmn:m=x.now
      ·have hme:(m == x.now)=true:=by simpa using hmn
       have hei:endIn x s m=some ⟨s.pl,s.mi,-1,x.now⟩:=by rw [endIn,if_pos hmn]
       rw [hei] at hY
       dsimp only at hY
       rw [List.cons_append] at hY
       refine z71 hG1 [] 22 (by kernel_rfl) (by kernel_rfl) (by kernel_rfl) (by decide) fun K hK=>?_
       simp only [go_sem,c9,hme]
       refine ⟨by kernel_rfl,?_⟩
       refine ⟨rfl,Y.length,_,rfl,rfl,rfl,z464 hY,?_,?_⟩
       ·simp only [go_sem]
        refine hK _ _ ?_
        clear hK K
        refine z7 rfl ?_
        repeat (first | refine nx ?_ | (refine z3 fun K hK=>?_;simp only [go_sem];apply hK;clear hK K))
        refine ⟨(),?_,Y++[⟨s.pl,s.mi,-1,x.now⟩],by simp,by rw [hY];simp⟩
        simp only [go_sem]
        refine weA ?_ ?_ <;> simp
       ·simp only [go_sem]
        refine hK _ _ ?_
        clear hK K
        refine z10 rfl ?_
        repeat (first | refine nx ?_ | (refine z3 fun K hK=>?_;simp only [go_sem];apply hK;clear hK K))
        refine ⟨rfl,(),?_,rfl,rfl⟩
        simp only [go_sem]
        refine weA ?_ ?_ <;> simp
      ·have hme:(m == x.now)=false:=by simpa using hmn
       have hei:endIn x s m=none:=by rw [endIn,if_neg hmn]
       rw [hei] at hY
       dsimp only at hY
       refine z71 hG1 [] 22 (by kernel_rfl) (by kernel_rfl) (by kernel_rfl) (by decide) fun K hK=>?_
       simp only [go_sem,c9,hme]
       refine ⟨by kernel_rfl,?_⟩
       refine hK _ _ ?_
       clear hK K
       refine z7 rfl ?_
       repeat (first | refine nx ?_ | (refine z3 fun K hK=>?_;simp only [go_sem];apply hK;clear hK K))
       refine ⟨(),?_,Y,rfl,hY⟩
       simp only [go_sem]
       refine weA ?_ ?_ <;> simp
     ·rintro k' _ ⟨Y,rfl,hY⟩
      rw [minRows,List.length_map,List.drop_length,List.filterMap_nil,List.nil_append] at hY
      simp only [go_sem]
      repeat (first | refine nx ?_ | (refine z3 fun K hK=>?_;simp only [go_sem];apply hK;clear hK K))
      refine z6 (by kernel_rfl) (by kernel_rfl) fun K hK=>?_
      simp only [go_sem,c10]
      refine ⟨_,.fn (hf:=h64b) (hd:=rfl) (hr:=.inr rfl),?_⟩
      simp only [go_sem]
      refine ⟨by kernel_rfl,hK _ ?_⟩
      clear hK K
      refine z49 ?_
      refine z168 rfl hit2 (by intro row hr;obtain ⟨w,_,rfl⟩:=List.mem_map.1 hr;rfl) (fun (_:Unit)=>[]) (fun _=>[]) (fun k' j _=>∃ Y,k'=some Y.length∧I=Y++((L2.drop j).flatMap (endLv n x s)++Z))
       (fun e k' _=>e=.ret∧k'=none) () ?_ ⟨Y,rfl,by simpa using hY⟩ ?_ ?_ ?_
      ·simp only [go_sem]
       refine weA ?_ ?_ <;> simp
      ·rintro X0 W0 k' j _ row hj ⟨Y,rfl,hY⟩ l1 m1
       obtain ⟨lv,hlv,rfl⟩:∃ m,L2[j]?=some m∧row=[.i m]:=by
        simp only [minRows,List.getElem?_map,Option.map_eq_some_iff] at hj
        obtain ⟨lv,h1,h2⟩:=hj
        exact ⟨lv,h1,h2.symm⟩
       have hG1:=z265 hG X0 W0
       rw [z69 hlv,List.flatMap_cons] at hY
       simp only [go_sem]
       repeat (first | refine nx ?_ | (refine z3 fun K hK=>?_;simp only [go_sem];apply hK;clear hK K))
       by_cases hmn:lv=x.now
       ·have hme:(lv == x.now)=true:=by simpa using hmn
        rw [endLv,if_pos (.inl hmn),List.nil_append] at hY
        repeat (first | refine nx ?_ | (refine z3 fun K hK=>?_;simp only [go_sem,c9,hme];apply hK;clear hK K))
        refine z10 rfl ?_
        repeat (first | refine nx ?_ | (refine z3 fun K hK=>?_;simp only [go_sem];apply hK;clear hK K))
        refine ⟨(),?_,Y,rfl,hY⟩
        simp only [go_sem]
        refine weA ?_ ?_ <;> simp
       ·have hme:(lv == x.now)=false:=by simpa using hmn
        by_cases hls:lv<seenF x.clues
        ·have hle:decide (lv<seenF x.clues)=true:=by simpa using hls
         rw [endLv,if_pos (.inr hls),List.nil_append] at hY
         repeat (first | refine nx ?_ | (refine z3 fun K hK=>?_;simp only [go_sem,c9,hme,hle];apply hK;clear hK K))
         refine z10 rfl ?_
         repeat (first | refine nx ?_ | (refine z3 fun K hK=>?_;simp only [go_sem];apply hK;clear hK K))
         refine ⟨(),?_,Y,rfl,hY⟩
         simp only [go_sem]
         refine weA ?_ ?_ <;> simp
        ·have hle:decide (lv<seenF x.clues)=false:=by simpa using hls
         rw [endLv,if_neg (fun hc=>hc.elim hmn hls)] at hY
         repeat (first | refine nx ?_ | (refine z3 fun K hK=>?_;simp only [go_sem,c9,hme,hle];apply hK;clear hK K))
         refine z7 rfl ?_
         repeat (first | refine nx ?_ | (refine z3 fun K hK=>?_;simp only [go_sem,c1];apply hK;clear hK K))
         obtain ⟨V,hV⟩:∃ V,V=(L2.drop (j + 1)).flatMap (endLv n x s)++Z:=⟨_,rfl⟩
         rw [List.append_assoc,← hV] at hY
         refine z84 (fun (q:Nat)=>[(121,.d (.i q))]) (fun _=>[]) (fun k q=>q≤n.paths.length∧∃ Y,k=some Y.length∧I=Y++((List.range' q (n.paths.length - q)).filterMap (endOn n x s lv)++V)) (fun q=>n.paths.length - q) 0 ?_ ⟨Nat.zero_le _,Y,rfl,by rw [Nat.sub_zero,← List.range_eq_range'];exact hY⟩ ?_
         ·try simp only [go_sem]
          refine weA ?_ ?_ <;> simp
         ·rintro k q ⟨hq,Y,rfl,hY⟩
          simp only [go_sem]
          repeat (first | refine nx ?_ | (refine z3 fun K hK=>?_;simp only [go_sem];apply hK;clear hK K))
          refine z4 rfl (fun hkb=>?_) (fun hkb=>?_)
          ·have hkl:q<n.paths.length:=by simpa using hkb
           have hkw:IntKind.i64.wrap ((q:Int) + 1)=((q + 1:Nat):Int):=by rw [z9 (by omega)];simp
           obtain ⟨y,hy⟩:∃ y,n.paths[q]?=some y:=⟨_,List.getElem?_eq_getElem hkl⟩
           obtain ⟨ks,vs,cc,hT,hlook⟩:=z423 n x.party hy
           have c2:(huntC n x)[2]?=some (.mp none ks vs cc):=by rw [← hT];rfl
           rw [show n.paths.length - q=(n.paths.length - (q + 1)) + 1 by omega,List.range'_succ,List.filterMap_cons] at hY
           rcases hlook with ⟨hg,fq,fb,hf⟩ | ⟨hg,hf⟩
           ·by_cases hfr:y.frm=s.pl
            ·have hne:(y.frm == s.pl)=true:=by simpa using hfr
             have heo:endOn n x s lv q=some ⟨s.pl,s.mi,q,lv⟩:=by rw [endOn,hy];dsimp only;rw [if_pos ⟨hg,hfr⟩]
             rw [heo] at hY
             dsimp only at hY
             rw [List.cons_append] at hY
             repeat (first | refine nx ?_ | (refine z3 fun K hK=>?_;simp only [go_sem,hy,List.getElem?_map,Path.row,c2,hf,Span.row];apply hK;clear hK K))
             refine z219 hG1 [] fun K hK=>?_
             simp only [go_sem,hne]
             refine ⟨rfl,Y.length,_,rfl,rfl,rfl,z464 hY,?_,?_⟩
             ·simp only [go_sem]
              refine hK _ _ ?_
              clear hK K
              refine z7 rfl ?_
              repeat (first | refine nx ?_ | (refine z3 fun K hK=>?_;simp only [go_sem,hkw];apply hK;clear hK K))
              refine ⟨q + 1,?_,⟨hkl,Y++[⟨s.pl,s.mi,q,lv⟩],by simp,by rw [hY];simp⟩,by omega⟩
              try simp only [go_sem]
              refine weA ?_ ?_ <;> simp
             ·simp only [go_sem]
              refine hK _ _ ?_
              clear hK K
              refine z10 rfl ?_
              repeat (first | refine nx ?_ | (refine z3 fun K hK=>?_;simp only [go_sem];apply hK;clear hK K))
              refine ⟨rfl,(),?_,rfl,rfl⟩
              try simp only [go_sem]
              refine weA ?_ ?_ <;> simp
            ·have hne:(y.frm == s.pl)=false:=by simpa using hfr
             have heo:endOn n x s lv q=none:=by rw [endOn,hy];dsimp only;rw [if_neg (fun hc=>hfr hc.2)]
             rw [heo] at hY
             dsimp only at hY
             repeat (first | refine nx ?_ | (refine z3 fun K hK=>?_;simp only [go_sem,hy,List.getElem?_map,Path.row,c2,hf,Span.row];apply hK;clear hK K))
             refine z219 hG1 [] fun K hK=>?_
             simp only [go_sem,hne]
             refine hK _ _ ?_
             clear hK K
             refine z7 rfl ?_
             repeat (first | refine nx ?_ | (refine z3 fun K hK=>?_;simp only [go_sem,hkw];apply hK;clear hK K))
             refine ⟨q + 1,?_,⟨hkl,Y,rfl,hY⟩,by omega⟩
             try simp only [go_sem]
             refine weA ?_ ?_ <;> simp
           ·have heo:endOn n x s lv q=none:=by rw [endOn,hy];dsimp only;rw [if_neg (fun hc=>hg hc.1)]
            rw [heo] at hY
            dsimp only at hY
            repeat (first | refine nx ?_ | (refine z3 fun K hK=>?_;simp only [go_sem,hy,List.getElem?_map,Path.row,c2,hf];apply hK;clear hK K))
            refine z7 rfl ?_
            repeat (first | refine nx ?_ | (refine z3 fun K hK=>?_;simp only [go_sem,hkw];apply hK;clear hK K))
            refine ⟨q + 1,?_,⟨hkl,Y,rfl,hY⟩,by omega⟩
            try simp only [go_sem]
            refine weA ?_ ?_ <;> simp
          ·have he:q=n.paths.length:=by (have:¬ q<n.paths.length:=by simpa using hkb);omega
           subst he
           rw [Nat.sub_self,List.range'_zero,List.filterMap_nil,List.nil_append] at hY
           repeat (first | refine nx ?_ | (refine z3 fun K hK=>?_;simp only [go_sem];apply hK;clear hK K))
           refine ⟨(),?_,Y,rfl,by rw [hY,hV]⟩
           try simp only [go_sem]
           refine weA ?_ ?_ <;> simp
      ·rintro k' _ ⟨Y,rfl,hY⟩
       rw [minRows,List.length_map,List.drop_length,List.flatMap_nil,List.nil_append] at hY
       simp only [go_sem]
       repeat (first | refine nx ?_ | (refine z3 fun K hK=>?_;simp only [go_sem,hw];apply hK;clear hK K))
       refine ⟨i + 1,?_,⟨hlt,Y,rfl,by rw [hY,hZ]⟩,by omega⟩
       try simp only [go_sem]
       refine weA ?_ ?_ <;> simp
      ·rintro e k' _ ⟨rfl,rfl⟩ _
       repeat (first | refine z95 ?_ | refine z119 ?_)
       exact ⟨trivial,.inr rfl⟩
     ·rintro e k' _ ⟨rfl,rfl⟩ _
      repeat (first | refine z95 ?_ | refine z119 ?_)
      exact ⟨trivial,.inr rfl⟩
    ·have he:i=A.length:=by (have:¬ i<A.length:=by simpa using hb);omega
     subst he
     rw [List.drop_length,List.flatMap_nil,List.append_nil] at hX
     repeat (first | refine nx ?_ | (refine z3 fun K hK=>?_;simp only [go_sem];apply hK;clear hK K))
     exact ⟨trivial,.inl (by rw [hX,endRows,List.length_map])⟩
end Go.Ab
/- A function that returns a nil slice;what is told of a nil slice. -/
namespace Go.Ab
open Go.RowKit
def retN (P:Program) (rs:Array ResultVar) (e:Exit) (_:Option Nat) (s:St):Prop:=endsOk e∧resultsA P s rs=some .nil
theorem z1114 {P:Program} {f:FuncId} {fn:Func} {c:Code} {args:List DV} (M:Nat) (he:∀ args w,(callFunc f args).run P w=.ok (.enter f args) w) (hf:P.funcs[f]?=some fn) (hb:fn.body=some c) (h4:fn.results.size≤4)
  (hw:∀ J,WalkL P none 0 J [c] (some 0) (St.start args fn.ntmps M) (retN P fn.results)):Fn P f args .nilsl:=by
 refine ⟨he,fun w own vs hown hh hd=>z159 M hf hb h4 (fun J=>z29 (hw J)) hown hh hd fun e k s ⟨h1,h2⟩=>⟨h1,.nil,h2,fun μ tmps v w' hst hv hB=>⟨v,rfl,?_,hB⟩⟩⟩
 cases hv
 exact .nilsl
def nilT:AV→AV
 | .d .nilsl=>.d (.sl [])
 | x=>x
theorem z974 (i:Nat) (st:St):Weak st { t:=st.t.set i (nilT (st.t.getD i .undef)),m:=st.m }:=fun P base out μ tmps w h=>by
 refine ⟨μ,⟨by simp [h.size],fun j x v hx hv=>?_,h.mem,h.hid,h.out,h.le⟩,fun _ hb=>hb⟩
 rw [List.getElem?_set] at hx
 split at hx
 ·rename_i hij
  subst hij
  split at hx
  ·rename_i hlt
   cases hx
   have hx0:st.t[i]?=some (st.t.getD i .undef):=by simp [hlt]
   have hr:=h.tmp i _ v hx0 hv
   unfold nilT
   split
   ·rename_i e
    rw [e] at hr
    rw [z656 hr]
    exact .d .slNil
   ·exact hr
  ·cases hx
 ·exact h.tmp j x v hx hv
theorem z419 {P:Program} {rd:Option Nat} {n:Nat} {J:Env} {c:Code} {cs:List Code} {k:Option Nat} {st:St} {Q:Exit→Option Nat→St→Prop} (i:Nat) (h:WalkL P rd n J (c::cs) k { t:=st.t.set i (nilT (st.t.getD i .undef)),m:=st.m } Q):WalkL P rd n J (c::cs) k st Q :=
 z60 (z974 i st) h
attribute [go_sem] nilT
end Go.Ab
namespace Go.Ab
open Go.RowKit Go.Proofs
set_option maxHeartbeats 16000000
set_option maxRecDepth 20000
attribute [local irreducible] WalkL Walk
def posL (l:List Int):List Int:=selL (fun i=>decide (getI l i > 0)) l.length
theorem z1073 {q:Nat→Bool} {k:Nat} (h:selL q k=[]) {i:Nat} (hi:i<k):q i=false:=by
 cases hq:q i
 ·rfl
 ·exfalso
  have:(i:Int) ∈ selL q k:=List.mem_map.2 ⟨i,List.mem_filter.2 ⟨List.mem_range.2 hi,hq⟩,rfl⟩
  rw [h] at this
  simp at this
theorem z1133 (l:List Int) (hl:l.length<2 ^ 30) (hp:posL l=[]):Fn Try.prog 41 [.sl (intRows l)] .nilsl:=by
 have hrl:=z16 l
 refine z1114 20 Try.call41 Try.func41 rfl (by decide) fun J=>?_
 simp only [go_sem,St.start,Try.ntmps41,Try.results41]
 repeat (first | refine nx ?_ | (refine z3 fun K hK=>?_;simp only [go_sem,hrl];apply hK;clear hK K))
 refine z18 (fun (i:Nat)=>[(7,.d (.i i)),(2,.nil)]) (fun _=>[]) (fun i=>i≤l.length) (fun i=>l.length - i) 0 ?_ (Nat.zero_le _) ?_
 ·simp only [go_sem]
  refine weA ?_ ?_ <;> simp
 ·intro i hi
  simp only [go_sem]
  repeat (first | refine nx ?_ | (refine z3 fun K hK=>?_;simp only [go_sem];apply hK;clear hK K))
  refine z4 rfl (fun hb=>?_) (fun hb=>?_)
  ·have hlt:i<l.length:=by simpa using hb
   have hw:IntKind.i64.wrap ((i:Int) + 1)=((i + 1:Nat):Int):=by rw [z9 (by omega)];simp
   have hg:(intRows l)[i]?=some [.i (getI l i)]:=by simpa using z36 (l:=l) (i:=(i:Int)) (by omega) (by simpa using hlt)
   have hil:i<(intRows l).length:=by omega
   have hq:=z1073 hp hlt
   repeat (first | refine nx ?_ | (refine z3 fun K hK=>?_;simp only [go_sem,hg,hil,hq];apply hK;clear hK K))
   refine z7 rfl ?_
   repeat (first | refine nx ?_ | (refine z3 fun K hK=>?_;simp only [go_sem,hw];apply hK;clear hK K))
   refine ⟨rfl,i + 1,?_,hlt,by omega⟩
   try simp only [go_sem]
   refine weA ?_ ?_ <;> simp
  ·have he:i=l.length:=by (have:¬ i<l.length:=by simpa using hb);omega
   subst he
   repeat (first | refine nx ?_ | (refine z3 fun K hK=>?_;simp only [go_sem];apply hK;clear hK K))
   simp only [go_sem,retN]
theorem z1132 (l:List Int) (hl:l.length<2 ^ 30):FnS Try.prog 41 [.sl (intRows l)] 3 1 (intRows (posL l)):=by
 have hrl:=z16 l
 refine z238 24 Try.call41 Try.func41 rfl (by decide) fun J=>?_
 simp only [go_sem,St.start,Try.ntmps41,Try.results41,]
 repeat (first | refine nx ?_ | (refine z3 fun K hK=>?_;simp only [go_sem,hrl];apply hK;clear hK K))
 refine z18 (fun (i:Nat)=>[(7,.d (.i i)),(2,.own 22)]) (fun i=>[(22,some (.arr 3 1 (intRows (selL (fun j=>decide (getI l j > 0)) i))))]) (fun i=>i≤l.length) (fun i=>l.length - i) 0 ?_ (Nat.zero_le _) ?_
 ·simp only [go_sem]
  refine z32 [22] ?_ ?_ ?_ ?_
  ·simp [lessT,z11,AV.less]
  ·simp [lessM,lessB,lessT,z11,AV.less,selL,intRows]
  ·first | rfl | simp [liveB,AV.refs,AV.refs.AV.refss,selL,intRows]
  ·first | rfl | simp [liveM,liveB,AV.refs,AV.refs.AV.refss,selL,intRows]
 ·intro i hi
  have hsl:=z849 (fun j=>decide (getI l j > 0)) i
  have hs1:=z997 (fun j=>decide (getI l j > 0)) i
  have hr39:(intRows (selL (fun j=>decide (getI l j > 0)) i)).length≤549755813887:=by rw [z16];omega
  simp only [go_sem]
  repeat (first | refine nx ?_ | (refine z3 fun K hK=>?_;simp only [go_sem];apply hK;clear hK K))
  refine z4 rfl (fun hb=>?_) (fun hb=>?_)
  ·have hlt:i<l.length:=by simpa using hb
   have hw:IntKind.i64.wrap ((i:Int) + 1)=((i + 1:Nat):Int):=by rw [z9 (by omega)];simp
   have hg:(intRows l)[i]?=some [.i (getI l i)]:=by simpa using z36 (l:=l) (i:=(i:Int)) (by omega) (by simpa using hlt)
   have hil:i<(intRows l).length:=by omega
   by_cases hq:getI l i > 0
   ·have hq:decide (getI l i > 0)=true:=decide_eq_true hq
    rw [hq,if_pos rfl] at hs1
    repeat (first | refine nx ?_ | (refine z3 fun K hK=>?_;simp only [go_sem,hg,hil,hq];apply hK;clear hK K))
    refine z10 rfl ?_
    repeat (first | refine nx ?_ | (refine z3 fun K hK=>?_;simp only [go_sem,hr39,hw];apply hK;clear hK K))
    refine ⟨rfl,i + 1,?_,hlt,by omega⟩
    try simp only [go_sem,hs1,intRows,List.map_append,List.map_cons,List.map_nil]
    refine weA ?_ ?_ <;> simp
   ·have hq:decide (getI l i > 0)=false:=decide_eq_false hq
    rw [hq] at hs1
    simp only [Bool.false_eq_true,if_false,List.append_nil] at hs1
    repeat (first | refine nx ?_ | (refine z3 fun K hK=>?_;simp only [go_sem,hg,hil,hq];apply hK;clear hK K))
    refine z7 rfl ?_
    repeat (first | refine nx ?_ | (refine z3 fun K hK=>?_;simp only [go_sem,hw];apply hK;clear hK K))
    refine ⟨rfl,i + 1,?_,hlt,by omega⟩
    try simp only [go_sem,hs1]
    refine weA ?_ ?_ <;> simp
  ·have he:i=l.length:=by (have:¬ i<l.length:=by simpa using hb);omega
   subst he
   repeat (first | refine nx ?_ | (refine z3 fun K hK=>?_;simp only [go_sem];apply hK;clear hK K))
   simp only [go_sem,posL]
end Go.Ab
namespace Go.Ab
open Go.RowKit Go.Proofs
set_option maxHeartbeats 16000000
set_option maxRecDepth 20000
attribute [local irreducible] WalkL Walk
def bump1 (l:List Int) (i:Int):List Int:=l.set i.toNat (wr (getI l i + 1))
def tally (a:List Int × List Int) (e:EndT):List Int × List Int:=if e.pa<0 then (bump1 a.1 e.pl,a.2) else (a.1,bump1 a.2 e.pa)
def tallyE (n:Net) (E:List EndT):List Int × List Int:=E.foldl tally (List.replicate n.places.toNat 0,List.replicate n.paths.length 0)
def huntedA (n:Net) (x:Missed):List Arv:=(followF n x (boundN n x + 1) 0 (startA x,[])).1
def whereP (n:Net) (x:Missed):List Int:=posL (tallyE n (endsL n x (huntedA n x))).1
def whereW (n:Net) (x:Missed):List Int:=posL (tallyE n (endsL n x (huntedA n x))).2
def whereC (n:Net) (x:Missed):List Int × List Int × Int :=
 if openX n x≠0 then ([],[],openX n x) else if whereP n x=[]∧whereW n x=[] then ([],[],3) else (whereP n x,whereW n x,0)
def whereD (n:Net) (x:Missed):DV:=.tup [.sl (intRows (whereC n x).1),.sl (intRows (whereC n x).2.1),.i (whereC n x).2.2]
theorem z1051 (l:List Int) (i:Int):(bump1 l i).length=l.length:=by simp [bump1]
theorem z309 (a:List Int × List Int) (e:EndT):(tally a e).1.length=a.1.length∧(tally a e).2.length=a.2.length:=by
 rw [tally];split <;> simp [z1051]
theorem z132:∀ (E:List EndT) (a:List Int × List Int),(E.foldl tally a).1.length=a.1.length∧(E.foldl tally a).2.length=a.2.length
 | [],a=>⟨rfl,rfl⟩
 | e::E,a=>by
  have h:=z132 E (tally a e)
  rw [(z309 a e).1,(z309 a e).2] at h
  exact h
theorem z327 {n:Net} {x:Missed} (hl:x.clues.length<2 ^ 30) (h:openX n x=0):Hunted n x:=by
 have hc:checkPartyF n x.party=0:=by
  rw [openX] at h
  split at h
  ·rename_i h1;exact absurd h h1
  ·rename_i h1;exact Classical.not_not.1 h1
 have hb:badHunt n x=false:=by
  cases hb:badHunt n x
  ·rfl
  ·simp [openX,hc,hb] at h
 have hn:¬ badNet n=true:=fun hb=>by rw [checkPartyF,if_pos hb] at hc;simp at hc
 have hp:¬ badParty x.party=true:=fun hb=>by rw [checkPartyF,if_neg hn,if_pos hb] at hc;simp at hc
 simp only [badHunt,Bool.or_eq_false_iff,Bool.not_eq_false',z27] at hb
 obtain ⟨h1,h2,h3,h4⟩:=hb
 exact ⟨z155.1 hn,z178.1 hp,⟨h1.1,by omega⟩,⟨h2.1,h4.1⟩,h4.2,h3,hl⟩
theorem z451 {n:Net} {x:Missed} {lo hi:Int} {mk:Int→Arv} (hmk:∀ t,(0≤(mk t).pl∧(mk t).pl<n.places)∧(mk t).mi=t):∀ {ws:List (Int × Bool)} {A:List Arv},(∀ w ∈ ws,x.start≤w.1∧w.1≤x.now)→goodA n x A→goodA n x (walkA x.clues lo hi mk ws A)
 | [],A,_,hA=>hA
 | w::ws,A,hw,hA=>by
  rw [walkA]
  split
  ·exact hA
  ·refine z451 hmk (fun v hv=>hw v (by simp [hv])) ?_
   split
   ·have:=hmk w.1
    exact z74 hA ⟨this.1,by rw [this.2];exact (hw w (by simp))⟩
   ·exact hA
theorem z960 {n:Net} {x:Missed} (hx:Hunted n x) {p m lv:Int} {A:List Arv} {k:Nat} (hlv:x.start≤lv) (hA:goodA n x A):goodA n x (pathA n x p m lv A k):=by
 rw [pathA]
 split
 ·rename_i y hy
  split
  ·refine z451 (fun t=>⟨(hx.net.path y (List.mem_of_getElem? hy)).to,rfl⟩) (fun w hw=>?_) hA
   have:=z274 hw
   omega
  ·exact hA
 ·exact hA
theorem z830 {n:Net} {x:Missed} (hx:Hunted n x) {p m lv:Int} {a:List Arv × List Cnt} (hlv:x.start≤lv) (hA:goodA n x a.1):goodA n x (leaveA n x p m a lv).1:=by
 rw [leaveA]
 split
 ·exact hA
 ·rw [pathsA]
  have:∀ (l:List Nat) (A:List Arv),goodA n x A→goodA n x (l.foldl (pathA n x p m lv) A):=fun l=>by
   induction l with
   | nil=>exact fun A h=>h
   | cons k l ih=>exact fun A h=>ih _ (z960 hx hlv h)
  exact this _ _ hA
theorem z452 {n:Net} {x:Missed} (hx:Hunted n x) {s:Arv} {a:List Arv × List Cnt} (hs:x.start≤s.mi) (hA:goodA n x a.1):goodA n x (spotA n x s a).1:=by
 rw [spotA]
 have:∀ (l:List Int) (a:List Arv × List Cnt),(∀ v ∈ l,x.start≤v)→goodA n x a.1→goodA n x (l.foldl (leaveA n x s.pl s.mi) a).1:=fun l=>by
  induction l with
  | nil=>exact fun a _ h=>h
  | cons k l ih=>exact fun a hl h=>ih _ (fun v hv=>hl v (by simp [hv])) (z830 hx (hl k (by simp)) h)
 exact this _ _ (fun v hv=>by have:=z278 hv;omega) hA
theorem z289 {n:Net} {x:Missed} (hx:Hunted n x):∀ (f i:Nat) (a:List Arv × List Cnt),goodA n x a.1→goodA n x (followF n x f i a).1
 | 0,_,a,h=>h
 | f + 1,i,a,h=>by
  rw [followF]
  split
  ·rename_i s hs
   exact z289 hx f _ _ (z452 hx (h.1 s (List.mem_of_getElem? hs)).2.1 h)
  ·exact h
theorem z213 {n:Net} {x:Missed} (hx:Hunted n x):goodA n x (huntedA n x) :=
 z289 hx _ _ _ (z74 ⟨fun a ha=>(by simp at ha),by simp⟩ ⟨hx.place,Int.le_refl _,hx.start.2⟩)
theorem z463 {n:Net} {x:Missed} {A:List Arv} (hA:goodA n x A) {e:EndT} (h:e ∈ endsL n x A):(0≤e.pl∧e.pl<n.places)∧(e.pa<0∨0≤e.pa∧e.pa.toNat<n.paths.length):=by
 rw [endsL] at h
 obtain ⟨s,hs,h⟩:=List.mem_flatMap.1 h
 have hg:=(hA.1 s hs).1
 rw [endOf8] at h
 rcases List.mem_append.1 h with h | h
 ·obtain ⟨m,_,hm⟩:=List.mem_filterMap.1 h
  rw [endIn] at hm
  split at hm
  ·cases hm;exact ⟨hg,.inl (show (-1:Int)<0 by decide)⟩
  ·cases hm
 ·obtain ⟨lv,_,hm⟩:=List.mem_flatMap.1 h
  rw [endLv] at hm
  split at hm
  ·simp at hm
  ·obtain ⟨k,hk,hm⟩:=List.mem_filterMap.1 hm
   rw [endOn] at hm
   split at hm
   ·split at hm
    ·cases hm;exact ⟨hg,.inr ⟨Int.natCast_nonneg k,by simpa using List.mem_range.1 hk⟩⟩
    ·cases hm
   ·cases hm
theorem z1007 {h:DV} {A:List Arv}:∃ b,reify ((trkM h A).map some) Ab.deep (.box 0 0)=some (.ptr [h,b,.sl (arvRows A)] 0):=by
 refine ⟨_,rfl⟩
theorem zf12 (n:Net) (x:Missed) (hs:n.Small) (hl:x.clues.length<2 ^ 30):Fn Try.prog 12 [.agg n.cells,.agg x.row] (whereD n x):=by
 have h38:=zf38 n x hs hl
 rw [Net.cells,Missed.row] at h38
 refine z12 61 Try.call12 Try.func12 rfl (by decide) fun J=>?_
 simp only [go_sem,St.start,Try.ntmps12,Try.results12,Net.cells,Missed.row]
 by_cases hok:openX n x=0
 ·have hx:=z327 hl hok
  rw [openD,if_pos hok,hok] at h38
  obtain ⟨A,hA⟩:∃ A,A=huntedA n x:=⟨_,rfl⟩
  have hgA:goodA n x A:=hA ▸ z213 hx
  have g39:=zf39 n x hx
  rw [← huntedA,← hA] at g39
  obtain ⟨b,hb⟩:=z1007 (h:=.ptr (huntC n x) 0) (A:=A)
  have h39:=FnG.deep (args:=[.ptr (huntC n x) 0]) g39 hb
  have hit:=z1178 n x hx A b hgA
  have hpl:=hx.net.places
  have hpt:=hx.net.paths
  repeat (first | refine nx ?_ | (refine z3 fun K hK=>?_;simp only [go_sem];(repeat (first | (refine ⟨_,.lent (hf:=h38) (hd:=rfl) (hr:=rfl),?_⟩;simp only [go_sem]) | (refine ⟨_,.given (hf:=h38) (hd:=rfl) (ha:=rfl),?_⟩;simp only [go_sem])));apply hK;clear hK K))
  refine z7 rfl ?_
  repeat (first | refine nx ?_ | (refine z3 fun K hK=>?_;simp only [go_sem];apply hK;clear hK K))
  obtain ⟨m,hm⟩:∃ m:Nat,n.places=m:=⟨n.places.toNat,by omega⟩
  obtain ⟨E,hE⟩:∃ E,E=endsL n x A:=⟨_,rfl⟩
  rw [← hE] at hit
  have hrep:∀ k,List.replicate k [DV.int .i64 0]=intRows (List.replicate k 0):=fun k=>by simp [intRows]
  have q1:(m:Int)≤1099511627776:=by omega
  have q2:(n.paths.length:Int)≤1099511627776:=by omega
  have q3:¬ ((m:Int)<0):=by omega
  refine z6 (by kernel_rfl) (by kernel_rfl) fun K hK=>?_
  simp only [go_sem,hm,q1,q2,q3,hrep,List.length_map,true_and]
  refine ⟨by kernel_rfl,hK _ ?_⟩
  clear hK K
  repeat (first | refine nx ?_ | (refine z3 fun K hK=>?_;simp only [go_sem];(repeat (first | (refine ⟨_,.lent (hf:=h39) (hd:=rfl) (hr:=rfl),?_⟩;simp only [go_sem]) | (refine ⟨_,.given (hf:=h39) (hd:=rfl) (ha:=rfl),?_⟩;simp only [go_sem])));apply hK;clear hK K))
  refine z168 rfl hit (by intro row hr;obtain ⟨w,_,rfl⟩:=List.mem_map.1 hr;rfl) (fun _=>[]) (fun (a:List Int × List Int)=>[(22,some (.arr 3 1 (intRows a.1))),(26,some (.arr 3 1 (intRows a.2)))])
   (fun k' j a=>k'=some 0∧a=(E.take j).foldl tally (List.replicate m 0,List.replicate n.paths.length 0)) (fun _ _ _=>False) (List.replicate m 0,List.replicate n.paths.length 0) ?_ ⟨rfl,by simp⟩ ?_ ?_ (fun _ _ _ h=>h.elim)
  ·simp only [go_sem]
   refine weA ?_ ?_ <;> simp
  ·rintro X0 W0 k' j a row hj ⟨rfl,ha⟩ l1 m1
   obtain ⟨e,he,rfl⟩:∃ e,E[j]?=some e∧row=[.agg e.row]:=by
    simp only [endRows,List.getElem?_map,Option.map_eq_some_iff] at hj
    obtain ⟨e,h1,h2⟩:=hj
    exact ⟨e,h1,h2.symm⟩
   have hr:=z463 hgA (hE ▸ List.mem_of_getElem? he)
   have ha':(E.take (j + 1)).foldl tally (List.replicate m 0,List.replicate n.paths.length 0)=tally a e:=by rw [z40 _ _ _ _ _ he,← ha]
   have hl:=z132 (E.take j) (List.replicate m 0,List.replicate n.paths.length 0)
   rw [← ha] at hl
   simp only [List.length_replicate] at hl
   have hil:=z16 a.1
   have hil2:=z16 a.2
   rw [hl.1] at hil
   rw [hl.2] at hil2
   simp only [go_sem,EndT.row]
   by_cases hp:e.pa<0
   ·have hpb:decide (e.pa<0)=true:=decide_eq_true hp
    have h0:0≤e.pl:=hr.1.1
    have h1:e.pl.toNat<m:=by omega
    have hg:=z36 (l:=a.1) (i:=e.pl) hr.1.1 (by omega)
    repeat (first | refine nx ?_ | (refine z3 fun K hK=>?_;simp only [go_sem,hpb];apply hK;clear hK K))
    refine z10 rfl ?_
    repeat (first | refine nx ?_ | (refine z3 fun K hK=>?_;simp only [go_sem,hil,h0,h1,hg,z42];apply hK;clear hK K))
    refine ⟨(bump1 a.1 e.pl,a.2),?_,rfl,by rw [ha',tally,if_pos hp]⟩
    rw [bump1]
    refine weA ?_ ?_ <;> simp
   ·have hpb:decide (e.pa<0)=false:=decide_eq_false hp
    have h0:0≤e.pa:=by omega
    have h1:e.pa.toNat<n.paths.length:=by rcases hr.2 with h | h <;> omega
    have hg:=z36 (l:=a.2) (i:=e.pa) (by omega) (by omega)
    repeat (first | refine nx ?_ | (refine z3 fun K hK=>?_;simp only [go_sem,hpb];apply hK;clear hK K))
    refine z7 rfl ?_
    repeat (first | refine nx ?_ | (refine z3 fun K hK=>?_;simp only [go_sem,hil2,h0,h1,hg,z42];apply hK;clear hK K))
    refine ⟨(a.1,bump1 a.2 e.pa),?_,rfl,by rw [ha',tally,if_neg hp]⟩
    rw [bump1]
    refine weA ?_ ?_ <;> simp
  ·rintro k' a ⟨rfl,ha⟩
   rw [endRows,List.length_map,List.take_length] at ha
   have ht:tallyE n (endsL n x (huntedA n x))=a:=by rw [tallyE,← hA,← hE,ha,hm];rfl
   have hl:=z132 E (List.replicate m 0,List.replicate n.paths.length 0)
   rw [← ha] at hl
   simp only [List.length_replicate] at hl
   have hP:whereP n x=posL a.1:=by rw [whereP,ht]
   have hW:whereW n x=posL a.2:=by rw [whereW,ht]
   simp only [go_sem]
   repeat (first | refine z33 ?_ | refine z52 ?_ | refine z8 ?_ | refine z167 ?_ | refine z85 ?_ | refine z59 ?_ | refine z105 rfl ?_ | refine z95 ?_ | refine z82 ?_ | refine z119 ?_ | refine z87 ?_ | refine z5 ?_)
   have nz:∀ l:List Int,l≠[]→(intRows l).isEmpty=false:=fun l h=>by cases l <;> simp_all [intRows]
   by_cases p1:posL a.1=[]
   ·have zf1:=z1133 a.1 (by omega) p1
    by_cases p2:posL a.2=[]
    ·have zf2:=z1133 a.2 (by omega) p2
     have hw:whereD n x=.tup [.sl [],.sl [],.i 3]:=by rw [whereD,whereC,if_neg (fun h=>h hok),if_pos ⟨by rw [hP,p1],by rw [hW,p2]⟩];rfl
     rw [hw]
     refine z6 (by kernel_rfl) (by kernel_rfl) fun K hK=>?_
     simp only [go_sem]
     refine ⟨_,.fn (hf:=zf1) (hd:=rfl) (hr:=.inl rfl),?_⟩
     simp only [go_sem]
     refine ⟨_,.fn (hf:=zf2) (hd:=rfl) (hr:=.inl rfl),?_⟩
     simp only [go_sem]
     refine ⟨by kernel_rfl,hK _ ?_⟩
     clear hK K
     repeat (first | refine nx ?_ | (refine z3 fun K hK=>?_;simp only [go_sem];apply hK;clear hK K))
     refine z10 rfl ?_
     repeat (first | refine nx ?_ | (refine z3 fun K hK=>?_;simp only [go_sem];apply hK;clear hK K))
     simp only [go_sem,retN]
    ·have zf2:=z1132 a.2 (by omega)
     have hw:whereD n x=.tup [.sl [],.sl (intRows (posL a.2)),.i 0]:=by rw [whereD,whereC,if_neg (fun h=>h hok),if_neg (fun h=>p2 (by rw [← hW,h.2])),hP,p1,hW];rfl
     rw [hw]
     refine z6 (by kernel_rfl) (by kernel_rfl) fun K hK=>?_
     simp only [go_sem]
     refine ⟨_,.fn (hf:=zf1) (hd:=rfl) (hr:=.inl rfl),?_⟩
     simp only [go_sem]
     refine ⟨_,.fnS (hdst:=rfl) (hf:=zf2) (hd:=rfl) (hr:=.inl (z44 _)) (hfr:=rfl),?_⟩
     simp only [go_sem]
     refine ⟨by kernel_rfl,hK _ ?_⟩
     clear hK K
     refine z143 [52] ?_
     simp only [go_sem]
     repeat (first | refine nx ?_ | (refine z3 fun K hK=>?_;simp only [go_sem,nz _ p2];apply hK;clear hK K))
     refine z7 rfl ?_
     refine z52 ?_
     refine z419 4 ?_
     simp only [go_sem]
     repeat (first | refine nx ?_ | (refine z3 fun K hK=>?_;simp only [go_sem];apply hK;clear hK K))
     simp only [go_sem,retN]
   ·have zf1:=z1132 a.1 (by omega)
    by_cases p2:posL a.2=[]
    ·have zf2:=z1133 a.2 (by omega) p2
     have hw:whereD n x=.tup [.sl (intRows (posL a.1)),.sl [],.i 0]:=by rw [whereD,whereC,if_neg (fun h=>h hok),if_neg (fun h=>p1 (by rw [← hP,h.1])),hP,hW,p2];rfl
     rw [hw]
     refine z6 (by kernel_rfl) (by kernel_rfl) fun K hK=>?_
     simp only [go_sem]
     refine ⟨_,.fnS (hdst:=rfl) (hf:=zf1) (hd:=rfl) (hr:=.inl (z44 _)) (hfr:=rfl),?_⟩
     simp only [go_sem]
     refine ⟨_,.fn (hf:=zf2) (hd:=rfl) (hr:=.inl rfl),?_⟩
     simp only [go_sem]
     refine ⟨by kernel_rfl,hK _ ?_⟩
     clear hK K
     refine z143 [50] ?_
     simp only [go_sem]
     repeat (first | refine nx ?_ | (refine z3 fun K hK=>?_;simp only [go_sem,nz _ p1];apply hK;clear hK K))
     refine z7 rfl ?_
     refine z52 ?_
     refine z419 5 ?_
     simp only [go_sem]
     repeat (first | refine nx ?_ | (refine z3 fun K hK=>?_;simp only [go_sem];apply hK;clear hK K))
     simp only [go_sem,retN]
    ·have zf2:=z1132 a.2 (by omega)
     have hw:whereD n x=.tup [.sl (intRows (posL a.1)),.sl (intRows (posL a.2)),.i 0]:=by rw [whereD,whereC,if_neg (fun h=>h hok),if_neg (fun h=>p1 (by rw [← hP,h.1])),hP,hW]
     rw [hw]
     refine z6 (by kernel_rfl) (by kernel_rfl) fun K hK=>?_
     simp only [go_sem]
     refine ⟨_,.fnS (hdst:=rfl) (hf:=zf1) (hd:=rfl) (hr:=.inl (z44 _)) (hfr:=rfl),?_⟩
     simp only [go_sem]
     refine ⟨_,.fnS (hdst:=rfl) (hf:=zf2) (hd:=rfl) (hr:=.inl (z44 _)) (hfr:=rfl),?_⟩
     simp only [go_sem]
     refine ⟨by kernel_rfl,hK _ ?_⟩
     clear hK K
     refine z143 [50,52] ?_
     simp only [go_sem]
     repeat (first | refine nx ?_ | (refine z3 fun K hK=>?_;simp only [go_sem,nz _ p1,nz _ p2];apply hK;clear hK K))
     refine z7 rfl ?_
     repeat (first | refine nx ?_ | (refine z3 fun K hK=>?_;simp only [go_sem];apply hK;clear hK K))
     simp only [go_sem,retN]
 ·rw [openD,if_neg hok] at h38
  have hne:(openX n x != 0)=true:=by simpa using hok
  have hw:whereD n x=.tup [.sl [],.sl [],.i (openX n x)]:=by rw [whereD,whereC,if_pos hok];rfl
  rw [hw]
  repeat (first | refine nx ?_ | (refine z3 fun K hK=>?_;simp only [go_sem,hne];(repeat (first | (refine ⟨_,.lent (hf:=h38) (hd:=rfl) (hr:=rfl),?_⟩;simp only [go_sem,hne]) | (refine ⟨_,.given (hf:=h38) (hd:=rfl) (ha:=rfl),?_⟩;simp only [go_sem,hne])));apply hK;clear hK K))
  refine z10 rfl ?_
  repeat (first | refine nx ?_ | (refine z3 fun K hK=>?_;simp only [go_sem];apply hK;clear hK K))
  simp only [go_sem,retN]
end Go.Ab
namespace Go.Ab
open Go.RowKit Go.Proofs
set_option maxHeartbeats 2000000
def memA (A:List Arv) (p m:Int):Prop:=∃ a ∈ A,a.pl=p∧a.mi=m
theorem z226 {A B:List Arv} (h:A <+: B) {p m:Int} (hm:memA A p m):memA B p m:=by
 obtain ⟨a,ha,h1⟩:=hm
 exact ⟨a,h.subset ha,h1⟩
theorem z1098 {A:List Arv} {a:Arv}:A.any (sameS a)=true↔memA A a.pl a.mi:=by
 simp only [List.any_eq_true,sameS,Bool.and_eq_true,beq_iff_eq,memA]
theorem z842 (cl:List Clue) (A:List Arv) (a:Arv):A <+: arriveA cl A a:=by
 rw [arriveA];split
 ·exact List.prefix_refl _
 ·exact List.prefix_append _ _
theorem z357 {cl:List Clue} {A:List Arv} {a:Arv} (h:atB cl a.pl a.mi=true):memA (arriveA cl A a) a.pl a.mi:=by
 rw [arriveA,h,Bool.not_true,Bool.or_false]
 split
 ·rename_i hc;exact z1098.1 hc
 ·exact ⟨a,by simp,rfl,rfl⟩
theorem z307 (cl:List Clue) (lo hi:Int) (mk:Int→Arv):∀ (ws:List (Int × Bool)) (A:List Arv),A <+: walkA cl lo hi mk ws A
 | [],A=>List.prefix_refl _
 | w::ws,A=>by
  rw [walkA];split
  ·exact List.prefix_refl _
  ·refine List.IsPrefix.trans ?_ (z307 cl lo hi mk ws _)
   split
   ·exact z842 _ _ _
   ·exact List.prefix_refl _
theorem z563 {cl:List Clue} {lo hi t:Int} {b:Bool} {mk:Int→Arv} (hmk:(mk t).mi=t) (hat:atB cl (mk t).pl t=true) (h1:lo≤t) (h2:t≤hi):∀ (f:Nat) (m:Int) (A:List Arv),(t,b) ∈ walksF cl f m→memA (walkA cl lo hi mk (walksF cl f m) A) (mk t).pl t
 | 0,m,A,h=>by simp [walksF] at h
 | f + 1,m,A,h=>by
  rw [walksF] at h ⊢
  rw [walkA]
  rcases List.mem_cons.1 h with h | h
  ·cases h
   have e1:¬ ((t,onB8 cl t):Int × Bool).1 > hi:=by show ¬ t > hi;omega
   have e2:((t,onB8 cl t):Int × Bool).1 ≥ lo:=h1
   rw [if_neg e1,if_pos e2]
   have:=z357 (cl:=cl) (A:=A) (a:=mk t) (by rw [hmk];exact hat)
   rw [hmk] at this
   exact z226 (z307 _ _ _ _ _ _) this
  ·split at h
   ·rename_i hc
    have hr:=z166 h
    have e1:¬ ((m,onB8 cl m):Int × Bool).1 > hi:=by show ¬ m > hi;have:m + 1≤t:=hr.1;omega
    rw [if_neg e1,if_pos hc]
    exact z563 hmk hat h1 h2 f (m + 1) _ h
   ·simp at h
def arrFrom (n:Net) (x:Missed) (p lv to t:Int):Prop:=∃ (k:Nat) (y:Path) (b:Bool),n.paths[k]?=some y∧y.frm=p∧y.grade≤x.party.grade∧y.to=to ∧
 wr (lv + (spanW y x.party).lo)≤t∧t≤wr (lv + (spanW y x.party).hi)∧(t,b) ∈ walksL x lv∧atB x.clues to t=true
theorem z638 (n:Net) (x:Missed) (p m lv:Int) (A:List Arv) (k:Nat):A <+: pathA n x p m lv A k:=by
 rw [pathA];split
 ·split
  ·exact z307 _ _ _ _ _ _
  ·exact List.prefix_refl _
 ·exact List.prefix_refl _
theorem z434 (n:Net) (x:Missed) (p m lv:Int):∀ (k:Nat) (A:List Arv),A <+: pathsA n x p m lv k A
 | 0,A=>List.prefix_refl _
 | k + 1,A=>by
  rw [pathsA,List.range_succ,List.foldl_append]
  exact (z434 n x p m lv k A).trans (z638 _ _ _ _ _ _ _)
theorem z943 {n:Net} {x:Missed} {p m lv to t:Int} (h:arrFrom n x p lv to t):∀ (k:Nat) (A:List Arv),n.paths.length≤k→memA (pathsA n x p m lv k A) to t:=by
 obtain ⟨j,y,b,h1,h2,h3,h4,h5,h6,h7,h8⟩:=h
 have hj:=(List.getElem?_eq_some_iff.1 h1).1
 have hstep:∀ k,j<k→∀ A,memA (pathsA n x p m lv k A) to t:=by
  intro k
  induction k with
  | zero=>intro h;omega
  | succ k ih =>
   intro hjk A
   rw [pathsA,List.range_succ,List.foldl_append]
   by_cases hk:j<k
   ·exact z226 (z638 _ _ _ _ _ _ _) (ih hk A)
   ·obtain rfl:j=k:=by omega
    simp only [List.foldl_cons,List.foldl_nil]
    rw [pathA,h1]
    dsimp only
    rw [if_pos ⟨h2,h3⟩,← h4]
    exact z563 (mk:=fun t=>⟨y.to,t,p,m,j,lv⟩) rfl (by rw [h4];exact h8) h5 h6 _ _ _ h7
 exact fun k A hk=>hstep k (by omega) A
def Closed (n:Net) (x:Missed) (a:List Arv × List Cnt):Prop:=∀ p lv,hasL a.2 p lv=true→∀ to t,arrFrom n x p lv to t→memA a.1 to t
theorem z235 {p m q u:Int}:∀ (l:List Cnt),hasL (bumpL l p m) q u=true↔hasL l q u=true∨(q=p∧u=m)
 | []=>by simp [bumpL,hasL];exact ⟨fun ⟨a,b⟩=>⟨a.symm,b.symm⟩,fun ⟨a,b⟩=>⟨a.symm,b.symm⟩⟩
 | a::l=>by
  rw [bumpL]
  split
  ·rename_i ha
   simp only [hasL,List.any_cons,Bool.or_eq_true,decide_eq_true_eq]
   constructor
   ·rintro (h | h)
    ·exact .inl (.inl h)
    ·exact .inl (.inr h)
   ·rintro ((h | h) | ⟨rfl,rfl⟩)
    ·exact .inl h
    ·exact .inr h
    ·exact .inl ha
  ·have:=z235 (p:=p) (m:=m) (q:=q) (u:=u) l
   simp only [hasL,List.any_cons,Bool.or_eq_true] at this ⊢
   rw [this]
   constructor
   ·rintro (h | h | h)
    ·exact .inl (.inl h)
    ·exact .inl (.inr h)
    ·exact .inr h
   ·rintro ((h | h) | h)
    ·exact .inl h
    ·exact .inr (.inl h)
    ·exact .inr (.inr h)
theorem z1045 {p m:Int}:∀ (l:List Cnt),hasL l p m=false→cntL l p m=0
 | [],_=>rfl
 | a::l,h=>by
  simp only [hasL,List.any_cons,Bool.or_eq_false_iff,decide_eq_false_iff_not] at h
  rw [cntL,if_neg h.1]
  exact z1045 l h.2
theorem z441 (n:Net) (x:Missed) (p m:Int) (a:List Arv × List Cnt) (lv:Int):a.1 <+: (leaveA n x p m a lv).1:=by
 rw [leaveA];split
 ·exact List.prefix_refl _
 ·exact z434 _ _ _ _ _ _ _
theorem z260 {n:Net} {x:Missed} {p m lv q u:Int} {a:List Arv × List Cnt}:hasL (leaveA n x p m a lv).2 q u=true↔hasL a.2 q u=true∨(q=p∧u=lv):=by
 have:(leaveA n x p m a lv).2=bumpL a.2 p lv:=by rw [leaveA];split <;> rfl
 rw [this,z235]
theorem z527 {n:Net} {x:Missed} {p m lv:Int} {a:List Arv × List Cnt} (h:Closed n x a):Closed n x (leaveA n x p m a lv):=by
 intro q u hq to t ht
 by_cases hqu:q=p∧u=lv
 ·obtain ⟨rfl,rfl⟩:=hqu
  rw [leaveA]
  split
  ·rename_i hc
   refine h q u ?_ to t ht
   cases hh:hasL a.2 q u
   ·rw [z349,z1045 _ hh] at hc
    exact absurd hc (by decide)
   ·rfl
  ·exact z943 ht _ _ (Nat.le_refl _)
 ·rcases z260.1 hq with h1 | h1
  ·exact z226 (z441 _ _ _ _ _ _) (h q u h1 to t ht)
  ·exact absurd h1 hqu
theorem z440 (n:Net) (x:Missed) (p m:Int):∀ (l:List Int) (a:List Arv × List Cnt),a.1 <+: (l.foldl (leaveA n x p m) a).1
 | [],a=>List.prefix_refl _
 | v::l,a=>(z441 n x p m a v).trans (z440 n x p m l _)
theorem z333 {n:Net} {x:Missed} {p m:Int}:∀ (l:List Int) (a:List Arv × List Cnt),Closed n x a→Closed n x (l.foldl (leaveA n x p m) a)∧(∀ q u,hasL a.2 q u=true→hasL (l.foldl (leaveA n x p m) a).2 q u=true)∧∀ v ∈ l,hasL (l.foldl (leaveA n x p m) a).2 p v=true
 | [],a,h=>⟨h,fun _ _ h=>h,fun v hv=>by simp at hv⟩
 | v::l,a,h=>by
  obtain ⟨h1,h2,h3⟩:=z333 l (leaveA n x p m a v) (z527 h)
  refine ⟨h1,fun q u hq=>h2 q u (z260.2 (.inl hq)),fun u hu=>?_⟩
  rcases List.mem_cons.1 hu with rfl | hu
  ·exact h2 _ _ (z260.2 (.inr ⟨rfl,rfl⟩))
  ·exact h3 u hu
def Looked (n:Net) (x:Missed) (i:Nat) (a:List Arv × List Cnt):Prop:=Closed n x a∧∀ (j:Nat) s,j<i→a.1[j]?=some s→∀ lv ∈ staysL x s.pl s.mi (wr (s.mi + x.rest)),hasL a.2 s.pl lv=true
theorem z1010 {A B:List Arv} (h:A <+: B) {j:Nat} (hj:j<A.length):B[j]?=A[j]?:=by
 obtain ⟨C,rfl⟩:=h
 rw [List.getElem?_append_left hj]
theorem z212 {n:Net} {x:Missed} (hx:Hunted n x):∀ (f i:Nat) (a:List Arv × List Cnt),i≤a.1.length→boundN n x + 1≤i + f→goodA n x a.1→Looked n x i a →
  a.1 <+: (followF n x f i a).1∧Looked n x (followF n x f i a).1.length (followF n x f i a)
 | 0,i,a,hi,hf,hg,hL=>by
  have:=z182 hg
  omega
 | f + 1,i,a,hi,hf,hg,hL=>by
  rw [followF]
  split
  ·rename_i s hs
   have hsp:=(hg.1 s (List.mem_of_getElem? hs)).2.1
   have hil:=(List.getElem?_eq_some_iff.1 hs).1
   have hp:=z440 n x s.pl s.mi (staysL x s.pl s.mi (wr (s.mi + x.rest))) a
   obtain ⟨h1,h2,h3⟩:=z333 (p:=s.pl) (m:=s.mi) (staysL x s.pl s.mi (wr (s.mi + x.rest))) a hL.1
   have hlen:=hp.length_le
   obtain ⟨h4,h5⟩:=z212 hx f (i + 1) (spotA n x s a) (by rw [spotA];omega) (by omega) (z452 hx hsp hg) ⟨h1,fun j s' hj hs' lv hlv=>by
    by_cases hji:j<i
    ·rw [spotA,z1010 hp (by omega)] at hs'
     exact h2 _ _ (hL.2 j s' hji hs' lv hlv)
    ·obtain rfl:j=i:=by omega
     rw [spotA,z1010 hp hil,hs] at hs'
     cases hs'
     exact h3 lv hlv⟩
   exact ⟨hp.trans h4,h5⟩
  ·rename_i hs
   have:=List.getElem?_eq_none_iff.1 hs
   obtain rfl:i=a.1.length:=by omega
   exact ⟨List.prefix_refl _,hL⟩
theorem z530 {n:Net} {x:Missed} (hx:Hunted n x) {s:Arv} (hs:s ∈ huntedA n x) {lv to t:Int} (hlv:lv ∈ staysL x s.pl s.mi (wr (s.mi + x.rest))) (h:arrFrom n x s.pl lv to t):memA (huntedA n x) to t:=by
 have hg0:goodA n x (startA x):=z74 ⟨fun a ha=>(by simp at ha),by simp⟩ ⟨hx.place,Int.le_refl _,hx.start.2⟩
 obtain ⟨h1,h2⟩:=z212 hx (boundN n x + 1) 0 (startA x,[]) (Nat.zero_le _) (by omega) hg0 ⟨fun p lv hh=>by simp [hasL] at hh,fun j s hj=>by omega⟩
 obtain ⟨j,hj⟩:=List.getElem?_of_mem hs
 exact h2.1 _ _ (h2.2 j s (List.getElem?_eq_some_iff.1 hj).1 hj lv hlv) to t h
theorem z658 {n:Net} {x:Missed} (hx:Hunted n x) (h:atB x.clues x.place x.start=true):memA (huntedA n x) x.place x.start:=by
 have hg0:goodA n x (startA x):=z74 ⟨fun a ha=>(by simp at ha),by simp⟩ ⟨hx.place,Int.le_refl _,hx.start.2⟩
 obtain ⟨h1,h2⟩:=z212 hx (boundN n x + 1) 0 (startA x,[]) (Nat.zero_le _) (by omega) hg0 ⟨fun p lv hh=>by simp [hasL] at hh,fun j s hj=>by omega⟩
 exact z226 h1 (z357 (a:=⟨x.place,x.start,0,0,-1,0⟩) h)
end Go.Ab
namespace Go.Ab
open Go.RowKit Go.Proofs
set_option maxHeartbeats 2000000
theorem z627 {cl:List Clue} (hc:cl=[]) {p top:Int}:∀ (f:Nat) (m w:Int),m≤w→w≤top→w<m + f→w ∈ staysF cl p top f m
 | 0,m,w,h1,h2,h3=>by omega
 | f + 1,m,w,h1,h2,h3=>by
  subst hc
  rw [staysF,if_pos ⟨by omega,rfl⟩]
  by_cases h:w=m
  ·rw [h];simp
  ·exact List.mem_cons.2 (.inr (z627 rfl f (m + 1) w (by omega) h2 (by omega)))
theorem z251 {x:Missed} (hc:x.clues=[]) {p m most w:Int} (h1:m≤w) (h2:w≤most) (h3:w≤x.now):w ∈ staysL x p m most :=
 z627 hc _ _ _ h1 (by omega) (by omega)
theorem z550 {cl:List Clue} (hc:cl=[]):∀ (f:Nat) (m t:Int),m≤t→t<m + f→(t,true) ∈ walksF cl f m
 | 0,m,t,h1,h2=>by omega
 | f + 1,m,t,h1,h2=>by
  subst hc
  rw [walksF]
  by_cases h:t=m
  ·rw [h];exact List.mem_cons.2 (.inl rfl)
  ·refine List.mem_cons.2 (.inr ?_)
   rw [if_pos (show onB8 [] m=true from rfl)]
   exact z550 rfl f (m + 1) t (by omega) (by omega)
theorem z879 {x:Missed} (hc:x.clues=[]) {lv t:Int} (h1:lv + 1≤t) (h2:t≤x.now):(t,true) ∈ walksL x lv:=z550 hc _ _ _ h1 (by omega)
theorem z1044 {n:Net} {x:Missed} {A:List Arv} {s:Arv} (hs:s ∈ A) (h:x.now ∈ staysL x s.pl s.mi x.now):⟨s.pl,s.mi,-1,x.now⟩ ∈ endsL n x A:=by
 refine List.mem_flatMap.2 ⟨s,hs,?_⟩
 rw [endOf8]
 exact List.mem_append.2 (.inl (List.mem_filterMap.2 ⟨x.now,h,by rw [endIn,if_pos rfl]⟩))
theorem z1158 {n:Net} {x:Missed} {A:List Arv} {s:Arv} (hs:s ∈ A) {lv:Int} {k:Nat} {y:Path} (h:lv ∈ staysL x s.pl s.mi (wr (s.mi + x.rest))) (h1:lv≠x.now) (h2:seenF x.clues≤lv)
  (hy:n.paths[k]?=some y) (hg:y.grade≤x.party.grade) (hf:y.frm=s.pl):⟨s.pl,s.mi,k,lv⟩ ∈ endsL n x A:=by
 refine List.mem_flatMap.2 ⟨s,hs,?_⟩
 rw [endOf8]
 refine List.mem_append.2 (.inr (List.mem_flatMap.2 ⟨lv,h,?_⟩))
 rw [endLv,if_neg (by omega)]
 refine List.mem_filterMap.2 ⟨k,List.mem_range.2 (List.getElem?_eq_some_iff.1 hy).1,?_⟩
 rw [endOn,hy]
 dsimp only
 rw [if_pos ⟨hg,hf⟩]
theorem z715 {x:Hike} {i:Nat} {s:Span} (h:s.lo≤s.hi):s.lo≤timeH x i s∧timeH x i s≤s.hi:=by
 rw [timeH]
 split
 ·rename_i hi
  rw [inH] at hi
  split at hi
  ·rename_i v hv
   rw [Bool.and_eq_true,decide_eq_true_eq,decide_eq_true_eq] at hi
   rw [getI,Int.toNat_natCast,List.getD_eq_getElem?_getD,hv,Option.getD_some]
   exact ⟨hi.1,hi.2⟩
  ·cases hi
 ·exact ⟨h,Int.le_refl _⟩
theorem z659 {n:Net} {x:Hike} (hx:Hunted n x.m) (hc:x.m.clues=[]) {pl pa:Int}:∀ (r:List Int) (i:Nat) (a t:Int),memA (huntedA n x.m) a t→(∃ T z u,Trail n x.m.party a T r z u)→x.m.start≤t→t≤x.m.now →
  hikeR n x i r a t=(pl,pa,true)→∃ e ∈ endsL n x.m (huntedA n x.m),(pa<0∧e.pa<0∧e.pl=pl)∨(0≤pa∧¬ e.pa<0∧e.pa=pa)
 | [],i,a,t,hm,_,h1,h2,h=>by
  rw [hikeR] at h
  cases h
  obtain ⟨s,hs,rfl,rfl⟩:=hm
  exact ⟨_,z1044 hs (z251 hc h2 (Int.le_refl _) (Int.le_refl _)),.inl ⟨by decide,show (-1:Int)<0 by decide,rfl⟩⟩
 | v::r,i,a,t,hm,⟨T,z,u,hT⟩,h1,h2,h=>by
  have hst:=hx.start
  have hno:=hx.now
  have hre:=hx.rest
  cases hT with
  | cons w hw hwf hle hrest =>
   obtain ⟨hy,hg,_⟩:=z549.1 hw
   have hyg:=hx.net.path w.2 (List.mem_of_getElem? hy)
   obtain ⟨o1,o2,o3⟩:=z995 hyg hx.party
   unfold okTime at o1 o2
   rw [hikeR,Int.toNat_natCast,hy] at h
   dsimp only at h
   split at h
   ·cases h
    obtain ⟨s,hs,rfl,rfl⟩:=hm
    exact ⟨_,z1044 hs (z251 hc h2 (Int.le_refl _) (Int.le_refl _)),.inl ⟨by decide,show (-1:Int)<0 by decide,rfl⟩⟩
   ·rename_i hne
    split at h
    ·cases h
    ·rename_i hnr
     have hwt:wr (t + x.m.rest)=t + x.m.rest:=z9 (by omega)
     rw [hwt] at hnr
     obtain ⟨en,hen⟩:∃ e,e=enterF w.2.opens t:=⟨_,rfl⟩
     have hge:t≤en:=by
      rw [hen]
      refine z538 ?_
      rw [← hen]
      have:never=1073741824:=rfl
      omega
     rw [← hen] at h hne hnr
     obtain ⟨t1,t2⟩:=z715 (x:=x) (i:=i) o3
     obtain ⟨d,hd⟩:∃ d,d=timeH x i (spanW w.2 x.m.party):=⟨_,rfl⟩
     rw [← hd] at h t1 t2
     have hw1:wr (en + d)=en + d:=z9 (by omega)
     rw [hw1] at h
     obtain ⟨s,hs,rfl,rfl⟩:=hm
     have hstay:en ∈ staysL x.m s.pl s.mi (wr (s.mi + x.m.rest)):=z251 hc hge (by rw [hwt];omega) (by omega)
     split at h
     ·cases h
      refine ⟨_,z1158 hs hstay (by omega) (by rw [hc];show (0:Int)≤en;omega) hy hg hwf,.inr ⟨Int.natCast_nonneg _,?_,rfl⟩⟩
      have:=Int.natCast_nonneg w.1
      show ¬ (w.1:Int)<0
      omega
     ·rename_i hnn
      refine z659 hx hc r (i + 1) w.2.to (en + d) ?_ ⟨_,_,_,hrest⟩ (by omega) (by omega) h
      refine z530 hx hs hstay ⟨w.1,w.2,true,hy,hwf,hg,rfl,?_,?_,z879 hc (by omega) (by omega),by rw [hc];rfl⟩
      ·rw [show wr (en + (spanW w.2 x.m.party).lo)=en + (spanW w.2 x.m.party).lo from z9 (by omega)];omega
      ·rw [show wr (en + (spanW w.2 x.m.party).hi)=en + (spanW w.2 x.m.party).hi from z9 (by omega)];omega
end Go.Ab
/- A range over a map in a state with a row of own arrays. -/
namespace Go.Ab
open Go.RowKit
theorem z305 {P:Program} {J:Env} {k:Option Nat} {st:St} {rd:Option Nat} {n:Nat} {α:Type} {cs:List Code} {Q:Exit→Option Nat→St→Prop} {id8 id9 b2:Nat} {ops8:Array Oper} {pre:List Oper} {oR oN oX:Oper} {tI dN dE:Nat} {mt kt et:TypeId} {m:Operand} {bc:Code} (L:Nat)
  (ts:α→List (Nat × AV)) (ms:α→List (Nat × Option Blk)) (tl:α→List (Option Blk)) (I:List Nat→α→Prop)
  (kk:KK) (keys:List (MK × Nat)) (vals:List DV) (clock:Nat)
  (h8:ops8.toList=pre++[oR]) (hoR:oR.op=.range mt m) (hgR:oR.guard=none) (hdR:oR.dst=some tI)
  (hoN:oN.op=.next (.tmp tI) false) (hgN:oN.guard=none) (hdN:oN.dst=some dN) (hoX:oX.op=.extract (.tmp dN) 0) (hgX:oX.guard=none) (hdX:oX.dst=some dE)
  (hmt:P.underlying mt=some (.map kt et)) (htI:(dsts bc).contains tI=false) (hNI:dN≠tI) (hEI:dE≠tI) (hNE:dN≠dE)
  (hcl:∀ (i:Nat) (p:MK × Nat),keys[i]?=some p→p.2<clock) (hnd:(keys.map (·.2)).Nodup) (hfl:∀ (i:Nat) (d:DV),vals[i]?=some d→d.flat=true)
  (hpre:∀ K:St→Prop,(∀ s,(s.ev m=.d (.mp kk keys vals clock)∧∃ a0,Weak (s.put (some tI) .undef) (st.headT L (dN::dE::tI::dsts bc) (ts a0) (ms a0) (tl a0))∧I [] a0)→K s)→runK P ops8 pre st K)
  (hlen:dN<st.t.length∧dE<st.t.length∧tI<st.t.length)
  (hround:∀ seen a i key val,I seen a→keys[i]?=some key→vals[i]?=some val→i ∉ seen→∀ r J2,IterAt P r (keyD key.1) val J2 →
   WalkL P rd n J2 [bc] k ((((st.headT L (dN::dE::tI::dsts bc) (ts a) (ms a) (tl a)).put (some dN) .undef).put (some dE) (.d (.bool true))).put (some tI) (.d (.raw r 0))) (fun e k' s=>e=.normal∧k'=k∧∃ a',Weak (s.put (some tI) .undef) (st.headT L (dN::dE::tI::dsts bc) (ts a') (ms a') (tl a'))∧I (seen++[i]) a'))
  (hdone:∀ seen a,I seen a→(∀ i,i<keys.length→i ∈ seen)→seen.Nodup→WalkL P rd n J cs k (((st.headT L (dN::dE::tI::dsts bc) (ts a) (ms a) (tl a)).put (some dN) .undef).put (some dE) (.d (.bool false))) Q) :
  WalkL P rd n J (.seq (.region id8 ops8 false) (.block b2 (.loop (.seq (.region id9 #[oN,oX] false) (.seq (.cond (.tmp dE) .skip (.exit b2)) bc))))::cs) k st Q:=by
 have hw1:∀ (ds:List Nat) (l:List AV),(wipeT ds l).length=l.length:=fun ds=>by
  induction ds with
  | nil=>intro l;rfl
  | cons d ds ih=>intro l;simp only [wipeT];first | (rw [ih];simp) | simp
 have hs1:∀ (ds:List (Nat × AV)) (l:List AV),(setsT ds l).length=l.length:=fun ds=>by
  induction ds with
  | nil=>intro l;rfl
  | cons d ds ih=>intro l;simp only [setsT];first | (rw [ih];simp) | simp
 exact z362 h8 hoR hgR hdR hoN hgN hdN hoX hgX hdX hmt htI hNI hEI hNE kk keys vals clock hcl hnd hfl _ I hpre (fun seen a _=>by
  simp only [St.headT,hs1,hw1];exact hlen) hround hdone
end Go.Ab
namespace Go.Ab
open Go.RowKit Go.Proofs
set_option maxHeartbeats 16000000
set_option maxRecDepth 20000
attribute [local irreducible] WalkL Walk
def farW:Int:=1099511627776
abbrev Mat:=Nat→Nat→Int
def updM (F:Mat) (a b:Nat) (v:Int):Mat:=fun x y=>if x=a∧y=b then v else F x y
def rowM (m:Nat) (F:Mat) (a:Nat):List Int:=(List.range m).map (F a)
def matM (m:Nat) (F:Mat):List (List Int):=(List.range m).map (rowM m F)
def zeroM:Mat:=fun a b=>if a=b then 0 else farW
def relaxM (p:Party) (F:Mat) (w:Nat × Path):Mat:=updM F w.2.frm.toNat w.2.to.toNat (min (F w.2.frm.toNat w.2.to.toNat) (spanW w.2 p).hi)
def viaM (v:Nat) (F:Mat) (a b:Nat):Mat:=updM F a b (min (F a b) (wr (F a v + F v b)))
def allM (n:Net) (p:Party):Mat :=
 let m:=n.places.toNat
 (List.range m).foldl (fun F v=>(List.range m).foldl (fun F a=>(List.range m).foldl (fun F b=>viaM v F a b) F) F) ((canL n p).foldl (relaxM p) zeroM)
theorem z146 (m:Nat) (F:Mat) (a:Nat):(rowM m F a).length=m:=by simp [rowM]
theorem z63 (m:Nat) (F:Mat):(matM m F).length=m:=by simp [matM]
theorem z106 {m:Nat} {F:Mat} {a:Nat} (h:a<m):(matM m F)[a]?=some (rowM m F a):=by simp [matM,h]
theorem z97 {m:Nat} {F:Mat} {a b:Nat} (h:b<m):(rowM m F a)[b]?=some (F a b):=by simp [rowM,h]
theorem z90 {l:List Int} {i:Nat} {c:Int} (h:l[i]?=some c):(intRows l)[i]?=some [.i c]:=by simp [intRows,h]
theorem z1081 {m:Nat} {F:Mat} {a b:Nat} (v:Int):(rowM m F a).set b v=rowM m (updM F a b v) a:=by
 apply List.ext_getElem?
 intro j
 rw [List.getElem?_set]
 by_cases hj:j<m
 ·rw [z97 hj,z146]
  by_cases hb:b=j
  ·subst hb;simp [hj,z97 hj,updM]
  ·rw [if_neg hb,z97 hj,updM,if_neg (fun h=>hb h.2.symm)]
 ·have h1:∀ G:Mat,(rowM m G a)[j]?=none:=fun G=>List.getElem?_eq_none (by rw [z146];omega)
  rw [h1,h1,z146];split <;> simp;omega
theorem z526 {m:Nat} {F:Mat} {a b:Nat} (v:Int):(matM m F).set a ((rowM m F a).set b v)=matM m (updM F a b v):=by
 rw [z1081]
 apply List.ext_getElem?
 intro j
 rw [List.getElem?_set]
 by_cases hj:j<m
 ·rw [z106 hj,z63]
  by_cases hb:a=j
  ·subst hb;simp [hj,z106 hj]
  ·rw [if_neg hb,z106 hj]
   congr 1
   apply List.map_congr_left
   intro y _
   rw [updM,if_neg (fun h=>hb h.1.symm)]
 ·have h1:∀ G:Mat,(matM m G)[j]?=none:=fun G=>List.getElem?_eq_none (by rw [z63];omega)
  rw [h1,h1,z63];split <;> simp;omega
theorem z1059 (m i:Nat):(List.replicate m farW).set i 0=rowM m zeroM i:=by
 apply List.ext_getElem?
 intro j
 rw [List.getElem?_set]
 by_cases hj:j<m
 ·rw [z97 hj,List.length_replicate,zeroM]
  by_cases hb:i=j
  ·subst hb;simp [hj]
  ·rw [if_neg hb,if_neg hb];simp [hj]
 ·rw [List.getElem?_eq_none (l:=rowM m zeroM i) (by rw [z146];omega),List.length_replicate]
  split <;> simp <;> omega
theorem z980 {F:Mat} {a b c d:Nat} {x y:Int} (h:¬ (a=c∧b=d)):updM (updM F a b x) c d y=updM (updM F c d y) a b x:=by
 funext u v
 simp only [updM]
 split <;> split <;> first | rfl | (exfalso;omega)
theorem z812 (p:Party) (F:Mat) (w z:Nat × Path):relaxM p (relaxM p F w) z=relaxM p (relaxM p F z) w:=by
 by_cases h:w.2.frm.toNat=z.2.frm.toNat∧w.2.to.toNat=z.2.to.toNat
 ·funext u v
  simp only [relaxM,updM,h.1,h.2,and_self,if_true]
  split <;> first | rfl | omega
 ·simp only [relaxM]
  rw [z980 h]
  congr 1
  ·rw [updM,if_neg (fun hc=>h ⟨hc.1.symm,hc.2.symm⟩)]
  ·congr 2
   rw [updM,if_neg (fun hc=>h ⟨hc.1,hc.2⟩)]
theorem z138 (p:Party):∀ (l:List (Nat × Path)) (j i:Nat),(entsC p l j)[i]?=(l[i]?).map fun w=>(MK.i w.1,DV.agg (spanW w.2 p).row,i + j)
 | [],_,i=>by simp [entsC]
 | w::l,j,0=>by simp [entsC]
 | w::l,j,i + 1=>by
  rw [entsC,List.getElem?_cons_succ,z138 p l (j + 1) i,List.getElem?_cons_succ,show i + (j + 1)=i + 1 + j by omega]
theorem z852 {α:Type}:∀ l:List α,(List.range l.length).filterMap (fun i=>l[i]?)=l
 | []=>rfl
 | a::l=>by
  rw [List.length_cons,List.range_succ_eq_map,List.filterMap_cons,List.filterMap_map]
  have h:((fun i=>(a::l)[i]?) ∘ Nat.succ)=fun i=>l[i]?:=by funext i;simp
  rw [h,z852 l]
  rfl
def atsL {α:Type} (l:List α) (is:List Nat):List α:=is.filterMap fun i=>l[i]?
theorem z1126 {α:Type} {l:List α} {is:List Nat} (h1:∀ i,i<l.length→i ∈ is) (h2:is.Nodup):(atsL l is).Perm l:=by
 have hp:(is.filter fun i=>i<l.length).Perm (List.range l.length):=by
  rw [List.perm_ext_iff_of_nodup (h2.filter _) List.nodup_range]
  intro i
  simp only [List.mem_filter,decide_eq_true_eq,List.mem_range]
  exact ⟨fun h=>h.2,fun h=>⟨h1 i h,h⟩⟩
 have e1:atsL l is=atsL l (is.filter fun i=>i<l.length):=by
  rw [atsL,atsL,List.filterMap_filter]
  congr 1
  funext i
  by_cases hi:i<l.length
  ·simp [hi]
  ·simp [hi,List.getElem?_eq_none (Nat.le_of_not_lt hi)]
 rw [e1]
 exact (hp.filterMap _).trans (by rw [z852])
end Go.Ab
namespace Go.Ab
open Go.RowKit Go.Proofs
set_option maxHeartbeats 16000000
set_option maxRecDepth 20000
attribute [local irreducible] WalkL Walk
def zeroT (m k:Nat):List (List Int):=(List.range k).map (rowM m zeroM)
theorem z130 (m k:Nat):(zeroT m k).length=k:=by simp [zeroT]
theorem z876 (m k:Nat):zeroT m (k + 1)=zeroT m k++[rowM m zeroM k]:=by simp [zeroT,List.range_succ]
theorem z973 (m:Nat):zeroT m m=matM m zeroM:=rfl
def stepA (m v:Nat) (F:Mat) (a:Nat):Mat:=(List.range m).foldl (fun F b=>viaM v F a b) F
def stepV (m:Nat) (F:Mat) (v:Nat):Mat:=(List.range m).foldl (stepA m v) F
theorem z1164 (n:Net) (p:Party) {m:Nat} (h:n.places.toNat=m):allM n p=(List.range m).foldl (stepV m) ((canL n p).foldl (relaxM p) zeroM):=by subst h;rfl
theorem z341 {β:Type} (f:β→Nat→β) (b:β) (k:Nat):(List.range (k + 1)).foldl f b=f ((List.range k).foldl f b) k:=by rw [List.range_succ,List.foldl_append];rfl
theorem zf46 (n:Net) (p:Party) (hg:n.Good):FnS Try.prog 46 [.agg (countryC n p)] 32 1 (slRows (matM n.places.toNat (allM n p))):=by
 obtain ⟨m,hm⟩:∃ m:Nat,n.places=m:=⟨n.places.toNat,by have:=hg.places;omega⟩
 have hpl:=hg.places
 have hpt:=hg.paths
 have htn:n.places.toNat=m:=by omega
 have h29:FnS Try.prog 29 [.sl [[.i farW]],.i (m:Int)] 3 1 (intRows (List.replicate m farW)):=z1131 farW m (by omega)
 rw [farW] at h29
 obtain ⟨ent,hent⟩:∃ e,e=entsC p (canL n p) 0:=⟨_,rfl⟩
 have htm:timesD n p=.mp none (ent.map fun e=>(e.1,e.2.2)) (ent.map fun e=>e.2.1) (canL n p).length:=by rw [timesD,mapD,hent]
 obtain ⟨ks,hks⟩:∃ k,k=ent.map fun e=>(e.1,e.2.2):=⟨_,rfl⟩
 obtain ⟨vs,hvs⟩:∃ v,v=ent.map fun e=>e.2.1:=⟨_,rfl⟩
 obtain ⟨cl,hcl⟩:∃ c,c=(canL n p).length:=⟨_,rfl⟩
 rw [← hks,← hvs,← hcl] at htm
 rw [htn,countryC,htm,hm]
 refine z238 114 Try.call46 Try.func46 rfl (by decide) fun J=>?_
 simp only [go_sem,St.start,Try.ntmps46,Try.results46,]
 repeat (first | refine nx ?_ | (refine z3 fun K hK=>?_;simp only [go_sem];apply hK;clear hK K))
 refine z422 [] [(3,.own 24)] [(24,some (.arr 32 1 []))] ?_ ?_
 ·simp only [go_sem]
  refine z32 [24] ?_ ?_ rfl rfl <;> simp [lessT,lessM,lessB,AV.less]
 simp only [go_sem]
 refine z979 24 ?_
 simp only [go_sem,hm]
 refine z118 114 (fun (i:Nat)=>[(14,.d (.i (i:Int))),(3,.own 24)]) (fun i=>[(24,some (.arrA 32 1 (nm 114 i)))]) (fun i=>arrs 3 1 ((zeroT m i).map intRows)) (fun i=>i≤m) (fun i=>m - i) 0 ?_ (Nat.zero_le _) ?_
 ·simp only [go_sem,z1145,zeroT,List.range_zero,List.map_nil,z1127]
  refine weA ?_ ?_ <;> simp
 ·intro i hi
  simp only [go_sem]
  repeat (first | refine nx ?_ | (refine z3 fun K hK=>?_;simp only [go_sem];apply hK;clear hK K))
  refine z4 rfl (fun hb=>?_) (fun hb=>?_)
  ·have hlt:i<m:=by simpa using hb
   have hw:IntKind.i64.wrap ((i:Int) + 1)=((i + 1:Nat):Int):=by rw [z9 (by omega)];simp
   have hni:¬ ((i:Int)<0):=by omega
   have e3:m≤549755813888:=by omega
   have hln:(intRows (List.replicate m (1099511627776:Int))).length=m:=by simp [z16]
   have hh2:headIs 1 (intRows (List.replicate m (1099511627776:Int)))=true:=by cases m <;> rfl
   have hlt2:i + 1≤549755813888:=by omega
   have hs22:=fun f=>z1018 (n:=22) (L:=114) (by decide) i f
   have hs24:=fun f=>z1018 (n:=24) (L:=114) (by decide) i f
   have hk24:=z1106 (n:=24) (L:=114) (by decide) i
   have hmv:(nm 114 i++[[AV.own 22]]).map (fun r=>r.map (AV.mapN (mv 22 (i + 114))))=nm 114 (i + 1):=by
    rw [List.map_append,nm_mv (by decide),← z1146]
    rfl
   repeat (first | refine nx ?_ | (refine z3 fun K hK=>?_;simp only [go_sem];apply hK;clear hK K))
   refine z474 [6,0] fun K hK=>?_
   simp only [go_sem,runX,List.take_succ_cons,List.take_zero,List.drop_succ_cons,List.drop_zero]
   refine ⟨_,.lentS (hdst:=rfl) (hf:=h29) (hd:=rfl) (hr:=by first | exact z44 _ | exact rowsFlat_hour _ | exact rowsFlat_sight _ | exact rowsFlat_sky _ | exact rowsFlat_span _ | exact rowsFlat_bool _) (hfr:=rfl),?_⟩
   simp only [go_sem]
   have hlt3:i≤549755813887:=by omega
   simp only [go_sem,e3,hh2,hlt2,hlt3,true_and,hlt,hs22,hs24,hk24,z201,z316,List.nil_append,List.length_nil,List.length_cons,Nat.zero_add]
   apply hK
   clear hK K
   repeat refine nx ?_
   refine z306 22 (i + 114) ?_ _ rfl ?_
   ·simp only [go_sem,z55,List.length_map,z130]
   simp only [go_sem,hmv,z1056]
   have gm:=z648 (L:=114) (show i<i + 1 by omega)
   have ga:(arrs 3 1 ((zeroT m i).map intRows)++[some (Blk.arr 3 1 (intRows (List.replicate m (1099511627776:Int))))])[i]?=some (some (Blk.arr 3 1 (intRows (List.replicate m (1099511627776:Int))))):=by
    rw [List.getElem?_append_right (by simp [z55,z130])]
    simp [z55,z130]
   have hset:(arrs 3 1 ((zeroT m i).map intRows)++[some (Blk.arr 3 1 (intRows (List.replicate m (1099511627776:Int))))]).set i (some (Blk.arr 3 1 (intRows ((List.replicate m (1099511627776:Int)).set i 0))))=arrs 3 1 ((zeroT m (i + 1)).map intRows):=by
    rw [List.set_append_right _ _ (by simp [z55,z130]),z876,List.map_append,← z1059 m i]
    simp [z55,z130,z1055,farW]
   have hii:i<i + 1:=Nat.lt_succ_self i
   have hgi:(intRows (List.replicate m (1099511627776:Int)))[i]?=some [.i 1099511627776]:=z90 (by simp [hlt])
   repeat (first | refine nx ?_ | (refine z3 fun K hK=>?_;simp only [go_sem,gm,ga,hgi,z201,hlt,hln,z42,hset,hni,hii,hw];apply hK;clear hK K))
   refine ⟨rfl,i + 1,?_,hlt,by omega⟩
   refine z32 [] ?_ ?_ rfl ?_
   ·simp [lessT,AV.less]
   ·simp [lessT,lessM,lessB,AV.less,z64]
   ·simp only [liveM,z47,Bool.and_true]
    exact z151 (by simp [z55,z130]) (z108 3 1 _)
  ·have he:i=m:=by (have:¬ i<m:=by simpa using hb);omega
   subst he
   repeat (first | refine z85 ?_ | refine z59 ?_ | refine z87 ?_ | refine z5 ?_)
   refine z33 ?_
   refine z305 (kt:=3) (et:=26) (L:=114) (fun _=>[(3,.own 24),(6,.undef)]) (fun _=>[(24,some (.arrA 32 1 (nm 114 i)))]) (fun F=>arrs 3 1 ((matM i F).map intRows)) (fun seen F=>F=(atsL (canL n p) seen).foldl (relaxM p) zeroM) none ks vs cl
    (show _=[_,_]++[_] from rfl) rfl rfl rfl rfl rfl rfl rfl rfl rfl (by kernel_rfl) (by kernel_rfl) (by decide) (by decide) (by decide) ?_ ?_ ?_ ?_ ?_ ?_ ?_
   ·intro j q hq
    rw [hks,List.getElem?_map,hent,z138] at hq
    simp only [Option.map_map,Option.map_eq_some_iff] at hq
    obtain ⟨w,hw,rfl⟩:=hq
    rw [hcl]
    have:=(List.getElem?_eq_some_iff.1 hw).1
    simpa using this
   ·rw [hks,List.map_map,hent]
    have:(entsC p (canL n p) 0).map ((fun e:MK × Nat=>e.2) ∘ fun e:MK × DV × Nat=>(e.1,e.2.2))=List.range (canL n p).length:=by
     apply List.ext_getElem?
     intro j
     rw [List.getElem?_map,z138]
     by_cases hj:j<(canL n p).length
     ·simp [hj]
     ·simp [hj]
    rw [this]
    exact List.nodup_range
   ·intro j d hd
    rw [hvs,List.getElem?_map,hent,z138] at hd
    simp only [Option.map_map,Option.map_eq_some_iff] at hd
    obtain ⟨w,hw,rfl⟩:=hd
    rfl
   ·intro K hK
    simp only [go_sem]
    refine hK _ ⟨rfl,zeroM,?_,rfl⟩
    simp only [go_sem]
    refine z32 [] ?_ ?_ rfl ?_
    ·simp [lessT,AV.less]
    ·simp [lessT,lessM,lessB,AV.less,z64,z973]
    ·simp only [liveM,z47,Bool.and_true]
     exact z151 (by simp [z55,z63]) (z108 3 1 _)
   ·simp only [go_sem]
   ·rintro seen F j key val hF hk hv hs r J2 hIt
    obtain ⟨w,hw,rfl,rfl⟩:∃ w,(canL n p)[j]?=some w∧key=(.i w.1,j)∧val=.agg (spanW w.2 p).row:=by
     rw [hks,List.getElem?_map,hent,z138] at hk
     rw [hvs,List.getElem?_map,hent,z138] at hv
     simp only [Option.map_map,Option.map_eq_some_iff] at hk hv
     obtain ⟨w,hw,rfl⟩:=hk
     obtain ⟨w',hw',rfl⟩:=hv
     rw [hw] at hw';cases hw'
     exact ⟨w,hw,rfl,rfl⟩
    obtain ⟨hwl,hwp,hwg⟩:=z197 (List.mem_of_getElem? hw)
    have hym:=List.mem_of_getElem? hwp
    simp only [go_sem]
    refine z49 ?_
    refine z33 ?_
    refine z475 hIt rfl rfl rfl rfl rfl rfl fun K hK=>?_
    simp only [go_sem,keyD,Span.row]
    apply hK
    clear hK K
    have hpg:=hg.path _ hym
    obtain ⟨a,ha⟩:∃ a:Nat,w.2.frm=a:=⟨w.2.frm.toNat,by have:=hpg.frm;omega⟩
    obtain ⟨b,hb⟩:∃ b:Nat,w.2.to=b:=⟨w.2.to.toNat,by have:=hpg.to;omega⟩
    have hal:a<i:=by have:=hpg.frm;omega
    have hbl:b<i:=by have:=hpg.to;omega
    have na:¬ ((a:Int)<0):=by omega
    have nb:¬ ((b:Int)<0):=by omega
    have gm:=z648 (L:=114) hal
    have ga:(arrs 3 1 ((matM i F).map intRows))[a]?=some (some (.arr 3 1 (intRows (rowM i F a)))):=z298 (by simp [z106 hal])
    have gc:=z90 (z97 (F:=F) (a:=a) hbl)
    have hln:(intRows (rowM i F a)).length=i:=by rw [z16,z146]
    have hset:∀ v,(arrs 3 1 ((matM i F).map intRows)).set a (some (.arr 3 1 (intRows ((rowM i F a).set b v))))=arrs 3 1 ((matM i (updM F a b v)).map intRows):=fun v=>by rw [z871,← List.map_set,z526]
    have hwl2:w.1<n.paths.length:=hwl
    have hgp:(n.paths.map Path.row)[w.1]?=some w.2.row:=by rw [List.getElem?_map,hwp];rfl
    rw [Path.row,ha,hb] at hgp
    refine z33 ?_
    refine z6 (by kernel_rfl) (by kernel_rfl) fun K hK=>?_
    simp only [go_sem,z201,hal,hbl,na,nb,gm,ga,hln,hgp,hwl2,List.length_map]
    refine ⟨by kernel_rfl,hK _ ?_⟩
    clear hK K
    refine z6 (by kernel_rfl) (by kernel_rfl) fun K hK=>?_
    simp only [go_sem,z201,hal,hbl,na,nb,gm,ga,gc,hln,z42]
    refine ⟨by kernel_rfl,hK _ ?_⟩
    clear hK K
    simp only [go_sem,hset]
    repeat (first | refine z33 ?_ | refine z52 ?_ | refine z8 ?_ | refine z167 ?_ | refine z85 ?_ | refine z59 ?_ | refine z105 rfl ?_ | refine z95 ?_ | refine z82 ?_ | refine z119 ?_ | refine z87 ?_ | refine z5 ?_)
    refine ⟨rfl,rfl,relaxM p F w,?_,?_⟩
    ·have hr:relaxM p F w=updM F a b (min (F a b) (spanW w.2 p).hi):=by rw [relaxM,ha,hb];rfl
     rw [hr]
     refine z32 [] ?_ ?_ rfl ?_
     ·simp [lessT,AV.less]
     ·simp [lessT,lessM,lessB,AV.less,z64]
     ·simp only [liveM,z47,Bool.and_true]
      exact z151 (by simp [z55,z63]) (z108 3 1 _)
    ·rw [hF];simp [atsL,List.filterMap_append,List.foldl_append,hw]
   ·rintro seen F hF hall hnd
    have hFe:F=(canL n p).foldl (relaxM p) zeroM:=by
     rw [hF]
     refine List.Perm.foldl_eq' (z1126 (fun q hq=>hall q ?_) hnd) (fun x _ y _ z=>z812 p z x y) _
     rw [hks,hent]
     simpa [z685] using hq
    clear hF hall hnd
    simp only [go_sem]
    repeat (first | refine z33 ?_ | refine z52 ?_ | refine z8 ?_ | refine z167 ?_ | refine z85 ?_ | refine z59 ?_ | refine z105 rfl ?_ | refine z95 ?_ | refine z82 ?_ | refine z119 ?_ | refine z87 ?_ | refine z5 ?_)
    repeat (first | refine nx ?_ | (refine z3 fun K hK=>?_;simp only [go_sem,z201];apply hK;clear hK K))
    refine z118 114 (fun (a:Nat × Mat)=>[(68,.d (.i (a.1:Nat))),(3,.own 24)]) (fun _=>[(24,some (.arrA 32 1 (nm 114 i)))]) (fun a=>arrs 3 1 ((matM i a.2).map intRows)) (fun a=>a.1≤i∧a.2=(List.range a.1).foldl (stepV i) F) (fun a=>i - a.1) (0,F) ?_ ⟨Nat.zero_le _,rfl⟩ ?_
    ·simp only [go_sem]
     refine z32 [] ?_ ?_ rfl ?_
     ·simp [lessT,AV.less]
     ·simp [lessT,lessM,lessB,AV.less,z64]
     ·simp only [liveM,z47,Bool.and_true]
      exact z151 (by simp [z55,z63]) (z108 3 1 _)
    ·rintro ⟨v,G⟩ ⟨hvi,hG⟩
     dsimp only at hvi hG
     simp only [go_sem]
     repeat (first | refine nx ?_ | (refine z3 fun K hK=>?_;simp only [go_sem];apply hK;clear hK K))
     refine z4 rfl (fun hb=>?_) (fun hb=>?_)
     ·have hvl:v<i:=by simpa using hb
      have hwv:IntKind.i64.wrap ((v:Int) + 1)=((v + 1:Nat):Int):=by rw [z9 (by omega)];simp
      repeat (first | refine nx ?_ | (refine z3 fun K hK=>?_;simp only [go_sem,z201];apply hK;clear hK K))
      refine z118 114 (fun (a:Nat × Mat)=>[(73,.d (.i (a.1:Nat)))]) (fun _=>[]) (fun a=>arrs 3 1 ((matM i a.2).map intRows)) (fun a=>a.1≤i∧a.2=(List.range a.1).foldl (stepA i v) G) (fun a=>i - a.1) (0,G) ?_ ⟨Nat.zero_le _,rfl⟩ ?_
      ·simp only [go_sem]
       refine z32 [] ?_ ?_ rfl ?_
       ·simp [lessT,AV.less]
       ·simp [lessT,lessM,lessB,AV.less,z64]
       ·simp only [liveM,z47,Bool.and_true]
        exact z151 (by simp [z55,z63]) (z108 3 1 _)
      ·rintro ⟨a,H⟩ ⟨hai,hH⟩
       dsimp only at hai hH
       simp only [go_sem]
       repeat (first | refine nx ?_ | (refine z3 fun K hK=>?_;simp only [go_sem];apply hK;clear hK K))
       refine z4 rfl (fun hb=>?_) (fun hb=>?_)
       ·have hal:a<i:=by simpa using hb
        have hwa:IntKind.i64.wrap ((a:Int) + 1)=((a + 1:Nat):Int):=by rw [z9 (by omega)];simp
        repeat (first | refine nx ?_ | (refine z3 fun K hK=>?_;simp only [go_sem,z201];apply hK;clear hK K))
        refine z118 114 (fun (b:Nat × Mat)=>[(78,.d (.i (b.1:Nat)))]) (fun _=>[]) (fun b=>arrs 3 1 ((matM i b.2).map intRows)) (fun b=>b.1≤i∧b.2=(List.range b.1).foldl (fun F b=>viaM v F a b) H) (fun b=>i - b.1) (0,H) ?_ ⟨Nat.zero_le _,rfl⟩ ?_
        ·simp only [go_sem]
         refine z32 [] ?_ ?_ rfl ?_
         ·simp [lessT,AV.less]
         ·simp [lessT,lessM,lessB,AV.less,z64]
         ·simp only [liveM,z47,Bool.and_true]
          exact z151 (by simp [z55,z63]) (z108 3 1 _)
        ·rintro ⟨b,M⟩ ⟨hbi,hM⟩
         dsimp only at hbi hM
         simp only [go_sem]
         repeat (first | refine nx ?_ | (refine z3 fun K hK=>?_;simp only [go_sem];apply hK;clear hK K))
         refine z4 rfl (fun hb=>?_) (fun hb=>?_)
         ·have hbl:b<i:=by simpa using hb
          have hwb:IntKind.i64.wrap ((b:Int) + 1)=((b + 1:Nat):Int):=by rw [z9 (by omega)];simp
          have na:¬ ((a:Int)<0):=by omega
          have nb:¬ ((b:Int)<0):=by omega
          have nv:¬ ((v:Int)<0):=by omega
          have gma:=z648 (L:=114) hal
          have gmv:=z648 (L:=114) hvl
          have ga:(arrs 3 1 ((matM i M).map intRows))[a]?=some (some (.arr 3 1 (intRows (rowM i M a)))):=z298 (by simp [z106 hal])
          have gv:(arrs 3 1 ((matM i M).map intRows))[v]?=some (some (.arr 3 1 (intRows (rowM i M v)))):=z298 (by simp [z106 hvl])
          have gab:=z90 (z97 (F:=M) (a:=a) hbl)
          have gav:=z90 (z97 (F:=M) (a:=a) hvl)
          have gvb:=z90 (z97 (F:=M) (a:=v) hbl)
          have hln:∀ q,(intRows (rowM i M q)).length=i:=fun q=>by rw [z16,z146]
          have hset:∀ u,(arrs 3 1 ((matM i M).map intRows)).set a (some (.arr 3 1 (intRows ((rowM i M a).set b u))))=arrs 3 1 ((matM i (updM M a b u)).map intRows):=fun u=>by rw [z871,← List.map_set,z526]
          repeat (first | refine nx ?_ | (refine z3 fun K hK=>?_;simp only [go_sem];apply hK;clear hK K))
          refine z6 (by kernel_rfl) (by kernel_rfl) fun K hK=>?_
          simp only [go_sem,z201,hal,hbl,hvl,na,nb,nv,gma,gmv,ga,gv,gab,gav,gvb,hln,z42]
          refine ⟨by kernel_rfl,hK _ ?_⟩
          clear hK K
          simp only [go_sem,hset]
          repeat (first | refine nx ?_ | (refine z3 fun K hK=>?_;simp only [go_sem,hwb];apply hK;clear hK K))
          refine ⟨rfl,(b + 1,viaM v M a b),?_,⟨hbl,by rw [z341,← hM]⟩,by dsimp only;omega⟩
          rw [viaM]
          refine z32 [] ?_ ?_ rfl ?_
          ·simp [lessT,AV.less]
          ·simp [lessT,lessM,lessB,AV.less,z64]
          ·simp only [liveM,z47,Bool.and_true]
           exact z151 (by simp [z55,z63]) (z108 3 1 _)
         ·have he:b=i:=by (have:¬ b<i:=by simpa using hb);omega
          subst he
          repeat (first | refine nx ?_ | (refine z3 fun K hK=>?_;simp only [go_sem,hwa];apply hK;clear hK K))
          refine ⟨rfl,(a + 1,M),?_,⟨hal,by rw [z341,← hH,hM];rfl⟩,by dsimp only;omega⟩
          refine z32 [] ?_ ?_ rfl ?_
          ·simp [lessT,AV.less]
          ·simp [lessT,lessM,lessB,AV.less,z64]
          ·simp only [liveM,z47,Bool.and_true]
           exact z151 (by simp [z55,z63]) (z108 3 1 _)
       ·have he:a=i:=by (have:¬ a<i:=by simpa using hb);omega
        subst he
        repeat (first | refine nx ?_ | (refine z3 fun K hK=>?_;simp only [go_sem,hwv];apply hK;clear hK K))
        refine ⟨rfl,(v + 1,H),?_,⟨hvl,by rw [z341,← hG,hH];rfl⟩,by dsimp only;omega⟩
        refine z32 [] ?_ ?_ rfl ?_
        ·simp [lessT,AV.less]
        ·simp [lessT,lessM,lessB,AV.less,z64]
        ·simp only [liveM,z47,Bool.and_true]
         exact z151 (by simp [z55,z63]) (z108 3 1 _)
     ·have he:v=i:=by (have:¬ v<i:=by simpa using hb);omega
      subst he
      have hGe:allM n p=G:=by rw [z1164 n p htn,← hFe,hG]
      rw [hGe]
      repeat (first | refine z85 ?_ | refine z59 ?_ | refine z87 ?_ | refine z5 ?_)
      refine z883 (L:=114) (d:=24) (e:=32) (e1:=3) (z1:=1) ((matM v G).map intRows) (by decide) (by simp) (by rw [List.length_map,z63];rfl) (fun j r hj=>by
       simp only [List.getElem?_cons_succ]
       exact z298 hj) ?_
      have hfr:flatRows ((matM v G).map intRows)=slRows (matM v G):=by simp [flatRows,slRows]
      simp only [go_sem,hfr,List.take_succ_cons,List.take_zero,List.map_cons,List.map_nil]
      repeat (first | refine nx ?_ | (refine z3 fun K hK=>?_;simp only [go_sem];apply hK;clear hK K))
      simp only [go_sem]
end Go.Ab
namespace Go.Ab
open Go.RowKit Go.Proofs
set_option maxHeartbeats 16000000
set_option maxRecDepth 20000
attribute [local irreducible] WalkL Walk
def badWay (n:Net) (a b:Int):Bool:=!withinB a 0 (n.places - 1) || !withinB b 0 (n.places - 1)
def wayF (n:Net) (p:Party) (a b:Int):Int × Int :=
 if checkPartyF n p≠0 then (0,checkPartyF n p) else if badWay n a b then (0,1)
 else if allM n p a.toNat b.toNat<farW then (allM n p a.toNat b.toNat,0) else (0,3)
theorem z804 {M:List (List Int)} {i:Nat} {r:List Int} (h:M[i]?=some r):(slRows M)[i]?=some [.sl (intRows r)]:=by simp [slRows,h]
theorem zf17 (n:Net) (p:Party) (a b:Int) (hs:n.Small):Fn Try.prog 17 [.agg n.cells,.agg p.cells,.i a,.i b] (.tup [.i (wayF n p a b).1,.i (wayF n p a b).2]):=by
 have h44:=zf44 n p hs
 rw [Party.cells] at h44
 refine z12 47 Try.call17 Try.func17 rfl (by decide) fun J=>?_
 simp only [go_sem,St.start,Try.ntmps17,Try.results17,Net.cells,Party.cells]
 by_cases hok:checkPartyF n p=0
 ·have hnb:¬ badNet n=true:=by
   intro hb
   rw [checkPartyF,if_pos hb] at hok
   simp at hok
  have hg:=z155.1 hnb
  have hpl:=hg.places
  have h45:=fun y=>zf45 n p y (by omega)
  have h46:=(zf46 n p hg).deep
  rw [travC,if_pos hok,countryC,timesD,mapD,hok] at h44
  rw [countryC,timesD,mapD] at h45 h46
  repeat (first | refine nx ?_ | (refine z3 fun K hK=>?_;simp only [go_sem];(repeat (first | (refine ⟨_,.lent (hf:=h44) (hd:=rfl) (hr:=rfl),?_⟩;simp only [go_sem]) | (refine ⟨_,.given (hf:=h44) (hd:=rfl) (ha:=rfl),?_⟩;simp only [go_sem])));apply hK;clear hK K))
  refine z26 [(32,.d (.bool (badWay n a b)))] [] ?_ ?_
  ·refine z3 fun K hK=>?_
   simp only [go_sem]
   refine ⟨_,.lent (hf:=h45 a) (hd:=rfl) (hr:=rfl),?_⟩
   simp only [go_sem]
   by_cases ho0:(!withinB a 0 (n.places - 1))=true
   ·simp only [go_sem,ho0]
    apply hK
    clear hK K
    refine z8 ?_
    refine z5 ?_
    refine ⟨rfl,?_⟩
    rw [show (badWay n a b)=(true) from by simp [badWay,ho0]]
    simp only [go_sem]
    refine weA ?_ ?_ <;> simp
   ·simp only [go_sem,ho0]
    refine ⟨_,.lent (hf:=h45 b) (hd:=rfl) (hr:=rfl),?_⟩
    simp only [go_sem,ho0]
    apply hK
    clear hK K
    refine z8 ?_
    refine z5 ?_
    refine ⟨rfl,?_⟩
    rw [show (badWay n a b)=(!withinB b 0 (n.places - 1)) from by simp [badWay,ho0]]
    simp only [go_sem]
    refine weA ?_ ?_ <;> simp
  simp only [go_sem]
  by_cases hb:badWay n a b=true
  ·have e:wayF n p a b=(0,1):=by simp [wayF,hok,hb]
   rw [e]
   refine z4 (b:=true) (by rw [← hb];rfl) (fun _=>?_) (fun hc=>by cases hc)
   repeat (first | refine nx ?_ | (refine z3 fun K hK=>?_;simp only [go_sem];apply hK;clear hK K))
   refine z10 rfl ?_
   repeat (first | refine nx ?_ | (refine z3 fun K hK=>?_;simp only [go_sem];apply hK;clear hK K))
   simp only [go_sem]
  ·have hb:badWay n a b=false:=by simpa using hb
   have hb2:=hb
   simp only [badWay,Bool.or_eq_false_iff,Bool.not_eq_false',z27] at hb2
   refine z4 (b:=false) (by rw [← hb];rfl) (fun hc=>by cases hc) (fun _=>?_)
   obtain ⟨i,rfl⟩:∃ i:Nat,a=i:=⟨a.toNat,by omega⟩
   obtain ⟨j,rfl⟩:∃ i:Nat,b=i:=⟨b.toNat,by omega⟩
   have hi:i<n.places.toNat:=by omega
   have hj:j<n.places.toNat:=by omega
   have g1:=z804 (z106 (F:=allM n p) hi)
   have g2:=z90 (z97 (F:=allM n p) (a:=i) hj)
   have l1:i<(slRows (matM n.places.toNat (allM n p))).length:=by simp [slRows,z63];omega
   have l2:j<(intRows (rowM n.places.toNat (allM n p) i)).length:=by rw [z16,z146];exact hj
   have n1:¬ ((i:Int)<0):=by omega
   have n2:¬ ((j:Int)<0):=by omega
   repeat (first | refine nx ?_ | (refine z3 fun K hK=>?_;simp only [go_sem];apply hK;clear hK K))
   refine z7 rfl ?_
   repeat (first | refine nx ?_ | (refine z3 fun K hK=>?_;simp only [go_sem,g1,g2,l1,l2,n1,n2];(repeat (first | (refine ⟨_,.lent (hf:=h46) (hd:=rfl) (hr:=rfl),?_⟩;simp only [go_sem,g1,g2,l1,l2,n1,n2]) | (refine ⟨_,.given (hf:=h46) (hd:=rfl) (ha:=rfl),?_⟩;simp only [go_sem,g1,g2,l1,l2,n1,n2])));apply hK;clear hK K))
   refine z4 rfl (fun hc=>?_) (fun hc=>?_)
   ·have hc:allM n p i j<farW:=by simpa [farW] using hc
    have e:wayF n p i j=(allM n p i j,0):=by simp [wayF,hok,hb,hc]
    rw [e]
    repeat (first | refine nx ?_ | (refine z3 fun K hK=>?_;simp only [go_sem];apply hK;clear hK K))
    simp only [go_sem]
   ·have hc:¬ allM n p i j<farW:=by simpa [farW] using hc
    have e:wayF n p i j=(0,3):=by simp [wayF,hok,hb,hc]
    rw [e]
    repeat (first | refine nx ?_ | (refine z3 fun K hK=>?_;simp only [go_sem];apply hK;clear hK K))
    simp only [go_sem]
 ·have hne:(checkPartyF n p == 0)=false:=by simpa using hok
  have hne2:(checkPartyF n p != 0)=true:=by simpa using hok
  have hw:wayF n p a b=(0,checkPartyF n p):=by rw [wayF,if_pos hok]
  rw [travC,if_neg hok] at h44
  rw [hw]
  repeat (first | refine nx ?_ | (refine z3 fun K hK=>?_;simp only [go_sem,hne];(repeat (first | (refine ⟨_,.lent (hf:=h44) (hd:=rfl) (hr:=rfl),?_⟩;simp only [go_sem,hne]) | (refine ⟨_,.given (hf:=h44) (hd:=rfl) (ha:=rfl),?_⟩;simp only [go_sem,hne])));apply hK;clear hK K))
  refine z7 rfl ?_
  repeat (first | refine nx ?_ | (refine z3 fun K hK=>?_;simp only [go_sem,hne2];apply hK;clear hK K))
  refine z10 rfl ?_
  repeat (first | refine nx ?_ | (refine z3 fun K hK=>?_;simp only [go_sem];apply hK;clear hK K))
  simp only [go_sem]
end Go.Ab
namespace Go.Ab
open Go.RowKit Go.Proofs
set_option maxRecDepth 100000
def getL (W:List (List Int)) (a b:Nat):Int:=(W.getD a []).getD b 0
def setLL (W:List (List Int)) (a b:Nat) (v:Int):List (List Int):=W.set a ((W.getD a []).set b v)
def relaxLL (p:Party) (W:List (List Int)) (w:Nat × Path):List (List Int):=setLL W w.2.frm.toNat w.2.to.toNat (min (getL W w.2.frm.toNat w.2.to.toNat) (spanW w.2 p).hi)
def viaLL (v:Nat) (W:List (List Int)) (a b:Nat):List (List Int):=setLL W a b (min (getL W a b) (wr (getL W a v + getL W v b)))
def allLL (n:Net) (p:Party):List (List Int) :=
 let m:=n.places.toNat
 (List.range m).foldl (fun F v=>(List.range m).foldl (fun F a=>(List.range m).foldl (fun F b=>viaLL v F a b) F) F) ((canL n p).foldl (relaxLL p) (matM m zeroM))
theorem z236 {m:Nat} {F:Mat} {a b:Nat} (ha:a<m) (hb:b<m):getL (matM m F) a b=F a b:=by
 simp only [getL,List.getD_eq_getElem?_getD,z106 ha,Option.getD_some,z97 hb]
theorem z628 {m:Nat} {F:Mat} {a b:Nat} (ha:a<m) (v:Int):setLL (matM m F) a b v=matM m (updM F a b v):=by
 simp only [setLL,List.getD_eq_getElem?_getD,z106 ha,Option.getD_some,z526]
theorem z1005 {m:Nat} {p:Party} {F:Mat} {w:Nat × Path} (ha:w.2.frm.toNat<m) (hb:w.2.to.toNat<m):relaxLL p (matM m F) w=matM m (relaxM p F w):=by
 rw [relaxLL,z236 ha hb,z628 ha,relaxM]
theorem z1135 {m v a b:Nat} {F:Mat} (hv:v<m) (ha:a<m) (hb:b<m):viaLL v (matM m F) a b=matM m (viaM v F a b):=by
 rw [viaLL,z236 ha hb,z236 ha hv,z236 hv hb,z628 ha,viaM]
theorem z237 {α:Type} {m:Nat} (f:List (List Int)→α→List (List Int)) (g:Mat→α→Mat):∀ (l:List α) (F:Mat),(∀ F,∀ x ∈ l,f (matM m F) x=matM m (g F x))→l.foldl f (matM m F)=matM m (l.foldl g F)
 | [],F,_=>rfl
 | x::l,F,h=>by
  rw [List.foldl_cons,h F x (by simp),List.foldl_cons]
  exact z237 f g l _ fun F y hy=>h F y (by simp [hy])
theorem z1162 {n:Net} (p:Party) (hg:n.Good):allLL n p=matM n.places.toNat (allM n p):=by
 rw [allLL,allM]
 rw [z237 (relaxLL p) (relaxM p) _ _ (fun F w hw=>by
  obtain ⟨_,h2,_⟩:=z197 hw
  have:=hg.path w.2 (List.mem_of_getElem? h2)
  exact z1005 (by have:=this.frm;omega) (by have:=this.to;omega))]
 refine z237 _ _ _ _ fun F v hv=>?_
 refine z237 _ _ _ _ fun F a ha=>?_
 refine z237 _ _ _ _ fun F b hb=>?_
 exact z1135 (List.mem_range.1 hv) (List.mem_range.1 ha) (List.mem_range.1 hb)
theorem z1163 {n:Net} (p:Party) (hg:n.Good) {a b:Nat} (ha:a<n.places.toNat) (hb:b<n.places.toNat):allM n p a b=getL (allLL n p) a b:=by
 rw [z1162 p hg,z236 ha hb]
def exM:Missed:=⟨exP,0,300,600,30,[⟨420,2,true⟩,⟨500,4,false⟩,⟨560,9,true⟩]⟩
theorem z1169:wayF exN exP 0 3=(315,0):=by
 have hok:checkPartyF exN exP=0:=by decide +kernel
 have hg:exN.Good:=z155.1 fun hb=>by rw [checkPartyF,if_pos hb] at hok;simp at hok
 have hb:badWay exN 0 3=false:=by decide +kernel
 have h:allM exN exP (Int.toNat 0) (Int.toNat 3)=315:=by
  rw [z1163 exP hg (by decide) (by decide)]
  decide +kernel
 rw [wayF,if_neg (by rw [hok];simp),hb,if_neg (by simp),h,if_pos (by decide)]
end Go.Ab
namespace Go.Ab
open Go.RowKit Go.Proofs
set_option maxHeartbeats 8000000
set_option maxRecDepth 20000
attribute [local irreducible] WalkL Walk
def exSpots:List (List DV):=[[.i 3,.i 50,.i 60],[.i 1,.i 30,.i 20],[.i 2,.i 20,.i 40]]
theorem zf22:Fn Try.prog 22 [] (.tup [.agg exN.cells,.agg exM.row,.sl exSpots]):=by
 have h49:=zf49
 refine z12 20 Try.call22 Try.func22 rfl (by decide) fun J=>?_
 simp only [go_sem,St.start,Try.ntmps22,Try.results22,]
 repeat (first | refine nx ?_ | (refine z3 fun K hK=>?_;simp only [go_sem,exN,exP,Net.cells,Party.cells,Path.row,Span.row];(repeat (first | (refine ⟨_,.lent (hf:=h49) (hd:=rfl) (hr:=rfl),?_⟩;simp only [go_sem,exN,exP,Net.cells,Party.cells,Path.row,Span.row]) | (refine ⟨_,.given (hf:=h49) (hd:=rfl) (ha:=rfl),?_⟩;simp only [go_sem,exN,exP,Net.cells,Party.cells,Path.row,Span.row])));apply hK;clear hK K))
 refine z6 (by kernel_rfl) (by kernel_rfl) fun K hK=>?_
 simp only [go_sem,exN,exP,Net.cells,Party.cells,Path.row,Span.row]
 refine ⟨by kernel_rfl,hK _ ?_⟩
 clear hK K
 repeat (first | refine nx ?_ | (refine z3 fun K hK=>?_;simp only [go_sem];apply hK;clear hK K))
 simp only [go_sem]
 rfl
end Go.Ab
namespace Go.Ab
open Go.RowKit Go.Proofs
set_option maxRecDepth 100000
deriving instance DecidableEq for Arv
deriving instance DecidableEq for Cnt
def goF (n:Net) (x:Missed):Nat→Nat→List Arv × List Cnt→List Arv × List Cnt
 | 0,_,a=>a
 | k + 1,i,a=>match a.1[i]? with
  | some s=>goF n x k (i + 1) (spotA n x s a)
  | none=>a
theorem z290 {n:Net} {x:Missed} {i:Nat} {a:List Arv × List Cnt} (h:a.1[i]?=none):∀ f,followF n x f i a=a
 | 0=>rfl
 | f + 1=>by rw [followF,h]
theorem z41 {n:Net} {x:Missed}:∀ (k i f:Nat) (a:List Arv × List Cnt),followF n x (f + k) i a=followF n x f (i + k) (goF n x k i a)
 | 0,i,f,a=>rfl
 | k + 1,i,f,a=>by
  rw [show f + (k + 1)=(f + k) + 1 by omega,followF,goF]
  cases h:a.1[i]? with
  | some s=>dsimp only;rw [z41 k (i + 1) f,show i + 1 + k=i + (k + 1) by omega]
  | none=>dsimp only;rw [z290 (List.getElem?_eq_none (by have:=List.getElem?_eq_none_iff.1 h;omega))]
def ex0:List Arv × List Cnt:=([⟨0,300,0,0,-1,0⟩],[])
def ex8:List Arv × List Cnt:=([⟨0,300,0,0,-1,0⟩,⟨1,400,0,300,0,300⟩,⟨1,401,0,300,0,300⟩,⟨1,402,0,300,0,300⟩,⟨1,403,0,300,0,300⟩,⟨1,404,0,300,0,300⟩,⟨1,405,0,300,0,300⟩,⟨1,406,0,300,0,300⟩,⟨1,407,0,300,0,300⟩,⟨1,408,0,300,0,300⟩,⟨1,409,0,300,0,300⟩,⟨1,410,0,300,0,300⟩,⟨1,411,0,300,0,300⟩,⟨1,412,0,300,0,300⟩,⟨1,413,0,300,0,300⟩,⟨1,414,0,300,0,300⟩,⟨1,415,0,300,0,300⟩,⟨1,416,0,300,0,300⟩,⟨1,417,0,300,0,300⟩,⟨1,418,0,300,0,300⟩,⟨1,419,0,300,0,300⟩,⟨1,420,0,300,0,300⟩,⟨2,492,1,400,1,420⟩,⟨2,493,1,400,1,420⟩,⟨2,494,1,400,1,420⟩,⟨2,495,1,400,1,420⟩,⟨2,496,1,400,1,420⟩,⟨2,497,1,400,1,420⟩,⟨2,498,1,400,1,420⟩,⟨2,499,1,400,1,420⟩,⟨2,501,1,400,1,420⟩,⟨2,502,1,400,1,420⟩,⟨2,503,1,400,1,420⟩,⟨2,504,1,400,1,420⟩,⟨2,505,1,400,1,420⟩,⟨2,506,1,400,1,420⟩,⟨2,507,1,400,1,420⟩,⟨2,508,1,400,1,420⟩,⟨2,509,1,400,1,420⟩,⟨2,510,1,400,1,420⟩,⟨2,511,1,400,1,420⟩,⟨2,512,1,400,1,420⟩,⟨2,513,1,400,1,420⟩,⟨2,514,1,400,1,420⟩,⟨2,515,1,400,1,420⟩,⟨2,516,1,400,1,420⟩,⟨2,517,1,400,1,420⟩,⟨2,518,1,400,1,420⟩,⟨2,519,1,400,1,420⟩,⟨2,520,1,400,1,420⟩,⟨2,521,1,400,1,420⟩,⟨2,522,1,400,1,420⟩,⟨2,523,1,400,1,420⟩,⟨2,524,1,400,1,420⟩,⟨2,525,1,400,1,420⟩,⟨2,526,1,400,1,420⟩,⟨2,527,1,400,1,420⟩,⟨2,528,1,400,1,420⟩,⟨2,529,1,400,1,420⟩,⟨2,530,1,400,1,420⟩,⟨2,531,1,400,1,420⟩,⟨2,532,1,400,1,420⟩,⟨2,533,1,400,1,420⟩,⟨2,534,1,400,1,420⟩,⟨2,535,1,400,1,420⟩,⟨2,536,1,400,1,420⟩,⟨2,537,1,400,1,420⟩,⟨2,538,1,400,1,420⟩,⟨2,539,1,400,1,420⟩,⟨2,540,1,400,1,420⟩,⟨2,541,1,400,1,420⟩,⟨2,542,1,400,1,420⟩,⟨2,543,1,400,1,420⟩,⟨2,544,1,400,1,420⟩,⟨2,545,1,400,1,420⟩,⟨2,546,1,400,1,420⟩,⟨2,547,1,400,1,420⟩,⟨2,548,1,400,1,420⟩,⟨2,549,1,400,1,420⟩,⟨2,550,1,400,1,420⟩,⟨2,551,1,400,1,420⟩,⟨2,552,1,400,1,420⟩,⟨2,553,1,400,1,420⟩,⟨2,554,1,400,1,420⟩,⟨2,555,1,400,1,420⟩,⟨2,556,1,400,1,421⟩,⟨2,557,1,400,1,422⟩,⟨2,558,1,400,1,423⟩,⟨2,559,1,400,1,424⟩],[⟨0,300,1⟩,⟨0,301,1⟩,⟨0,302,1⟩,⟨0,303,1⟩,⟨0,304,1⟩,⟨0,305,1⟩,⟨0,306,1⟩,⟨0,307,1⟩,⟨0,308,1⟩,⟨0,309,1⟩,⟨0,310,1⟩,⟨0,311,1⟩,⟨0,312,1⟩,⟨0,313,1⟩,⟨0,314,1⟩,⟨0,315,1⟩,⟨0,316,1⟩,⟨0,317,1⟩,⟨0,318,1⟩,⟨0,319,1⟩,⟨0,320,1⟩,⟨0,321,1⟩,⟨0,322,1⟩,⟨0,323,1⟩,⟨0,324,1⟩,⟨0,325,1⟩,⟨0,326,1⟩,⟨0,327,1⟩,⟨0,328,1⟩,⟨0,329,1⟩,⟨0,330,1⟩,⟨1,400,1⟩,⟨1,401,2⟩,⟨1,402,3⟩,⟨1,403,4⟩,⟨1,404,5⟩,⟨1,405,6⟩,⟨1,406,7⟩,⟨1,407,7⟩,⟨1,408,7⟩,⟨1,409,7⟩,⟨1,410,7⟩,⟨1,411,7⟩,⟨1,412,7⟩,⟨1,413,7⟩,⟨1,414,7⟩,⟨1,415,7⟩,⟨1,416,7⟩,⟨1,417,7⟩,⟨1,418,7⟩,⟨1,419,7⟩,⟨1,420,7⟩,⟨1,421,7⟩,⟨1,422,7⟩,⟨1,423,7⟩,⟨1,424,7⟩,⟨1,425,7⟩,⟨1,426,7⟩,⟨1,427,7⟩,⟨1,428,7⟩,⟨1,429,7⟩,⟨1,430,7⟩,⟨1,431,6⟩,⟨1,432,5⟩,⟨1,433,4⟩,⟨1,434,3⟩,⟨1,435,2⟩,⟨1,436,1⟩])
def ex16:List Arv × List Cnt:=([⟨0,300,0,0,-1,0⟩,⟨1,400,0,300,0,300⟩,⟨1,401,0,300,0,300⟩,⟨1,402,0,300,0,300⟩,⟨1,403,0,300,0,300⟩,⟨1,404,0,300,0,300⟩,⟨1,405,0,300,0,300⟩,⟨1,406,0,300,0,300⟩,⟨1,407,0,300,0,300⟩,⟨1,408,0,300,0,300⟩,⟨1,409,0,300,0,300⟩,⟨1,410,0,300,0,300⟩,⟨1,411,0,300,0,300⟩,⟨1,412,0,300,0,300⟩,⟨1,413,0,300,0,300⟩,⟨1,414,0,300,0,300⟩,⟨1,415,0,300,0,300⟩,⟨1,416,0,300,0,300⟩,⟨1,417,0,300,0,300⟩,⟨1,418,0,300,0,300⟩,⟨1,419,0,300,0,300⟩,⟨1,420,0,300,0,300⟩,⟨2,492,1,400,1,420⟩,⟨2,493,1,400,1,420⟩,⟨2,494,1,400,1,420⟩,⟨2,495,1,400,1,420⟩,⟨2,496,1,400,1,420⟩,⟨2,497,1,400,1,420⟩,⟨2,498,1,400,1,420⟩,⟨2,499,1,400,1,420⟩,⟨2,501,1,400,1,420⟩,⟨2,502,1,400,1,420⟩,⟨2,503,1,400,1,420⟩,⟨2,504,1,400,1,420⟩,⟨2,505,1,400,1,420⟩,⟨2,506,1,400,1,420⟩,⟨2,507,1,400,1,420⟩,⟨2,508,1,400,1,420⟩,⟨2,509,1,400,1,420⟩,⟨2,510,1,400,1,420⟩,⟨2,511,1,400,1,420⟩,⟨2,512,1,400,1,420⟩,⟨2,513,1,400,1,420⟩,⟨2,514,1,400,1,420⟩,⟨2,515,1,400,1,420⟩,⟨2,516,1,400,1,420⟩,⟨2,517,1,400,1,420⟩,⟨2,518,1,400,1,420⟩,⟨2,519,1,400,1,420⟩,⟨2,520,1,400,1,420⟩,⟨2,521,1,400,1,420⟩,⟨2,522,1,400,1,420⟩,⟨2,523,1,400,1,420⟩,⟨2,524,1,400,1,420⟩,⟨2,525,1,400,1,420⟩,⟨2,526,1,400,1,420⟩,⟨2,527,1,400,1,420⟩,⟨2,528,1,400,1,420⟩,⟨2,529,1,400,1,420⟩,⟨2,530,1,400,1,420⟩,⟨2,531,1,400,1,420⟩,⟨2,532,1,400,1,420⟩,⟨2,533,1,400,1,420⟩,⟨2,534,1,400,1,420⟩,⟨2,535,1,400,1,420⟩,⟨2,536,1,400,1,420⟩,⟨2,537,1,400,1,420⟩,⟨2,538,1,400,1,420⟩,⟨2,539,1,400,1,420⟩,⟨2,540,1,400,1,420⟩,⟨2,541,1,400,1,420⟩,⟨2,542,1,400,1,420⟩,⟨2,543,1,400,1,420⟩,⟨2,544,1,400,1,420⟩,⟨2,545,1,400,1,420⟩,⟨2,546,1,400,1,420⟩,⟨2,547,1,400,1,420⟩,⟨2,548,1,400,1,420⟩,⟨2,549,1,400,1,420⟩,⟨2,550,1,400,1,420⟩,⟨2,551,1,400,1,420⟩,⟨2,552,1,400,1,420⟩,⟨2,553,1,400,1,420⟩,⟨2,554,1,400,1,420⟩,⟨2,555,1,400,1,420⟩,⟨2,556,1,400,1,421⟩,⟨2,557,1,400,1,422⟩,⟨2,558,1,400,1,423⟩,⟨2,559,1,400,1,424⟩],[⟨0,300,1⟩,⟨0,301,1⟩,⟨0,302,1⟩,⟨0,303,1⟩,⟨0,304,1⟩,⟨0,305,1⟩,⟨0,306,1⟩,⟨0,307,1⟩,⟨0,308,1⟩,⟨0,309,1⟩,⟨0,310,1⟩,⟨0,311,1⟩,⟨0,312,1⟩,⟨0,313,1⟩,⟨0,314,1⟩,⟨0,315,1⟩,⟨0,316,1⟩,⟨0,317,1⟩,⟨0,318,1⟩,⟨0,319,1⟩,⟨0,320,1⟩,⟨0,321,1⟩,⟨0,322,1⟩,⟨0,323,1⟩,⟨0,324,1⟩,⟨0,325,1⟩,⟨0,326,1⟩,⟨0,327,1⟩,⟨0,328,1⟩,⟨0,329,1⟩,⟨0,330,1⟩,⟨1,400,1⟩,⟨1,401,2⟩,⟨1,402,3⟩,⟨1,403,4⟩,⟨1,404,5⟩,⟨1,405,6⟩,⟨1,406,7⟩,⟨1,407,8⟩,⟨1,408,9⟩,⟨1,409,10⟩,⟨1,410,11⟩,⟨1,411,12⟩,⟨1,412,13⟩,⟨1,413,14⟩,⟨1,414,15⟩,⟨1,415,15⟩,⟨1,416,15⟩,⟨1,417,15⟩,⟨1,418,15⟩,⟨1,419,15⟩,⟨1,420,15⟩,⟨1,421,15⟩,⟨1,422,15⟩,⟨1,423,15⟩,⟨1,424,15⟩,⟨1,425,15⟩,⟨1,426,15⟩,⟨1,427,15⟩,⟨1,428,15⟩,⟨1,429,15⟩,⟨1,430,15⟩,⟨1,431,14⟩,⟨1,432,13⟩,⟨1,433,12⟩,⟨1,434,11⟩,⟨1,435,10⟩,⟨1,436,9⟩,⟨1,437,8⟩,⟨1,438,7⟩,⟨1,439,6⟩,⟨1,440,5⟩,⟨1,441,4⟩,⟨1,442,3⟩,⟨1,443,2⟩,⟨1,444,1⟩])
def ex24:List Arv × List Cnt:=([⟨0,300,0,0,-1,0⟩,⟨1,400,0,300,0,300⟩,⟨1,401,0,300,0,300⟩,⟨1,402,0,300,0,300⟩,⟨1,403,0,300,0,300⟩,⟨1,404,0,300,0,300⟩,⟨1,405,0,300,0,300⟩,⟨1,406,0,300,0,300⟩,⟨1,407,0,300,0,300⟩,⟨1,408,0,300,0,300⟩,⟨1,409,0,300,0,300⟩,⟨1,410,0,300,0,300⟩,⟨1,411,0,300,0,300⟩,⟨1,412,0,300,0,300⟩,⟨1,413,0,300,0,300⟩,⟨1,414,0,300,0,300⟩,⟨1,415,0,300,0,300⟩,⟨1,416,0,300,0,300⟩,⟨1,417,0,300,0,300⟩,⟨1,418,0,300,0,300⟩,⟨1,419,0,300,0,300⟩,⟨1,420,0,300,0,300⟩,⟨2,492,1,400,1,420⟩,⟨2,493,1,400,1,420⟩,⟨2,494,1,400,1,420⟩,⟨2,495,1,400,1,420⟩,⟨2,496,1,400,1,420⟩,⟨2,497,1,400,1,420⟩,⟨2,498,1,400,1,420⟩,⟨2,499,1,400,1,420⟩,⟨2,501,1,400,1,420⟩,⟨2,502,1,400,1,420⟩,⟨2,503,1,400,1,420⟩,⟨2,504,1,400,1,420⟩,⟨2,505,1,400,1,420⟩,⟨2,506,1,400,1,420⟩,⟨2,507,1,400,1,420⟩,⟨2,508,1,400,1,420⟩,⟨2,509,1,400,1,420⟩,⟨2,510,1,400,1,420⟩,⟨2,511,1,400,1,420⟩,⟨2,512,1,400,1,420⟩,⟨2,513,1,400,1,420⟩,⟨2,514,1,400,1,420⟩,⟨2,515,1,400,1,420⟩,⟨2,516,1,400,1,420⟩,⟨2,517,1,400,1,420⟩,⟨2,518,1,400,1,420⟩,⟨2,519,1,400,1,420⟩,⟨2,520,1,400,1,420⟩,⟨2,521,1,400,1,420⟩,⟨2,522,1,400,1,420⟩,⟨2,523,1,400,1,420⟩,⟨2,524,1,400,1,420⟩,⟨2,525,1,400,1,420⟩,⟨2,526,1,400,1,420⟩,⟨2,527,1,400,1,420⟩,⟨2,528,1,400,1,420⟩,⟨2,529,1,400,1,420⟩,⟨2,530,1,400,1,420⟩,⟨2,531,1,400,1,420⟩,⟨2,532,1,400,1,420⟩,⟨2,533,1,400,1,420⟩,⟨2,534,1,400,1,420⟩,⟨2,535,1,400,1,420⟩,⟨2,536,1,400,1,420⟩,⟨2,537,1,400,1,420⟩,⟨2,538,1,400,1,420⟩,⟨2,539,1,400,1,420⟩,⟨2,540,1,400,1,420⟩,⟨2,541,1,400,1,420⟩,⟨2,542,1,400,1,420⟩,⟨2,543,1,400,1,420⟩,⟨2,544,1,400,1,420⟩,⟨2,545,1,400,1,420⟩,⟨2,546,1,400,1,420⟩,⟨2,547,1,400,1,420⟩,⟨2,548,1,400,1,420⟩,⟨2,549,1,400,1,420⟩,⟨2,550,1,400,1,420⟩,⟨2,551,1,400,1,420⟩,⟨2,552,1,400,1,420⟩,⟨2,553,1,400,1,420⟩,⟨2,554,1,400,1,420⟩,⟨2,555,1,400,1,420⟩,⟨2,556,1,400,1,421⟩,⟨2,557,1,400,1,422⟩,⟨2,558,1,400,1,423⟩,⟨2,559,1,400,1,424⟩,⟨3,552,2,492,2,492⟩,⟨3,553,2,492,2,493⟩,⟨3,554,2,492,2,494⟩,⟨3,555,2,492,2,495⟩,⟨3,556,2,492,2,496⟩,⟨3,557,2,492,2,497⟩,⟨3,558,2,492,2,498⟩,⟨3,559,2,492,2,499⟩],[⟨0,300,1⟩,⟨0,301,1⟩,⟨0,302,1⟩,⟨0,303,1⟩,⟨0,304,1⟩,⟨0,305,1⟩,⟨0,306,1⟩,⟨0,307,1⟩,⟨0,308,1⟩,⟨0,309,1⟩,⟨0,310,1⟩,⟨0,311,1⟩,⟨0,312,1⟩,⟨0,313,1⟩,⟨0,314,1⟩,⟨0,315,1⟩,⟨0,316,1⟩,⟨0,317,1⟩,⟨0,318,1⟩,⟨0,319,1⟩,⟨0,320,1⟩,⟨0,321,1⟩,⟨0,322,1⟩,⟨0,323,1⟩,⟨0,324,1⟩,⟨0,325,1⟩,⟨0,326,1⟩,⟨0,327,1⟩,⟨0,328,1⟩,⟨0,329,1⟩,⟨0,330,1⟩,⟨1,400,1⟩,⟨1,401,2⟩,⟨1,402,3⟩,⟨1,403,4⟩,⟨1,404,5⟩,⟨1,405,6⟩,⟨1,406,7⟩,⟨1,407,8⟩,⟨1,408,9⟩,⟨1,409,10⟩,⟨1,410,11⟩,⟨1,411,12⟩,⟨1,412,13⟩,⟨1,413,14⟩,⟨1,414,15⟩,⟨1,415,16⟩,⟨1,416,17⟩,⟨1,417,18⟩,⟨1,418,19⟩,⟨1,419,20⟩,⟨1,420,21⟩,⟨1,421,21⟩,⟨1,422,21⟩,⟨1,423,21⟩,⟨1,424,21⟩,⟨1,425,21⟩,⟨1,426,21⟩,⟨1,427,21⟩,⟨1,428,21⟩,⟨1,429,21⟩,⟨1,430,21⟩,⟨1,431,20⟩,⟨1,432,19⟩,⟨1,433,18⟩,⟨1,434,17⟩,⟨1,435,16⟩,⟨1,436,15⟩,⟨1,437,14⟩,⟨1,438,13⟩,⟨1,439,12⟩,⟨1,440,11⟩,⟨1,441,10⟩,⟨1,442,9⟩,⟨1,443,8⟩,⟨1,444,7⟩,⟨1,445,6⟩,⟨1,446,5⟩,⟨1,447,4⟩,⟨1,448,3⟩,⟨1,449,2⟩,⟨1,450,1⟩,⟨2,492,1⟩,⟨2,493,2⟩,⟨2,494,2⟩,⟨2,495,2⟩,⟨2,496,2⟩,⟨2,497,2⟩,⟨2,498,2⟩,⟨2,499,2⟩])
def ex32:List Arv × List Cnt:=([⟨0,300,0,0,-1,0⟩,⟨1,400,0,300,0,300⟩,⟨1,401,0,300,0,300⟩,⟨1,402,0,300,0,300⟩,⟨1,403,0,300,0,300⟩,⟨1,404,0,300,0,300⟩,⟨1,405,0,300,0,300⟩,⟨1,406,0,300,0,300⟩,⟨1,407,0,300,0,300⟩,⟨1,408,0,300,0,300⟩,⟨1,409,0,300,0,300⟩,⟨1,410,0,300,0,300⟩,⟨1,411,0,300,0,300⟩,⟨1,412,0,300,0,300⟩,⟨1,413,0,300,0,300⟩,⟨1,414,0,300,0,300⟩,⟨1,415,0,300,0,300⟩,⟨1,416,0,300,0,300⟩,⟨1,417,0,300,0,300⟩,⟨1,418,0,300,0,300⟩,⟨1,419,0,300,0,300⟩,⟨1,420,0,300,0,300⟩,⟨2,492,1,400,1,420⟩,⟨2,493,1,400,1,420⟩,⟨2,494,1,400,1,420⟩,⟨2,495,1,400,1,420⟩,⟨2,496,1,400,1,420⟩,⟨2,497,1,400,1,420⟩,⟨2,498,1,400,1,420⟩,⟨2,499,1,400,1,420⟩,⟨2,501,1,400,1,420⟩,⟨2,502,1,400,1,420⟩,⟨2,503,1,400,1,420⟩,⟨2,504,1,400,1,420⟩,⟨2,505,1,400,1,420⟩,⟨2,506,1,400,1,420⟩,⟨2,507,1,400,1,420⟩,⟨2,508,1,400,1,420⟩,⟨2,509,1,400,1,420⟩,⟨2,510,1,400,1,420⟩,⟨2,511,1,400,1,420⟩,⟨2,512,1,400,1,420⟩,⟨2,513,1,400,1,420⟩,⟨2,514,1,400,1,420⟩,⟨2,515,1,400,1,420⟩,⟨2,516,1,400,1,420⟩,⟨2,517,1,400,1,420⟩,⟨2,518,1,400,1,420⟩,⟨2,519,1,400,1,420⟩,⟨2,520,1,400,1,420⟩,⟨2,521,1,400,1,420⟩,⟨2,522,1,400,1,420⟩,⟨2,523,1,400,1,420⟩,⟨2,524,1,400,1,420⟩,⟨2,525,1,400,1,420⟩,⟨2,526,1,400,1,420⟩,⟨2,527,1,400,1,420⟩,⟨2,528,1,400,1,420⟩,⟨2,529,1,400,1,420⟩,⟨2,530,1,400,1,420⟩,⟨2,531,1,400,1,420⟩,⟨2,532,1,400,1,420⟩,⟨2,533,1,400,1,420⟩,⟨2,534,1,400,1,420⟩,⟨2,535,1,400,1,420⟩,⟨2,536,1,400,1,420⟩,⟨2,537,1,400,1,420⟩,⟨2,538,1,400,1,420⟩,⟨2,539,1,400,1,420⟩,⟨2,540,1,400,1,420⟩,⟨2,541,1,400,1,420⟩,⟨2,542,1,400,1,420⟩,⟨2,543,1,400,1,420⟩,⟨2,544,1,400,1,420⟩,⟨2,545,1,400,1,420⟩,⟨2,546,1,400,1,420⟩,⟨2,547,1,400,1,420⟩,⟨2,548,1,400,1,420⟩,⟨2,549,1,400,1,420⟩,⟨2,550,1,400,1,420⟩,⟨2,551,1,400,1,420⟩,⟨2,552,1,400,1,420⟩,⟨2,553,1,400,1,420⟩,⟨2,554,1,400,1,420⟩,⟨2,555,1,400,1,420⟩,⟨2,556,1,400,1,421⟩,⟨2,557,1,400,1,422⟩,⟨2,558,1,400,1,423⟩,⟨2,559,1,400,1,424⟩,⟨3,552,2,492,2,492⟩,⟨3,553,2,492,2,493⟩,⟨3,554,2,492,2,494⟩,⟨3,555,2,492,2,495⟩,⟨3,556,2,492,2,496⟩,⟨3,557,2,492,2,497⟩,⟨3,558,2,492,2,498⟩,⟨3,559,2,492,2,499⟩],[⟨0,300,1⟩,⟨0,301,1⟩,⟨0,302,1⟩,⟨0,303,1⟩,⟨0,304,1⟩,⟨0,305,1⟩,⟨0,306,1⟩,⟨0,307,1⟩,⟨0,308,1⟩,⟨0,309,1⟩,⟨0,310,1⟩,⟨0,311,1⟩,⟨0,312,1⟩,⟨0,313,1⟩,⟨0,314,1⟩,⟨0,315,1⟩,⟨0,316,1⟩,⟨0,317,1⟩,⟨0,318,1⟩,⟨0,319,1⟩,⟨0,320,1⟩,⟨0,321,1⟩,⟨0,322,1⟩,⟨0,323,1⟩,⟨0,324,1⟩,⟨0,325,1⟩,⟨0,326,1⟩,⟨0,327,1⟩,⟨0,328,1⟩,⟨0,329,1⟩,⟨0,330,1⟩,⟨1,400,1⟩,⟨1,401,2⟩,⟨1,402,3⟩,⟨1,403,4⟩,⟨1,404,5⟩,⟨1,405,6⟩,⟨1,406,7⟩,⟨1,407,8⟩,⟨1,408,9⟩,⟨1,409,10⟩,⟨1,410,11⟩,⟨1,411,12⟩,⟨1,412,13⟩,⟨1,413,14⟩,⟨1,414,15⟩,⟨1,415,16⟩,⟨1,416,17⟩,⟨1,417,18⟩,⟨1,418,19⟩,⟨1,419,20⟩,⟨1,420,21⟩,⟨1,421,21⟩,⟨1,422,21⟩,⟨1,423,21⟩,⟨1,424,21⟩,⟨1,425,21⟩,⟨1,426,21⟩,⟨1,427,21⟩,⟨1,428,21⟩,⟨1,429,21⟩,⟨1,430,21⟩,⟨1,431,20⟩,⟨1,432,19⟩,⟨1,433,18⟩,⟨1,434,17⟩,⟨1,435,16⟩,⟨1,436,15⟩,⟨1,437,14⟩,⟨1,438,13⟩,⟨1,439,12⟩,⟨1,440,11⟩,⟨1,441,10⟩,⟨1,442,9⟩,⟨1,443,8⟩,⟨1,444,7⟩,⟨1,445,6⟩,⟨1,446,5⟩,⟨1,447,4⟩,⟨1,448,3⟩,⟨1,449,2⟩,⟨1,450,1⟩,⟨2,492,1⟩,⟨2,493,2⟩,⟨2,494,3⟩,⟨2,495,4⟩,⟨2,496,5⟩,⟨2,497,6⟩,⟨2,498,7⟩,⟨2,499,8⟩,⟨2,501,1⟩,⟨2,502,2⟩,⟨2,503,2⟩,⟨2,504,2⟩,⟨2,505,2⟩,⟨2,506,2⟩,⟨2,507,2⟩,⟨2,508,2⟩,⟨2,509,2⟩,⟨2,510,2⟩,⟨2,511,2⟩,⟨2,512,2⟩,⟨2,513,2⟩,⟨2,514,2⟩,⟨2,515,2⟩,⟨2,516,2⟩,⟨2,517,2⟩,⟨2,518,2⟩,⟨2,519,2⟩,⟨2,520,2⟩,⟨2,521,2⟩,⟨2,522,2⟩,⟨2,523,2⟩,⟨2,524,2⟩,⟨2,525,2⟩,⟨2,526,2⟩,⟨2,527,2⟩,⟨2,528,2⟩,⟨2,529,2⟩,⟨2,530,2⟩,⟨2,531,2⟩,⟨2,532,1⟩])
def ex40:List Arv × List Cnt:=([⟨0,300,0,0,-1,0⟩,⟨1,400,0,300,0,300⟩,⟨1,401,0,300,0,300⟩,⟨1,402,0,300,0,300⟩,⟨1,403,0,300,0,300⟩,⟨1,404,0,300,0,300⟩,⟨1,405,0,300,0,300⟩,⟨1,406,0,300,0,300⟩,⟨1,407,0,300,0,300⟩,⟨1,408,0,300,0,300⟩,⟨1,409,0,300,0,300⟩,⟨1,410,0,300,0,300⟩,⟨1,411,0,300,0,300⟩,⟨1,412,0,300,0,300⟩,⟨1,413,0,300,0,300⟩,⟨1,414,0,300,0,300⟩,⟨1,415,0,300,0,300⟩,⟨1,416,0,300,0,300⟩,⟨1,417,0,300,0,300⟩,⟨1,418,0,300,0,300⟩,⟨1,419,0,300,0,300⟩,⟨1,420,0,300,0,300⟩,⟨2,492,1,400,1,420⟩,⟨2,493,1,400,1,420⟩,⟨2,494,1,400,1,420⟩,⟨2,495,1,400,1,420⟩,⟨2,496,1,400,1,420⟩,⟨2,497,1,400,1,420⟩,⟨2,498,1,400,1,420⟩,⟨2,499,1,400,1,420⟩,⟨2,501,1,400,1,420⟩,⟨2,502,1,400,1,420⟩,⟨2,503,1,400,1,420⟩,⟨2,504,1,400,1,420⟩,⟨2,505,1,400,1,420⟩,⟨2,506,1,400,1,420⟩,⟨2,507,1,400,1,420⟩,⟨2,508,1,400,1,420⟩,⟨2,509,1,400,1,420⟩,⟨2,510,1,400,1,420⟩,⟨2,511,1,400,1,420⟩,⟨2,512,1,400,1,420⟩,⟨2,513,1,400,1,420⟩,⟨2,514,1,400,1,420⟩,⟨2,515,1,400,1,420⟩,⟨2,516,1,400,1,420⟩,⟨2,517,1,400,1,420⟩,⟨2,518,1,400,1,420⟩,⟨2,519,1,400,1,420⟩,⟨2,520,1,400,1,420⟩,⟨2,521,1,400,1,420⟩,⟨2,522,1,400,1,420⟩,⟨2,523,1,400,1,420⟩,⟨2,524,1,400,1,420⟩,⟨2,525,1,400,1,420⟩,⟨2,526,1,400,1,420⟩,⟨2,527,1,400,1,420⟩,⟨2,528,1,400,1,420⟩,⟨2,529,1,400,1,420⟩,⟨2,530,1,400,1,420⟩,⟨2,531,1,400,1,420⟩,⟨2,532,1,400,1,420⟩,⟨2,533,1,400,1,420⟩,⟨2,534,1,400,1,420⟩,⟨2,535,1,400,1,420⟩,⟨2,536,1,400,1,420⟩,⟨2,537,1,400,1,420⟩,⟨2,538,1,400,1,420⟩,⟨2,539,1,400,1,420⟩,⟨2,540,1,400,1,420⟩,⟨2,541,1,400,1,420⟩,⟨2,542,1,400,1,420⟩,⟨2,543,1,400,1,420⟩,⟨2,544,1,400,1,420⟩,⟨2,545,1,400,1,420⟩,⟨2,546,1,400,1,420⟩,⟨2,547,1,400,1,420⟩,⟨2,548,1,400,1,420⟩,⟨2,549,1,400,1,420⟩,⟨2,550,1,400,1,420⟩,⟨2,551,1,400,1,420⟩,⟨2,552,1,400,1,420⟩,⟨2,553,1,400,1,420⟩,⟨2,554,1,400,1,420⟩,⟨2,555,1,400,1,420⟩,⟨2,556,1,400,1,421⟩,⟨2,557,1,400,1,422⟩,⟨2,558,1,400,1,423⟩,⟨2,559,1,400,1,424⟩,⟨3,552,2,492,2,492⟩,⟨3,553,2,492,2,493⟩,⟨3,554,2,492,2,494⟩,⟨3,555,2,492,2,495⟩,⟨3,556,2,492,2,496⟩,⟨3,557,2,492,2,497⟩,⟨3,558,2,492,2,498⟩,⟨3,559,2,492,2,499⟩],[⟨0,300,1⟩,⟨0,301,1⟩,⟨0,302,1⟩,⟨0,303,1⟩,⟨0,304,1⟩,⟨0,305,1⟩,⟨0,306,1⟩,⟨0,307,1⟩,⟨0,308,1⟩,⟨0,309,1⟩,⟨0,310,1⟩,⟨0,311,1⟩,⟨0,312,1⟩,⟨0,313,1⟩,⟨0,314,1⟩,⟨0,315,1⟩,⟨0,316,1⟩,⟨0,317,1⟩,⟨0,318,1⟩,⟨0,319,1⟩,⟨0,320,1⟩,⟨0,321,1⟩,⟨0,322,1⟩,⟨0,323,1⟩,⟨0,324,1⟩,⟨0,325,1⟩,⟨0,326,1⟩,⟨0,327,1⟩,⟨0,328,1⟩,⟨0,329,1⟩,⟨0,330,1⟩,⟨1,400,1⟩,⟨1,401,2⟩,⟨1,402,3⟩,⟨1,403,4⟩,⟨1,404,5⟩,⟨1,405,6⟩,⟨1,406,7⟩,⟨1,407,8⟩,⟨1,408,9⟩,⟨1,409,10⟩,⟨1,410,11⟩,⟨1,411,12⟩,⟨1,412,13⟩,⟨1,413,14⟩,⟨1,414,15⟩,⟨1,415,16⟩,⟨1,416,17⟩,⟨1,417,18⟩,⟨1,418,19⟩,⟨1,419,20⟩,⟨1,420,21⟩,⟨1,421,21⟩,⟨1,422,21⟩,⟨1,423,21⟩,⟨1,424,21⟩,⟨1,425,21⟩,⟨1,426,21⟩,⟨1,427,21⟩,⟨1,428,21⟩,⟨1,429,21⟩,⟨1,430,21⟩,⟨1,431,20⟩,⟨1,432,19⟩,⟨1,433,18⟩,⟨1,434,17⟩,⟨1,435,16⟩,⟨1,436,15⟩,⟨1,437,14⟩,⟨1,438,13⟩,⟨1,439,12⟩,⟨1,440,11⟩,⟨1,441,10⟩,⟨1,442,9⟩,⟨1,443,8⟩,⟨1,444,7⟩,⟨1,445,6⟩,⟨1,446,5⟩,⟨1,447,4⟩,⟨1,448,3⟩,⟨1,449,2⟩,⟨1,450,1⟩,⟨2,492,1⟩,⟨2,493,2⟩,⟨2,494,3⟩,⟨2,495,4⟩,⟨2,496,5⟩,⟨2,497,6⟩,⟨2,498,7⟩,⟨2,499,8⟩,⟨2,501,1⟩,⟨2,502,2⟩,⟨2,503,3⟩,⟨2,504,4⟩,⟨2,505,5⟩,⟨2,506,6⟩,⟨2,507,7⟩,⟨2,508,8⟩,⟨2,509,9⟩,⟨2,510,10⟩,⟨2,511,10⟩,⟨2,512,10⟩,⟨2,513,10⟩,⟨2,514,10⟩,⟨2,515,10⟩,⟨2,516,10⟩,⟨2,517,10⟩,⟨2,518,10⟩,⟨2,519,10⟩,⟨2,520,10⟩,⟨2,521,10⟩,⟨2,522,10⟩,⟨2,523,10⟩,⟨2,524,10⟩,⟨2,525,10⟩,⟨2,526,10⟩,⟨2,527,10⟩,⟨2,528,10⟩,⟨2,529,10⟩,⟨2,530,10⟩,⟨2,531,10⟩,⟨2,532,9⟩,⟨2,533,8⟩,⟨2,534,7⟩,⟨2,535,6⟩,⟨2,536,5⟩,⟨2,537,4⟩,⟨2,538,3⟩,⟨2,539,2⟩,⟨2,540,1⟩])
def ex48:List Arv × List Cnt:=([⟨0,300,0,0,-1,0⟩,⟨1,400,0,300,0,300⟩,⟨1,401,0,300,0,300⟩,⟨1,402,0,300,0,300⟩,⟨1,403,0,300,0,300⟩,⟨1,404,0,300,0,300⟩,⟨1,405,0,300,0,300⟩,⟨1,406,0,300,0,300⟩,⟨1,407,0,300,0,300⟩,⟨1,408,0,300,0,300⟩,⟨1,409,0,300,0,300⟩,⟨1,410,0,300,0,300⟩,⟨1,411,0,300,0,300⟩,⟨1,412,0,300,0,300⟩,⟨1,413,0,300,0,300⟩,⟨1,414,0,300,0,300⟩,⟨1,415,0,300,0,300⟩,⟨1,416,0,300,0,300⟩,⟨1,417,0,300,0,300⟩,⟨1,418,0,300,0,300⟩,⟨1,419,0,300,0,300⟩,⟨1,420,0,300,0,300⟩,⟨2,492,1,400,1,420⟩,⟨2,493,1,400,1,420⟩,⟨2,494,1,400,1,420⟩,⟨2,495,1,400,1,420⟩,⟨2,496,1,400,1,420⟩,⟨2,497,1,400,1,420⟩,⟨2,498,1,400,1,420⟩,⟨2,499,1,400,1,420⟩,⟨2,501,1,400,1,420⟩,⟨2,502,1,400,1,420⟩,⟨2,503,1,400,1,420⟩,⟨2,504,1,400,1,420⟩,⟨2,505,1,400,1,420⟩,⟨2,506,1,400,1,420⟩,⟨2,507,1,400,1,420⟩,⟨2,508,1,400,1,420⟩,⟨2,509,1,400,1,420⟩,⟨2,510,1,400,1,420⟩,⟨2,511,1,400,1,420⟩,⟨2,512,1,400,1,420⟩,⟨2,513,1,400,1,420⟩,⟨2,514,1,400,1,420⟩,⟨2,515,1,400,1,420⟩,⟨2,516,1,400,1,420⟩,⟨2,517,1,400,1,420⟩,⟨2,518,1,400,1,420⟩,⟨2,519,1,400,1,420⟩,⟨2,520,1,400,1,420⟩,⟨2,521,1,400,1,420⟩,⟨2,522,1,400,1,420⟩,⟨2,523,1,400,1,420⟩,⟨2,524,1,400,1,420⟩,⟨2,525,1,400,1,420⟩,⟨2,526,1,400,1,420⟩,⟨2,527,1,400,1,420⟩,⟨2,528,1,400,1,420⟩,⟨2,529,1,400,1,420⟩,⟨2,530,1,400,1,420⟩,⟨2,531,1,400,1,420⟩,⟨2,532,1,400,1,420⟩,⟨2,533,1,400,1,420⟩,⟨2,534,1,400,1,420⟩,⟨2,535,1,400,1,420⟩,⟨2,536,1,400,1,420⟩,⟨2,537,1,400,1,420⟩,⟨2,538,1,400,1,420⟩,⟨2,539,1,400,1,420⟩,⟨2,540,1,400,1,420⟩,⟨2,541,1,400,1,420⟩,⟨2,542,1,400,1,420⟩,⟨2,543,1,400,1,420⟩,⟨2,544,1,400,1,420⟩,⟨2,545,1,400,1,420⟩,⟨2,546,1,400,1,420⟩,⟨2,547,1,400,1,420⟩,⟨2,548,1,400,1,420⟩,⟨2,549,1,400,1,420⟩,⟨2,550,1,400,1,420⟩,⟨2,551,1,400,1,420⟩,⟨2,552,1,400,1,420⟩,⟨2,553,1,400,1,420⟩,⟨2,554,1,400,1,420⟩,⟨2,555,1,400,1,420⟩,⟨2,556,1,400,1,421⟩,⟨2,557,1,400,1,422⟩,⟨2,558,1,400,1,423⟩,⟨2,559,1,400,1,424⟩,⟨3,552,2,492,2,492⟩,⟨3,553,2,492,2,493⟩,⟨3,554,2,492,2,494⟩,⟨3,555,2,492,2,495⟩,⟨3,556,2,492,2,496⟩,⟨3,557,2,492,2,497⟩,⟨3,558,2,492,2,498⟩,⟨3,559,2,492,2,499⟩],[⟨0,300,1⟩,⟨0,301,1⟩,⟨0,302,1⟩,⟨0,303,1⟩,⟨0,304,1⟩,⟨0,305,1⟩,⟨0,306,1⟩,⟨0,307,1⟩,⟨0,308,1⟩,⟨0,309,1⟩,⟨0,310,1⟩,⟨0,311,1⟩,⟨0,312,1⟩,⟨0,313,1⟩,⟨0,314,1⟩,⟨0,315,1⟩,⟨0,316,1⟩,⟨0,317,1⟩,⟨0,318,1⟩,⟨0,319,1⟩,⟨0,320,1⟩,⟨0,321,1⟩,⟨0,322,1⟩,⟨0,323,1⟩,⟨0,324,1⟩,⟨0,325,1⟩,⟨0,326,1⟩,⟨0,327,1⟩,⟨0,328,1⟩,⟨0,329,1⟩,⟨0,330,1⟩,⟨1,400,1⟩,⟨1,401,2⟩,⟨1,402,3⟩,⟨1,403,4⟩,⟨1,404,5⟩,⟨1,405,6⟩,⟨1,406,7⟩,⟨1,407,8⟩,⟨1,408,9⟩,⟨1,409,10⟩,⟨1,410,11⟩,⟨1,411,12⟩,⟨1,412,13⟩,⟨1,413,14⟩,⟨1,414,15⟩,⟨1,415,16⟩,⟨1,416,17⟩,⟨1,417,18⟩,⟨1,418,19⟩,⟨1,419,20⟩,⟨1,420,21⟩,⟨1,421,21⟩,⟨1,422,21⟩,⟨1,423,21⟩,⟨1,424,21⟩,⟨1,425,21⟩,⟨1,426,21⟩,⟨1,427,21⟩,⟨1,428,21⟩,⟨1,429,21⟩,⟨1,430,21⟩,⟨1,431,20⟩,⟨1,432,19⟩,⟨1,433,18⟩,⟨1,434,17⟩,⟨1,435,16⟩,⟨1,436,15⟩,⟨1,437,14⟩,⟨1,438,13⟩,⟨1,439,12⟩,⟨1,440,11⟩,⟨1,441,10⟩,⟨1,442,9⟩,⟨1,443,8⟩,⟨1,444,7⟩,⟨1,445,6⟩,⟨1,446,5⟩,⟨1,447,4⟩,⟨1,448,3⟩,⟨1,449,2⟩,⟨1,450,1⟩,⟨2,492,1⟩,⟨2,493,2⟩,⟨2,494,3⟩,⟨2,495,4⟩,⟨2,496,5⟩,⟨2,497,6⟩,⟨2,498,7⟩,⟨2,499,8⟩,⟨2,501,1⟩,⟨2,502,2⟩,⟨2,503,3⟩,⟨2,504,4⟩,⟨2,505,5⟩,⟨2,506,6⟩,⟨2,507,7⟩,⟨2,508,8⟩,⟨2,509,9⟩,⟨2,510,10⟩,⟨2,511,11⟩,⟨2,512,12⟩,⟨2,513,13⟩,⟨2,514,14⟩,⟨2,515,15⟩,⟨2,516,16⟩,⟨2,517,17⟩,⟨2,518,18⟩,⟨2,519,18⟩,⟨2,520,18⟩,⟨2,521,18⟩,⟨2,522,18⟩,⟨2,523,18⟩,⟨2,524,18⟩,⟨2,525,18⟩,⟨2,526,18⟩,⟨2,527,18⟩,⟨2,528,18⟩,⟨2,529,18⟩,⟨2,530,18⟩,⟨2,531,18⟩,⟨2,532,17⟩,⟨2,533,16⟩,⟨2,534,15⟩,⟨2,535,14⟩,⟨2,536,13⟩,⟨2,537,12⟩,⟨2,538,11⟩,⟨2,539,10⟩,⟨2,540,9⟩,⟨2,541,8⟩,⟨2,542,7⟩,⟨2,543,6⟩,⟨2,544,5⟩,⟨2,545,4⟩,⟨2,546,3⟩,⟨2,547,2⟩,⟨2,548,1⟩])
def ex56:List Arv × List Cnt:=([⟨0,300,0,0,-1,0⟩,⟨1,400,0,300,0,300⟩,⟨1,401,0,300,0,300⟩,⟨1,402,0,300,0,300⟩,⟨1,403,0,300,0,300⟩,⟨1,404,0,300,0,300⟩,⟨1,405,0,300,0,300⟩,⟨1,406,0,300,0,300⟩,⟨1,407,0,300,0,300⟩,⟨1,408,0,300,0,300⟩,⟨1,409,0,300,0,300⟩,⟨1,410,0,300,0,300⟩,⟨1,411,0,300,0,300⟩,⟨1,412,0,300,0,300⟩,⟨1,413,0,300,0,300⟩,⟨1,414,0,300,0,300⟩,⟨1,415,0,300,0,300⟩,⟨1,416,0,300,0,300⟩,⟨1,417,0,300,0,300⟩,⟨1,418,0,300,0,300⟩,⟨1,419,0,300,0,300⟩,⟨1,420,0,300,0,300⟩,⟨2,492,1,400,1,420⟩,⟨2,493,1,400,1,420⟩,⟨2,494,1,400,1,420⟩,⟨2,495,1,400,1,420⟩,⟨2,496,1,400,1,420⟩,⟨2,497,1,400,1,420⟩,⟨2,498,1,400,1,420⟩,⟨2,499,1,400,1,420⟩,⟨2,501,1,400,1,420⟩,⟨2,502,1,400,1,420⟩,⟨2,503,1,400,1,420⟩,⟨2,504,1,400,1,420⟩,⟨2,505,1,400,1,420⟩,⟨2,506,1,400,1,420⟩,⟨2,507,1,400,1,420⟩,⟨2,508,1,400,1,420⟩,⟨2,509,1,400,1,420⟩,⟨2,510,1,400,1,420⟩,⟨2,511,1,400,1,420⟩,⟨2,512,1,400,1,420⟩,⟨2,513,1,400,1,420⟩,⟨2,514,1,400,1,420⟩,⟨2,515,1,400,1,420⟩,⟨2,516,1,400,1,420⟩,⟨2,517,1,400,1,420⟩,⟨2,518,1,400,1,420⟩,⟨2,519,1,400,1,420⟩,⟨2,520,1,400,1,420⟩,⟨2,521,1,400,1,420⟩,⟨2,522,1,400,1,420⟩,⟨2,523,1,400,1,420⟩,⟨2,524,1,400,1,420⟩,⟨2,525,1,400,1,420⟩,⟨2,526,1,400,1,420⟩,⟨2,527,1,400,1,420⟩,⟨2,528,1,400,1,420⟩,⟨2,529,1,400,1,420⟩,⟨2,530,1,400,1,420⟩,⟨2,531,1,400,1,420⟩,⟨2,532,1,400,1,420⟩,⟨2,533,1,400,1,420⟩,⟨2,534,1,400,1,420⟩,⟨2,535,1,400,1,420⟩,⟨2,536,1,400,1,420⟩,⟨2,537,1,400,1,420⟩,⟨2,538,1,400,1,420⟩,⟨2,539,1,400,1,420⟩,⟨2,540,1,400,1,420⟩,⟨2,541,1,400,1,420⟩,⟨2,542,1,400,1,420⟩,⟨2,543,1,400,1,420⟩,⟨2,544,1,400,1,420⟩,⟨2,545,1,400,1,420⟩,⟨2,546,1,400,1,420⟩,⟨2,547,1,400,1,420⟩,⟨2,548,1,400,1,420⟩,⟨2,549,1,400,1,420⟩,⟨2,550,1,400,1,420⟩,⟨2,551,1,400,1,420⟩,⟨2,552,1,400,1,420⟩,⟨2,553,1,400,1,420⟩,⟨2,554,1,400,1,420⟩,⟨2,555,1,400,1,420⟩,⟨2,556,1,400,1,421⟩,⟨2,557,1,400,1,422⟩,⟨2,558,1,400,1,423⟩,⟨2,559,1,400,1,424⟩,⟨3,552,2,492,2,492⟩,⟨3,553,2,492,2,493⟩,⟨3,554,2,492,2,494⟩,⟨3,555,2,492,2,495⟩,⟨3,556,2,492,2,496⟩,⟨3,557,2,492,2,497⟩,⟨3,558,2,492,2,498⟩,⟨3,559,2,492,2,499⟩],[⟨0,300,1⟩,⟨0,301,1⟩,⟨0,302,1⟩,⟨0,303,1⟩,⟨0,304,1⟩,⟨0,305,1⟩,⟨0,306,1⟩,⟨0,307,1⟩,⟨0,308,1⟩,⟨0,309,1⟩,⟨0,310,1⟩,⟨0,311,1⟩,⟨0,312,1⟩,⟨0,313,1⟩,⟨0,314,1⟩,⟨0,315,1⟩,⟨0,316,1⟩,⟨0,317,1⟩,⟨0,318,1⟩,⟨0,319,1⟩,⟨0,320,1⟩,⟨0,321,1⟩,⟨0,322,1⟩,⟨0,323,1⟩,⟨0,324,1⟩,⟨0,325,1⟩,⟨0,326,1⟩,⟨0,327,1⟩,⟨0,328,1⟩,⟨0,329,1⟩,⟨0,330,1⟩,⟨1,400,1⟩,⟨1,401,2⟩,⟨1,402,3⟩,⟨1,403,4⟩,⟨1,404,5⟩,⟨1,405,6⟩,⟨1,406,7⟩,⟨1,407,8⟩,⟨1,408,9⟩,⟨1,409,10⟩,⟨1,410,11⟩,⟨1,411,12⟩,⟨1,412,13⟩,⟨1,413,14⟩,⟨1,414,15⟩,⟨1,415,16⟩,⟨1,416,17⟩,⟨1,417,18⟩,⟨1,418,19⟩,⟨1,419,20⟩,⟨1,420,21⟩,⟨1,421,21⟩,⟨1,422,21⟩,⟨1,423,21⟩,⟨1,424,21⟩,⟨1,425,21⟩,⟨1,426,21⟩,⟨1,427,21⟩,⟨1,428,21⟩,⟨1,429,21⟩,⟨1,430,21⟩,⟨1,431,20⟩,⟨1,432,19⟩,⟨1,433,18⟩,⟨1,434,17⟩,⟨1,435,16⟩,⟨1,436,15⟩,⟨1,437,14⟩,⟨1,438,13⟩,⟨1,439,12⟩,⟨1,440,11⟩,⟨1,441,10⟩,⟨1,442,9⟩,⟨1,443,8⟩,⟨1,444,7⟩,⟨1,445,6⟩,⟨1,446,5⟩,⟨1,447,4⟩,⟨1,448,3⟩,⟨1,449,2⟩,⟨1,450,1⟩,⟨2,492,1⟩,⟨2,493,2⟩,⟨2,494,3⟩,⟨2,495,4⟩,⟨2,496,5⟩,⟨2,497,6⟩,⟨2,498,7⟩,⟨2,499,8⟩,⟨2,501,1⟩,⟨2,502,2⟩,⟨2,503,3⟩,⟨2,504,4⟩,⟨2,505,5⟩,⟨2,506,6⟩,⟨2,507,7⟩,⟨2,508,8⟩,⟨2,509,9⟩,⟨2,510,10⟩,⟨2,511,11⟩,⟨2,512,12⟩,⟨2,513,13⟩,⟨2,514,14⟩,⟨2,515,15⟩,⟨2,516,16⟩,⟨2,517,17⟩,⟨2,518,18⟩,⟨2,519,19⟩,⟨2,520,20⟩,⟨2,521,21⟩,⟨2,522,22⟩,⟨2,523,23⟩,⟨2,524,24⟩,⟨2,525,25⟩,⟨2,526,26⟩,⟨2,527,26⟩,⟨2,528,26⟩,⟨2,529,26⟩,⟨2,530,26⟩,⟨2,531,26⟩,⟨2,532,25⟩,⟨2,533,24⟩,⟨2,534,23⟩,⟨2,535,22⟩,⟨2,536,21⟩,⟨2,537,20⟩,⟨2,538,19⟩,⟨2,539,18⟩,⟨2,540,17⟩,⟨2,541,16⟩,⟨2,542,15⟩,⟨2,543,14⟩,⟨2,544,13⟩,⟨2,545,12⟩,⟨2,546,11⟩,⟨2,547,10⟩,⟨2,548,9⟩,⟨2,549,8⟩,⟨2,550,7⟩,⟨2,551,6⟩,⟨2,552,5⟩,⟨2,553,4⟩,⟨2,554,3⟩,⟨2,555,2⟩,⟨2,556,1⟩])
def ex64:List Arv × List Cnt:=([⟨0,300,0,0,-1,0⟩,⟨1,400,0,300,0,300⟩,⟨1,401,0,300,0,300⟩,⟨1,402,0,300,0,300⟩,⟨1,403,0,300,0,300⟩,⟨1,404,0,300,0,300⟩,⟨1,405,0,300,0,300⟩,⟨1,406,0,300,0,300⟩,⟨1,407,0,300,0,300⟩,⟨1,408,0,300,0,300⟩,⟨1,409,0,300,0,300⟩,⟨1,410,0,300,0,300⟩,⟨1,411,0,300,0,300⟩,⟨1,412,0,300,0,300⟩,⟨1,413,0,300,0,300⟩,⟨1,414,0,300,0,300⟩,⟨1,415,0,300,0,300⟩,⟨1,416,0,300,0,300⟩,⟨1,417,0,300,0,300⟩,⟨1,418,0,300,0,300⟩,⟨1,419,0,300,0,300⟩,⟨1,420,0,300,0,300⟩,⟨2,492,1,400,1,420⟩,⟨2,493,1,400,1,420⟩,⟨2,494,1,400,1,420⟩,⟨2,495,1,400,1,420⟩,⟨2,496,1,400,1,420⟩,⟨2,497,1,400,1,420⟩,⟨2,498,1,400,1,420⟩,⟨2,499,1,400,1,420⟩,⟨2,501,1,400,1,420⟩,⟨2,502,1,400,1,420⟩,⟨2,503,1,400,1,420⟩,⟨2,504,1,400,1,420⟩,⟨2,505,1,400,1,420⟩,⟨2,506,1,400,1,420⟩,⟨2,507,1,400,1,420⟩,⟨2,508,1,400,1,420⟩,⟨2,509,1,400,1,420⟩,⟨2,510,1,400,1,420⟩,⟨2,511,1,400,1,420⟩,⟨2,512,1,400,1,420⟩,⟨2,513,1,400,1,420⟩,⟨2,514,1,400,1,420⟩,⟨2,515,1,400,1,420⟩,⟨2,516,1,400,1,420⟩,⟨2,517,1,400,1,420⟩,⟨2,518,1,400,1,420⟩,⟨2,519,1,400,1,420⟩,⟨2,520,1,400,1,420⟩,⟨2,521,1,400,1,420⟩,⟨2,522,1,400,1,420⟩,⟨2,523,1,400,1,420⟩,⟨2,524,1,400,1,420⟩,⟨2,525,1,400,1,420⟩,⟨2,526,1,400,1,420⟩,⟨2,527,1,400,1,420⟩,⟨2,528,1,400,1,420⟩,⟨2,529,1,400,1,420⟩,⟨2,530,1,400,1,420⟩,⟨2,531,1,400,1,420⟩,⟨2,532,1,400,1,420⟩,⟨2,533,1,400,1,420⟩,⟨2,534,1,400,1,420⟩,⟨2,535,1,400,1,420⟩,⟨2,536,1,400,1,420⟩,⟨2,537,1,400,1,420⟩,⟨2,538,1,400,1,420⟩,⟨2,539,1,400,1,420⟩,⟨2,540,1,400,1,420⟩,⟨2,541,1,400,1,420⟩,⟨2,542,1,400,1,420⟩,⟨2,543,1,400,1,420⟩,⟨2,544,1,400,1,420⟩,⟨2,545,1,400,1,420⟩,⟨2,546,1,400,1,420⟩,⟨2,547,1,400,1,420⟩,⟨2,548,1,400,1,420⟩,⟨2,549,1,400,1,420⟩,⟨2,550,1,400,1,420⟩,⟨2,551,1,400,1,420⟩,⟨2,552,1,400,1,420⟩,⟨2,553,1,400,1,420⟩,⟨2,554,1,400,1,420⟩,⟨2,555,1,400,1,420⟩,⟨2,556,1,400,1,421⟩,⟨2,557,1,400,1,422⟩,⟨2,558,1,400,1,423⟩,⟨2,559,1,400,1,424⟩,⟨3,552,2,492,2,492⟩,⟨3,553,2,492,2,493⟩,⟨3,554,2,492,2,494⟩,⟨3,555,2,492,2,495⟩,⟨3,556,2,492,2,496⟩,⟨3,557,2,492,2,497⟩,⟨3,558,2,492,2,498⟩,⟨3,559,2,492,2,499⟩],[⟨0,300,1⟩,⟨0,301,1⟩,⟨0,302,1⟩,⟨0,303,1⟩,⟨0,304,1⟩,⟨0,305,1⟩,⟨0,306,1⟩,⟨0,307,1⟩,⟨0,308,1⟩,⟨0,309,1⟩,⟨0,310,1⟩,⟨0,311,1⟩,⟨0,312,1⟩,⟨0,313,1⟩,⟨0,314,1⟩,⟨0,315,1⟩,⟨0,316,1⟩,⟨0,317,1⟩,⟨0,318,1⟩,⟨0,319,1⟩,⟨0,320,1⟩,⟨0,321,1⟩,⟨0,322,1⟩,⟨0,323,1⟩,⟨0,324,1⟩,⟨0,325,1⟩,⟨0,326,1⟩,⟨0,327,1⟩,⟨0,328,1⟩,⟨0,329,1⟩,⟨0,330,1⟩,⟨1,400,1⟩,⟨1,401,2⟩,⟨1,402,3⟩,⟨1,403,4⟩,⟨1,404,5⟩,⟨1,405,6⟩,⟨1,406,7⟩,⟨1,407,8⟩,⟨1,408,9⟩,⟨1,409,10⟩,⟨1,410,11⟩,⟨1,411,12⟩,⟨1,412,13⟩,⟨1,413,14⟩,⟨1,414,15⟩,⟨1,415,16⟩,⟨1,416,17⟩,⟨1,417,18⟩,⟨1,418,19⟩,⟨1,419,20⟩,⟨1,420,21⟩,⟨1,421,21⟩,⟨1,422,21⟩,⟨1,423,21⟩,⟨1,424,21⟩,⟨1,425,21⟩,⟨1,426,21⟩,⟨1,427,21⟩,⟨1,428,21⟩,⟨1,429,21⟩,⟨1,430,21⟩,⟨1,431,20⟩,⟨1,432,19⟩,⟨1,433,18⟩,⟨1,434,17⟩,⟨1,435,16⟩,⟨1,436,15⟩,⟨1,437,14⟩,⟨1,438,13⟩,⟨1,439,12⟩,⟨1,440,11⟩,⟨1,441,10⟩,⟨1,442,9⟩,⟨1,443,8⟩,⟨1,444,7⟩,⟨1,445,6⟩,⟨1,446,5⟩,⟨1,447,4⟩,⟨1,448,3⟩,⟨1,449,2⟩,⟨1,450,1⟩,⟨2,492,1⟩,⟨2,493,2⟩,⟨2,494,3⟩,⟨2,495,4⟩,⟨2,496,5⟩,⟨2,497,6⟩,⟨2,498,7⟩,⟨2,499,8⟩,⟨2,501,1⟩,⟨2,502,2⟩,⟨2,503,3⟩,⟨2,504,4⟩,⟨2,505,5⟩,⟨2,506,6⟩,⟨2,507,7⟩,⟨2,508,8⟩,⟨2,509,9⟩,⟨2,510,10⟩,⟨2,511,11⟩,⟨2,512,12⟩,⟨2,513,13⟩,⟨2,514,14⟩,⟨2,515,15⟩,⟨2,516,16⟩,⟨2,517,17⟩,⟨2,518,18⟩,⟨2,519,19⟩,⟨2,520,20⟩,⟨2,521,21⟩,⟨2,522,22⟩,⟨2,523,23⟩,⟨2,524,24⟩,⟨2,525,25⟩,⟨2,526,26⟩,⟨2,527,27⟩,⟨2,528,28⟩,⟨2,529,29⟩,⟨2,530,30⟩,⟨2,531,31⟩,⟨2,532,31⟩,⟨2,533,31⟩,⟨2,534,31⟩,⟨2,535,30⟩,⟨2,536,29⟩,⟨2,537,28⟩,⟨2,538,27⟩,⟨2,539,26⟩,⟨2,540,25⟩,⟨2,541,24⟩,⟨2,542,23⟩,⟨2,543,22⟩,⟨2,544,21⟩,⟨2,545,20⟩,⟨2,546,19⟩,⟨2,547,18⟩,⟨2,548,17⟩,⟨2,549,16⟩,⟨2,550,15⟩,⟨2,551,14⟩,⟨2,552,13⟩,⟨2,553,12⟩,⟨2,554,11⟩,⟨2,555,10⟩,⟨2,556,9⟩,⟨2,557,8⟩,⟨2,558,7⟩,⟨2,559,6⟩])
def ex72:List Arv × List Cnt:=([⟨0,300,0,0,-1,0⟩,⟨1,400,0,300,0,300⟩,⟨1,401,0,300,0,300⟩,⟨1,402,0,300,0,300⟩,⟨1,403,0,300,0,300⟩,⟨1,404,0,300,0,300⟩,⟨1,405,0,300,0,300⟩,⟨1,406,0,300,0,300⟩,⟨1,407,0,300,0,300⟩,⟨1,408,0,300,0,300⟩,⟨1,409,0,300,0,300⟩,⟨1,410,0,300,0,300⟩,⟨1,411,0,300,0,300⟩,⟨1,412,0,300,0,300⟩,⟨1,413,0,300,0,300⟩,⟨1,414,0,300,0,300⟩,⟨1,415,0,300,0,300⟩,⟨1,416,0,300,0,300⟩,⟨1,417,0,300,0,300⟩,⟨1,418,0,300,0,300⟩,⟨1,419,0,300,0,300⟩,⟨1,420,0,300,0,300⟩,⟨2,492,1,400,1,420⟩,⟨2,493,1,400,1,420⟩,⟨2,494,1,400,1,420⟩,⟨2,495,1,400,1,420⟩,⟨2,496,1,400,1,420⟩,⟨2,497,1,400,1,420⟩,⟨2,498,1,400,1,420⟩,⟨2,499,1,400,1,420⟩,⟨2,501,1,400,1,420⟩,⟨2,502,1,400,1,420⟩,⟨2,503,1,400,1,420⟩,⟨2,504,1,400,1,420⟩,⟨2,505,1,400,1,420⟩,⟨2,506,1,400,1,420⟩,⟨2,507,1,400,1,420⟩,⟨2,508,1,400,1,420⟩,⟨2,509,1,400,1,420⟩,⟨2,510,1,400,1,420⟩,⟨2,511,1,400,1,420⟩,⟨2,512,1,400,1,420⟩,⟨2,513,1,400,1,420⟩,⟨2,514,1,400,1,420⟩,⟨2,515,1,400,1,420⟩,⟨2,516,1,400,1,420⟩,⟨2,517,1,400,1,420⟩,⟨2,518,1,400,1,420⟩,⟨2,519,1,400,1,420⟩,⟨2,520,1,400,1,420⟩,⟨2,521,1,400,1,420⟩,⟨2,522,1,400,1,420⟩,⟨2,523,1,400,1,420⟩,⟨2,524,1,400,1,420⟩,⟨2,525,1,400,1,420⟩,⟨2,526,1,400,1,420⟩,⟨2,527,1,400,1,420⟩,⟨2,528,1,400,1,420⟩,⟨2,529,1,400,1,420⟩,⟨2,530,1,400,1,420⟩,⟨2,531,1,400,1,420⟩,⟨2,532,1,400,1,420⟩,⟨2,533,1,400,1,420⟩,⟨2,534,1,400,1,420⟩,⟨2,535,1,400,1,420⟩,⟨2,536,1,400,1,420⟩,⟨2,537,1,400,1,420⟩,⟨2,538,1,400,1,420⟩,⟨2,539,1,400,1,420⟩,⟨2,540,1,400,1,420⟩,⟨2,541,1,400,1,420⟩,⟨2,542,1,400,1,420⟩,⟨2,543,1,400,1,420⟩,⟨2,544,1,400,1,420⟩,⟨2,545,1,400,1,420⟩,⟨2,546,1,400,1,420⟩,⟨2,547,1,400,1,420⟩,⟨2,548,1,400,1,420⟩,⟨2,549,1,400,1,420⟩,⟨2,550,1,400,1,420⟩,⟨2,551,1,400,1,420⟩,⟨2,552,1,400,1,420⟩,⟨2,553,1,400,1,420⟩,⟨2,554,1,400,1,420⟩,⟨2,555,1,400,1,420⟩,⟨2,556,1,400,1,421⟩,⟨2,557,1,400,1,422⟩,⟨2,558,1,400,1,423⟩,⟨2,559,1,400,1,424⟩,⟨3,552,2,492,2,492⟩,⟨3,553,2,492,2,493⟩,⟨3,554,2,492,2,494⟩,⟨3,555,2,492,2,495⟩,⟨3,556,2,492,2,496⟩,⟨3,557,2,492,2,497⟩,⟨3,558,2,492,2,498⟩,⟨3,559,2,492,2,499⟩],[⟨0,300,1⟩,⟨0,301,1⟩,⟨0,302,1⟩,⟨0,303,1⟩,⟨0,304,1⟩,⟨0,305,1⟩,⟨0,306,1⟩,⟨0,307,1⟩,⟨0,308,1⟩,⟨0,309,1⟩,⟨0,310,1⟩,⟨0,311,1⟩,⟨0,312,1⟩,⟨0,313,1⟩,⟨0,314,1⟩,⟨0,315,1⟩,⟨0,316,1⟩,⟨0,317,1⟩,⟨0,318,1⟩,⟨0,319,1⟩,⟨0,320,1⟩,⟨0,321,1⟩,⟨0,322,1⟩,⟨0,323,1⟩,⟨0,324,1⟩,⟨0,325,1⟩,⟨0,326,1⟩,⟨0,327,1⟩,⟨0,328,1⟩,⟨0,329,1⟩,⟨0,330,1⟩,⟨1,400,1⟩,⟨1,401,2⟩,⟨1,402,3⟩,⟨1,403,4⟩,⟨1,404,5⟩,⟨1,405,6⟩,⟨1,406,7⟩,⟨1,407,8⟩,⟨1,408,9⟩,⟨1,409,10⟩,⟨1,410,11⟩,⟨1,411,12⟩,⟨1,412,13⟩,⟨1,413,14⟩,⟨1,414,15⟩,⟨1,415,16⟩,⟨1,416,17⟩,⟨1,417,18⟩,⟨1,418,19⟩,⟨1,419,20⟩,⟨1,420,21⟩,⟨1,421,21⟩,⟨1,422,21⟩,⟨1,423,21⟩,⟨1,424,21⟩,⟨1,425,21⟩,⟨1,426,21⟩,⟨1,427,21⟩,⟨1,428,21⟩,⟨1,429,21⟩,⟨1,430,21⟩,⟨1,431,20⟩,⟨1,432,19⟩,⟨1,433,18⟩,⟨1,434,17⟩,⟨1,435,16⟩,⟨1,436,15⟩,⟨1,437,14⟩,⟨1,438,13⟩,⟨1,439,12⟩,⟨1,440,11⟩,⟨1,441,10⟩,⟨1,442,9⟩,⟨1,443,8⟩,⟨1,444,7⟩,⟨1,445,6⟩,⟨1,446,5⟩,⟨1,447,4⟩,⟨1,448,3⟩,⟨1,449,2⟩,⟨1,450,1⟩,⟨2,492,1⟩,⟨2,493,2⟩,⟨2,494,3⟩,⟨2,495,4⟩,⟨2,496,5⟩,⟨2,497,6⟩,⟨2,498,7⟩,⟨2,499,8⟩,⟨2,501,1⟩,⟨2,502,2⟩,⟨2,503,3⟩,⟨2,504,4⟩,⟨2,505,5⟩,⟨2,506,6⟩,⟨2,507,7⟩,⟨2,508,8⟩,⟨2,509,9⟩,⟨2,510,10⟩,⟨2,511,11⟩,⟨2,512,12⟩,⟨2,513,13⟩,⟨2,514,14⟩,⟨2,515,15⟩,⟨2,516,16⟩,⟨2,517,17⟩,⟨2,518,18⟩,⟨2,519,19⟩,⟨2,520,20⟩,⟨2,521,21⟩,⟨2,522,22⟩,⟨2,523,23⟩,⟨2,524,24⟩,⟨2,525,25⟩,⟨2,526,26⟩,⟨2,527,27⟩,⟨2,528,28⟩,⟨2,529,29⟩,⟨2,530,30⟩,⟨2,531,31⟩,⟨2,532,31⟩,⟨2,533,31⟩,⟨2,534,31⟩,⟨2,535,31⟩,⟨2,536,31⟩,⟨2,537,31⟩,⟨2,538,31⟩,⟨2,539,31⟩,⟨2,540,31⟩,⟨2,541,31⟩,⟨2,542,31⟩,⟨2,543,30⟩,⟨2,544,29⟩,⟨2,545,28⟩,⟨2,546,27⟩,⟨2,547,26⟩,⟨2,548,25⟩,⟨2,549,24⟩,⟨2,550,23⟩,⟨2,551,22⟩,⟨2,552,21⟩,⟨2,553,20⟩,⟨2,554,19⟩,⟨2,555,18⟩,⟨2,556,17⟩,⟨2,557,16⟩,⟨2,558,15⟩,⟨2,559,14⟩])
def ex80:List Arv × List Cnt:=([⟨0,300,0,0,-1,0⟩,⟨1,400,0,300,0,300⟩,⟨1,401,0,300,0,300⟩,⟨1,402,0,300,0,300⟩,⟨1,403,0,300,0,300⟩,⟨1,404,0,300,0,300⟩,⟨1,405,0,300,0,300⟩,⟨1,406,0,300,0,300⟩,⟨1,407,0,300,0,300⟩,⟨1,408,0,300,0,300⟩,⟨1,409,0,300,0,300⟩,⟨1,410,0,300,0,300⟩,⟨1,411,0,300,0,300⟩,⟨1,412,0,300,0,300⟩,⟨1,413,0,300,0,300⟩,⟨1,414,0,300,0,300⟩,⟨1,415,0,300,0,300⟩,⟨1,416,0,300,0,300⟩,⟨1,417,0,300,0,300⟩,⟨1,418,0,300,0,300⟩,⟨1,419,0,300,0,300⟩,⟨1,420,0,300,0,300⟩,⟨2,492,1,400,1,420⟩,⟨2,493,1,400,1,420⟩,⟨2,494,1,400,1,420⟩,⟨2,495,1,400,1,420⟩,⟨2,496,1,400,1,420⟩,⟨2,497,1,400,1,420⟩,⟨2,498,1,400,1,420⟩,⟨2,499,1,400,1,420⟩,⟨2,501,1,400,1,420⟩,⟨2,502,1,400,1,420⟩,⟨2,503,1,400,1,420⟩,⟨2,504,1,400,1,420⟩,⟨2,505,1,400,1,420⟩,⟨2,506,1,400,1,420⟩,⟨2,507,1,400,1,420⟩,⟨2,508,1,400,1,420⟩,⟨2,509,1,400,1,420⟩,⟨2,510,1,400,1,420⟩,⟨2,511,1,400,1,420⟩,⟨2,512,1,400,1,420⟩,⟨2,513,1,400,1,420⟩,⟨2,514,1,400,1,420⟩,⟨2,515,1,400,1,420⟩,⟨2,516,1,400,1,420⟩,⟨2,517,1,400,1,420⟩,⟨2,518,1,400,1,420⟩,⟨2,519,1,400,1,420⟩,⟨2,520,1,400,1,420⟩,⟨2,521,1,400,1,420⟩,⟨2,522,1,400,1,420⟩,⟨2,523,1,400,1,420⟩,⟨2,524,1,400,1,420⟩,⟨2,525,1,400,1,420⟩,⟨2,526,1,400,1,420⟩,⟨2,527,1,400,1,420⟩,⟨2,528,1,400,1,420⟩,⟨2,529,1,400,1,420⟩,⟨2,530,1,400,1,420⟩,⟨2,531,1,400,1,420⟩,⟨2,532,1,400,1,420⟩,⟨2,533,1,400,1,420⟩,⟨2,534,1,400,1,420⟩,⟨2,535,1,400,1,420⟩,⟨2,536,1,400,1,420⟩,⟨2,537,1,400,1,420⟩,⟨2,538,1,400,1,420⟩,⟨2,539,1,400,1,420⟩,⟨2,540,1,400,1,420⟩,⟨2,541,1,400,1,420⟩,⟨2,542,1,400,1,420⟩,⟨2,543,1,400,1,420⟩,⟨2,544,1,400,1,420⟩,⟨2,545,1,400,1,420⟩,⟨2,546,1,400,1,420⟩,⟨2,547,1,400,1,420⟩,⟨2,548,1,400,1,420⟩,⟨2,549,1,400,1,420⟩,⟨2,550,1,400,1,420⟩,⟨2,551,1,400,1,420⟩,⟨2,552,1,400,1,420⟩,⟨2,553,1,400,1,420⟩,⟨2,554,1,400,1,420⟩,⟨2,555,1,400,1,420⟩,⟨2,556,1,400,1,421⟩,⟨2,557,1,400,1,422⟩,⟨2,558,1,400,1,423⟩,⟨2,559,1,400,1,424⟩,⟨3,552,2,492,2,492⟩,⟨3,553,2,492,2,493⟩,⟨3,554,2,492,2,494⟩,⟨3,555,2,492,2,495⟩,⟨3,556,2,492,2,496⟩,⟨3,557,2,492,2,497⟩,⟨3,558,2,492,2,498⟩,⟨3,559,2,492,2,499⟩],[⟨0,300,1⟩,⟨0,301,1⟩,⟨0,302,1⟩,⟨0,303,1⟩,⟨0,304,1⟩,⟨0,305,1⟩,⟨0,306,1⟩,⟨0,307,1⟩,⟨0,308,1⟩,⟨0,309,1⟩,⟨0,310,1⟩,⟨0,311,1⟩,⟨0,312,1⟩,⟨0,313,1⟩,⟨0,314,1⟩,⟨0,315,1⟩,⟨0,316,1⟩,⟨0,317,1⟩,⟨0,318,1⟩,⟨0,319,1⟩,⟨0,320,1⟩,⟨0,321,1⟩,⟨0,322,1⟩,⟨0,323,1⟩,⟨0,324,1⟩,⟨0,325,1⟩,⟨0,326,1⟩,⟨0,327,1⟩,⟨0,328,1⟩,⟨0,329,1⟩,⟨0,330,1⟩,⟨1,400,1⟩,⟨1,401,2⟩,⟨1,402,3⟩,⟨1,403,4⟩,⟨1,404,5⟩,⟨1,405,6⟩,⟨1,406,7⟩,⟨1,407,8⟩,⟨1,408,9⟩,⟨1,409,10⟩,⟨1,410,11⟩,⟨1,411,12⟩,⟨1,412,13⟩,⟨1,413,14⟩,⟨1,414,15⟩,⟨1,415,16⟩,⟨1,416,17⟩,⟨1,417,18⟩,⟨1,418,19⟩,⟨1,419,20⟩,⟨1,420,21⟩,⟨1,421,21⟩,⟨1,422,21⟩,⟨1,423,21⟩,⟨1,424,21⟩,⟨1,425,21⟩,⟨1,426,21⟩,⟨1,427,21⟩,⟨1,428,21⟩,⟨1,429,21⟩,⟨1,430,21⟩,⟨1,431,20⟩,⟨1,432,19⟩,⟨1,433,18⟩,⟨1,434,17⟩,⟨1,435,16⟩,⟨1,436,15⟩,⟨1,437,14⟩,⟨1,438,13⟩,⟨1,439,12⟩,⟨1,440,11⟩,⟨1,441,10⟩,⟨1,442,9⟩,⟨1,443,8⟩,⟨1,444,7⟩,⟨1,445,6⟩,⟨1,446,5⟩,⟨1,447,4⟩,⟨1,448,3⟩,⟨1,449,2⟩,⟨1,450,1⟩,⟨2,492,1⟩,⟨2,493,2⟩,⟨2,494,3⟩,⟨2,495,4⟩,⟨2,496,5⟩,⟨2,497,6⟩,⟨2,498,7⟩,⟨2,499,8⟩,⟨2,501,1⟩,⟨2,502,2⟩,⟨2,503,3⟩,⟨2,504,4⟩,⟨2,505,5⟩,⟨2,506,6⟩,⟨2,507,7⟩,⟨2,508,8⟩,⟨2,509,9⟩,⟨2,510,10⟩,⟨2,511,11⟩,⟨2,512,12⟩,⟨2,513,13⟩,⟨2,514,14⟩,⟨2,515,15⟩,⟨2,516,16⟩,⟨2,517,17⟩,⟨2,518,18⟩,⟨2,519,19⟩,⟨2,520,20⟩,⟨2,521,21⟩,⟨2,522,22⟩,⟨2,523,23⟩,⟨2,524,24⟩,⟨2,525,25⟩,⟨2,526,26⟩,⟨2,527,27⟩,⟨2,528,28⟩,⟨2,529,29⟩,⟨2,530,30⟩,⟨2,531,31⟩,⟨2,532,31⟩,⟨2,533,31⟩,⟨2,534,31⟩,⟨2,535,31⟩,⟨2,536,31⟩,⟨2,537,31⟩,⟨2,538,31⟩,⟨2,539,31⟩,⟨2,540,31⟩,⟨2,541,31⟩,⟨2,542,31⟩,⟨2,543,31⟩,⟨2,544,31⟩,⟨2,545,31⟩,⟨2,546,31⟩,⟨2,547,31⟩,⟨2,548,31⟩,⟨2,549,31⟩,⟨2,550,31⟩,⟨2,551,30⟩,⟨2,552,29⟩,⟨2,553,28⟩,⟨2,554,27⟩,⟨2,555,26⟩,⟨2,556,25⟩,⟨2,557,24⟩,⟨2,558,23⟩,⟨2,559,22⟩])
def ex88:List Arv × List Cnt:=([⟨0,300,0,0,-1,0⟩,⟨1,400,0,300,0,300⟩,⟨1,401,0,300,0,300⟩,⟨1,402,0,300,0,300⟩,⟨1,403,0,300,0,300⟩,⟨1,404,0,300,0,300⟩,⟨1,405,0,300,0,300⟩,⟨1,406,0,300,0,300⟩,⟨1,407,0,300,0,300⟩,⟨1,408,0,300,0,300⟩,⟨1,409,0,300,0,300⟩,⟨1,410,0,300,0,300⟩,⟨1,411,0,300,0,300⟩,⟨1,412,0,300,0,300⟩,⟨1,413,0,300,0,300⟩,⟨1,414,0,300,0,300⟩,⟨1,415,0,300,0,300⟩,⟨1,416,0,300,0,300⟩,⟨1,417,0,300,0,300⟩,⟨1,418,0,300,0,300⟩,⟨1,419,0,300,0,300⟩,⟨1,420,0,300,0,300⟩,⟨2,492,1,400,1,420⟩,⟨2,493,1,400,1,420⟩,⟨2,494,1,400,1,420⟩,⟨2,495,1,400,1,420⟩,⟨2,496,1,400,1,420⟩,⟨2,497,1,400,1,420⟩,⟨2,498,1,400,1,420⟩,⟨2,499,1,400,1,420⟩,⟨2,501,1,400,1,420⟩,⟨2,502,1,400,1,420⟩,⟨2,503,1,400,1,420⟩,⟨2,504,1,400,1,420⟩,⟨2,505,1,400,1,420⟩,⟨2,506,1,400,1,420⟩,⟨2,507,1,400,1,420⟩,⟨2,508,1,400,1,420⟩,⟨2,509,1,400,1,420⟩,⟨2,510,1,400,1,420⟩,⟨2,511,1,400,1,420⟩,⟨2,512,1,400,1,420⟩,⟨2,513,1,400,1,420⟩,⟨2,514,1,400,1,420⟩,⟨2,515,1,400,1,420⟩,⟨2,516,1,400,1,420⟩,⟨2,517,1,400,1,420⟩,⟨2,518,1,400,1,420⟩,⟨2,519,1,400,1,420⟩,⟨2,520,1,400,1,420⟩,⟨2,521,1,400,1,420⟩,⟨2,522,1,400,1,420⟩,⟨2,523,1,400,1,420⟩,⟨2,524,1,400,1,420⟩,⟨2,525,1,400,1,420⟩,⟨2,526,1,400,1,420⟩,⟨2,527,1,400,1,420⟩,⟨2,528,1,400,1,420⟩,⟨2,529,1,400,1,420⟩,⟨2,530,1,400,1,420⟩,⟨2,531,1,400,1,420⟩,⟨2,532,1,400,1,420⟩,⟨2,533,1,400,1,420⟩,⟨2,534,1,400,1,420⟩,⟨2,535,1,400,1,420⟩,⟨2,536,1,400,1,420⟩,⟨2,537,1,400,1,420⟩,⟨2,538,1,400,1,420⟩,⟨2,539,1,400,1,420⟩,⟨2,540,1,400,1,420⟩,⟨2,541,1,400,1,420⟩,⟨2,542,1,400,1,420⟩,⟨2,543,1,400,1,420⟩,⟨2,544,1,400,1,420⟩,⟨2,545,1,400,1,420⟩,⟨2,546,1,400,1,420⟩,⟨2,547,1,400,1,420⟩,⟨2,548,1,400,1,420⟩,⟨2,549,1,400,1,420⟩,⟨2,550,1,400,1,420⟩,⟨2,551,1,400,1,420⟩,⟨2,552,1,400,1,420⟩,⟨2,553,1,400,1,420⟩,⟨2,554,1,400,1,420⟩,⟨2,555,1,400,1,420⟩,⟨2,556,1,400,1,421⟩,⟨2,557,1,400,1,422⟩,⟨2,558,1,400,1,423⟩,⟨2,559,1,400,1,424⟩,⟨3,552,2,492,2,492⟩,⟨3,553,2,492,2,493⟩,⟨3,554,2,492,2,494⟩,⟨3,555,2,492,2,495⟩,⟨3,556,2,492,2,496⟩,⟨3,557,2,492,2,497⟩,⟨3,558,2,492,2,498⟩,⟨3,559,2,492,2,499⟩],[⟨0,300,1⟩,⟨0,301,1⟩,⟨0,302,1⟩,⟨0,303,1⟩,⟨0,304,1⟩,⟨0,305,1⟩,⟨0,306,1⟩,⟨0,307,1⟩,⟨0,308,1⟩,⟨0,309,1⟩,⟨0,310,1⟩,⟨0,311,1⟩,⟨0,312,1⟩,⟨0,313,1⟩,⟨0,314,1⟩,⟨0,315,1⟩,⟨0,316,1⟩,⟨0,317,1⟩,⟨0,318,1⟩,⟨0,319,1⟩,⟨0,320,1⟩,⟨0,321,1⟩,⟨0,322,1⟩,⟨0,323,1⟩,⟨0,324,1⟩,⟨0,325,1⟩,⟨0,326,1⟩,⟨0,327,1⟩,⟨0,328,1⟩,⟨0,329,1⟩,⟨0,330,1⟩,⟨1,400,1⟩,⟨1,401,2⟩,⟨1,402,3⟩,⟨1,403,4⟩,⟨1,404,5⟩,⟨1,405,6⟩,⟨1,406,7⟩,⟨1,407,8⟩,⟨1,408,9⟩,⟨1,409,10⟩,⟨1,410,11⟩,⟨1,411,12⟩,⟨1,412,13⟩,⟨1,413,14⟩,⟨1,414,15⟩,⟨1,415,16⟩,⟨1,416,17⟩,⟨1,417,18⟩,⟨1,418,19⟩,⟨1,419,20⟩,⟨1,420,21⟩,⟨1,421,21⟩,⟨1,422,21⟩,⟨1,423,21⟩,⟨1,424,21⟩,⟨1,425,21⟩,⟨1,426,21⟩,⟨1,427,21⟩,⟨1,428,21⟩,⟨1,429,21⟩,⟨1,430,21⟩,⟨1,431,20⟩,⟨1,432,19⟩,⟨1,433,18⟩,⟨1,434,17⟩,⟨1,435,16⟩,⟨1,436,15⟩,⟨1,437,14⟩,⟨1,438,13⟩,⟨1,439,12⟩,⟨1,440,11⟩,⟨1,441,10⟩,⟨1,442,9⟩,⟨1,443,8⟩,⟨1,444,7⟩,⟨1,445,6⟩,⟨1,446,5⟩,⟨1,447,4⟩,⟨1,448,3⟩,⟨1,449,2⟩,⟨1,450,1⟩,⟨2,492,1⟩,⟨2,493,2⟩,⟨2,494,3⟩,⟨2,495,4⟩,⟨2,496,5⟩,⟨2,497,6⟩,⟨2,498,7⟩,⟨2,499,8⟩,⟨2,501,1⟩,⟨2,502,2⟩,⟨2,503,3⟩,⟨2,504,4⟩,⟨2,505,5⟩,⟨2,506,6⟩,⟨2,507,7⟩,⟨2,508,8⟩,⟨2,509,9⟩,⟨2,510,10⟩,⟨2,511,11⟩,⟨2,512,12⟩,⟨2,513,13⟩,⟨2,514,14⟩,⟨2,515,15⟩,⟨2,516,16⟩,⟨2,517,17⟩,⟨2,518,18⟩,⟨2,519,19⟩,⟨2,520,20⟩,⟨2,521,21⟩,⟨2,522,22⟩,⟨2,523,23⟩,⟨2,524,24⟩,⟨2,525,25⟩,⟨2,526,26⟩,⟨2,527,27⟩,⟨2,528,28⟩,⟨2,529,29⟩,⟨2,530,30⟩,⟨2,531,31⟩,⟨2,532,31⟩,⟨2,533,31⟩,⟨2,534,31⟩,⟨2,535,31⟩,⟨2,536,31⟩,⟨2,537,31⟩,⟨2,538,31⟩,⟨2,539,31⟩,⟨2,540,31⟩,⟨2,541,31⟩,⟨2,542,31⟩,⟨2,543,31⟩,⟨2,544,31⟩,⟨2,545,31⟩,⟨2,546,31⟩,⟨2,547,31⟩,⟨2,548,31⟩,⟨2,549,31⟩,⟨2,550,31⟩,⟨2,551,31⟩,⟨2,552,31⟩,⟨2,553,31⟩,⟨2,554,31⟩,⟨2,555,31⟩,⟨2,556,31⟩,⟨2,557,31⟩,⟨2,558,31⟩,⟨2,559,30⟩])
def ex96:List Arv × List Cnt:=([⟨0,300,0,0,-1,0⟩,⟨1,400,0,300,0,300⟩,⟨1,401,0,300,0,300⟩,⟨1,402,0,300,0,300⟩,⟨1,403,0,300,0,300⟩,⟨1,404,0,300,0,300⟩,⟨1,405,0,300,0,300⟩,⟨1,406,0,300,0,300⟩,⟨1,407,0,300,0,300⟩,⟨1,408,0,300,0,300⟩,⟨1,409,0,300,0,300⟩,⟨1,410,0,300,0,300⟩,⟨1,411,0,300,0,300⟩,⟨1,412,0,300,0,300⟩,⟨1,413,0,300,0,300⟩,⟨1,414,0,300,0,300⟩,⟨1,415,0,300,0,300⟩,⟨1,416,0,300,0,300⟩,⟨1,417,0,300,0,300⟩,⟨1,418,0,300,0,300⟩,⟨1,419,0,300,0,300⟩,⟨1,420,0,300,0,300⟩,⟨2,492,1,400,1,420⟩,⟨2,493,1,400,1,420⟩,⟨2,494,1,400,1,420⟩,⟨2,495,1,400,1,420⟩,⟨2,496,1,400,1,420⟩,⟨2,497,1,400,1,420⟩,⟨2,498,1,400,1,420⟩,⟨2,499,1,400,1,420⟩,⟨2,501,1,400,1,420⟩,⟨2,502,1,400,1,420⟩,⟨2,503,1,400,1,420⟩,⟨2,504,1,400,1,420⟩,⟨2,505,1,400,1,420⟩,⟨2,506,1,400,1,420⟩,⟨2,507,1,400,1,420⟩,⟨2,508,1,400,1,420⟩,⟨2,509,1,400,1,420⟩,⟨2,510,1,400,1,420⟩,⟨2,511,1,400,1,420⟩,⟨2,512,1,400,1,420⟩,⟨2,513,1,400,1,420⟩,⟨2,514,1,400,1,420⟩,⟨2,515,1,400,1,420⟩,⟨2,516,1,400,1,420⟩,⟨2,517,1,400,1,420⟩,⟨2,518,1,400,1,420⟩,⟨2,519,1,400,1,420⟩,⟨2,520,1,400,1,420⟩,⟨2,521,1,400,1,420⟩,⟨2,522,1,400,1,420⟩,⟨2,523,1,400,1,420⟩,⟨2,524,1,400,1,420⟩,⟨2,525,1,400,1,420⟩,⟨2,526,1,400,1,420⟩,⟨2,527,1,400,1,420⟩,⟨2,528,1,400,1,420⟩,⟨2,529,1,400,1,420⟩,⟨2,530,1,400,1,420⟩,⟨2,531,1,400,1,420⟩,⟨2,532,1,400,1,420⟩,⟨2,533,1,400,1,420⟩,⟨2,534,1,400,1,420⟩,⟨2,535,1,400,1,420⟩,⟨2,536,1,400,1,420⟩,⟨2,537,1,400,1,420⟩,⟨2,538,1,400,1,420⟩,⟨2,539,1,400,1,420⟩,⟨2,540,1,400,1,420⟩,⟨2,541,1,400,1,420⟩,⟨2,542,1,400,1,420⟩,⟨2,543,1,400,1,420⟩,⟨2,544,1,400,1,420⟩,⟨2,545,1,400,1,420⟩,⟨2,546,1,400,1,420⟩,⟨2,547,1,400,1,420⟩,⟨2,548,1,400,1,420⟩,⟨2,549,1,400,1,420⟩,⟨2,550,1,400,1,420⟩,⟨2,551,1,400,1,420⟩,⟨2,552,1,400,1,420⟩,⟨2,553,1,400,1,420⟩,⟨2,554,1,400,1,420⟩,⟨2,555,1,400,1,420⟩,⟨2,556,1,400,1,421⟩,⟨2,557,1,400,1,422⟩,⟨2,558,1,400,1,423⟩,⟨2,559,1,400,1,424⟩,⟨3,552,2,492,2,492⟩,⟨3,553,2,492,2,493⟩,⟨3,554,2,492,2,494⟩,⟨3,555,2,492,2,495⟩,⟨3,556,2,492,2,496⟩,⟨3,557,2,492,2,497⟩,⟨3,558,2,492,2,498⟩,⟨3,559,2,492,2,499⟩],[⟨0,300,1⟩,⟨0,301,1⟩,⟨0,302,1⟩,⟨0,303,1⟩,⟨0,304,1⟩,⟨0,305,1⟩,⟨0,306,1⟩,⟨0,307,1⟩,⟨0,308,1⟩,⟨0,309,1⟩,⟨0,310,1⟩,⟨0,311,1⟩,⟨0,312,1⟩,⟨0,313,1⟩,⟨0,314,1⟩,⟨0,315,1⟩,⟨0,316,1⟩,⟨0,317,1⟩,⟨0,318,1⟩,⟨0,319,1⟩,⟨0,320,1⟩,⟨0,321,1⟩,⟨0,322,1⟩,⟨0,323,1⟩,⟨0,324,1⟩,⟨0,325,1⟩,⟨0,326,1⟩,⟨0,327,1⟩,⟨0,328,1⟩,⟨0,329,1⟩,⟨0,330,1⟩,⟨1,400,1⟩,⟨1,401,2⟩,⟨1,402,3⟩,⟨1,403,4⟩,⟨1,404,5⟩,⟨1,405,6⟩,⟨1,406,7⟩,⟨1,407,8⟩,⟨1,408,9⟩,⟨1,409,10⟩,⟨1,410,11⟩,⟨1,411,12⟩,⟨1,412,13⟩,⟨1,413,14⟩,⟨1,414,15⟩,⟨1,415,16⟩,⟨1,416,17⟩,⟨1,417,18⟩,⟨1,418,19⟩,⟨1,419,20⟩,⟨1,420,21⟩,⟨1,421,21⟩,⟨1,422,21⟩,⟨1,423,21⟩,⟨1,424,21⟩,⟨1,425,21⟩,⟨1,426,21⟩,⟨1,427,21⟩,⟨1,428,21⟩,⟨1,429,21⟩,⟨1,430,21⟩,⟨1,431,20⟩,⟨1,432,19⟩,⟨1,433,18⟩,⟨1,434,17⟩,⟨1,435,16⟩,⟨1,436,15⟩,⟨1,437,14⟩,⟨1,438,13⟩,⟨1,439,12⟩,⟨1,440,11⟩,⟨1,441,10⟩,⟨1,442,9⟩,⟨1,443,8⟩,⟨1,444,7⟩,⟨1,445,6⟩,⟨1,446,5⟩,⟨1,447,4⟩,⟨1,448,3⟩,⟨1,449,2⟩,⟨1,450,1⟩,⟨2,492,1⟩,⟨2,493,2⟩,⟨2,494,3⟩,⟨2,495,4⟩,⟨2,496,5⟩,⟨2,497,6⟩,⟨2,498,7⟩,⟨2,499,8⟩,⟨2,501,1⟩,⟨2,502,2⟩,⟨2,503,3⟩,⟨2,504,4⟩,⟨2,505,5⟩,⟨2,506,6⟩,⟨2,507,7⟩,⟨2,508,8⟩,⟨2,509,9⟩,⟨2,510,10⟩,⟨2,511,11⟩,⟨2,512,12⟩,⟨2,513,13⟩,⟨2,514,14⟩,⟨2,515,15⟩,⟨2,516,16⟩,⟨2,517,17⟩,⟨2,518,18⟩,⟨2,519,19⟩,⟨2,520,20⟩,⟨2,521,21⟩,⟨2,522,22⟩,⟨2,523,23⟩,⟨2,524,24⟩,⟨2,525,25⟩,⟨2,526,26⟩,⟨2,527,27⟩,⟨2,528,28⟩,⟨2,529,29⟩,⟨2,530,30⟩,⟨2,531,31⟩,⟨2,532,31⟩,⟨2,533,31⟩,⟨2,534,31⟩,⟨2,535,31⟩,⟨2,536,31⟩,⟨2,537,31⟩,⟨2,538,31⟩,⟨2,539,31⟩,⟨2,540,31⟩,⟨2,541,31⟩,⟨2,542,31⟩,⟨2,543,31⟩,⟨2,544,31⟩,⟨2,545,31⟩,⟨2,546,31⟩,⟨2,547,31⟩,⟨2,548,31⟩,⟨2,549,31⟩,⟨2,550,31⟩,⟨2,551,31⟩,⟨2,552,31⟩,⟨2,553,31⟩,⟨2,554,31⟩,⟨2,555,31⟩,⟨2,556,31⟩,⟨2,557,31⟩,⟨2,558,31⟩,⟨2,559,31⟩,⟨3,552,1⟩,⟨3,553,2⟩,⟨3,554,3⟩,⟨3,555,4⟩,⟨3,556,5⟩,⟨3,557,6⟩,⟨3,558,7⟩,⟨3,559,7⟩,⟨3,560,7⟩,⟨3,561,7⟩,⟨3,562,7⟩,⟨3,563,7⟩,⟨3,564,7⟩,⟨3,565,7⟩,⟨3,566,7⟩,⟨3,567,7⟩,⟨3,568,7⟩,⟨3,569,7⟩,⟨3,570,7⟩,⟨3,571,7⟩,⟨3,572,7⟩,⟨3,573,7⟩,⟨3,574,7⟩,⟨3,575,7⟩,⟨3,576,7⟩,⟨3,577,7⟩,⟨3,578,7⟩,⟨3,579,7⟩,⟨3,580,7⟩,⟨3,581,7⟩,⟨3,582,7⟩,⟨3,583,6⟩,⟨3,584,5⟩,⟨3,585,4⟩,⟨3,586,3⟩,⟨3,587,2⟩,⟨3,588,1⟩])
def ex104:List Arv × List Cnt:=([⟨0,300,0,0,-1,0⟩,⟨1,400,0,300,0,300⟩,⟨1,401,0,300,0,300⟩,⟨1,402,0,300,0,300⟩,⟨1,403,0,300,0,300⟩,⟨1,404,0,300,0,300⟩,⟨1,405,0,300,0,300⟩,⟨1,406,0,300,0,300⟩,⟨1,407,0,300,0,300⟩,⟨1,408,0,300,0,300⟩,⟨1,409,0,300,0,300⟩,⟨1,410,0,300,0,300⟩,⟨1,411,0,300,0,300⟩,⟨1,412,0,300,0,300⟩,⟨1,413,0,300,0,300⟩,⟨1,414,0,300,0,300⟩,⟨1,415,0,300,0,300⟩,⟨1,416,0,300,0,300⟩,⟨1,417,0,300,0,300⟩,⟨1,418,0,300,0,300⟩,⟨1,419,0,300,0,300⟩,⟨1,420,0,300,0,300⟩,⟨2,492,1,400,1,420⟩,⟨2,493,1,400,1,420⟩,⟨2,494,1,400,1,420⟩,⟨2,495,1,400,1,420⟩,⟨2,496,1,400,1,420⟩,⟨2,497,1,400,1,420⟩,⟨2,498,1,400,1,420⟩,⟨2,499,1,400,1,420⟩,⟨2,501,1,400,1,420⟩,⟨2,502,1,400,1,420⟩,⟨2,503,1,400,1,420⟩,⟨2,504,1,400,1,420⟩,⟨2,505,1,400,1,420⟩,⟨2,506,1,400,1,420⟩,⟨2,507,1,400,1,420⟩,⟨2,508,1,400,1,420⟩,⟨2,509,1,400,1,420⟩,⟨2,510,1,400,1,420⟩,⟨2,511,1,400,1,420⟩,⟨2,512,1,400,1,420⟩,⟨2,513,1,400,1,420⟩,⟨2,514,1,400,1,420⟩,⟨2,515,1,400,1,420⟩,⟨2,516,1,400,1,420⟩,⟨2,517,1,400,1,420⟩,⟨2,518,1,400,1,420⟩,⟨2,519,1,400,1,420⟩,⟨2,520,1,400,1,420⟩,⟨2,521,1,400,1,420⟩,⟨2,522,1,400,1,420⟩,⟨2,523,1,400,1,420⟩,⟨2,524,1,400,1,420⟩,⟨2,525,1,400,1,420⟩,⟨2,526,1,400,1,420⟩,⟨2,527,1,400,1,420⟩,⟨2,528,1,400,1,420⟩,⟨2,529,1,400,1,420⟩,⟨2,530,1,400,1,420⟩,⟨2,531,1,400,1,420⟩,⟨2,532,1,400,1,420⟩,⟨2,533,1,400,1,420⟩,⟨2,534,1,400,1,420⟩,⟨2,535,1,400,1,420⟩,⟨2,536,1,400,1,420⟩,⟨2,537,1,400,1,420⟩,⟨2,538,1,400,1,420⟩,⟨2,539,1,400,1,420⟩,⟨2,540,1,400,1,420⟩,⟨2,541,1,400,1,420⟩,⟨2,542,1,400,1,420⟩,⟨2,543,1,400,1,420⟩,⟨2,544,1,400,1,420⟩,⟨2,545,1,400,1,420⟩,⟨2,546,1,400,1,420⟩,⟨2,547,1,400,1,420⟩,⟨2,548,1,400,1,420⟩,⟨2,549,1,400,1,420⟩,⟨2,550,1,400,1,420⟩,⟨2,551,1,400,1,420⟩,⟨2,552,1,400,1,420⟩,⟨2,553,1,400,1,420⟩,⟨2,554,1,400,1,420⟩,⟨2,555,1,400,1,420⟩,⟨2,556,1,400,1,421⟩,⟨2,557,1,400,1,422⟩,⟨2,558,1,400,1,423⟩,⟨2,559,1,400,1,424⟩,⟨3,552,2,492,2,492⟩,⟨3,553,2,492,2,493⟩,⟨3,554,2,492,2,494⟩,⟨3,555,2,492,2,495⟩,⟨3,556,2,492,2,496⟩,⟨3,557,2,492,2,497⟩,⟨3,558,2,492,2,498⟩,⟨3,559,2,492,2,499⟩],[⟨0,300,1⟩,⟨0,301,1⟩,⟨0,302,1⟩,⟨0,303,1⟩,⟨0,304,1⟩,⟨0,305,1⟩,⟨0,306,1⟩,⟨0,307,1⟩,⟨0,308,1⟩,⟨0,309,1⟩,⟨0,310,1⟩,⟨0,311,1⟩,⟨0,312,1⟩,⟨0,313,1⟩,⟨0,314,1⟩,⟨0,315,1⟩,⟨0,316,1⟩,⟨0,317,1⟩,⟨0,318,1⟩,⟨0,319,1⟩,⟨0,320,1⟩,⟨0,321,1⟩,⟨0,322,1⟩,⟨0,323,1⟩,⟨0,324,1⟩,⟨0,325,1⟩,⟨0,326,1⟩,⟨0,327,1⟩,⟨0,328,1⟩,⟨0,329,1⟩,⟨0,330,1⟩,⟨1,400,1⟩,⟨1,401,2⟩,⟨1,402,3⟩,⟨1,403,4⟩,⟨1,404,5⟩,⟨1,405,6⟩,⟨1,406,7⟩,⟨1,407,8⟩,⟨1,408,9⟩,⟨1,409,10⟩,⟨1,410,11⟩,⟨1,411,12⟩,⟨1,412,13⟩,⟨1,413,14⟩,⟨1,414,15⟩,⟨1,415,16⟩,⟨1,416,17⟩,⟨1,417,18⟩,⟨1,418,19⟩,⟨1,419,20⟩,⟨1,420,21⟩,⟨1,421,21⟩,⟨1,422,21⟩,⟨1,423,21⟩,⟨1,424,21⟩,⟨1,425,21⟩,⟨1,426,21⟩,⟨1,427,21⟩,⟨1,428,21⟩,⟨1,429,21⟩,⟨1,430,21⟩,⟨1,431,20⟩,⟨1,432,19⟩,⟨1,433,18⟩,⟨1,434,17⟩,⟨1,435,16⟩,⟨1,436,15⟩,⟨1,437,14⟩,⟨1,438,13⟩,⟨1,439,12⟩,⟨1,440,11⟩,⟨1,441,10⟩,⟨1,442,9⟩,⟨1,443,8⟩,⟨1,444,7⟩,⟨1,445,6⟩,⟨1,446,5⟩,⟨1,447,4⟩,⟨1,448,3⟩,⟨1,449,2⟩,⟨1,450,1⟩,⟨2,492,1⟩,⟨2,493,2⟩,⟨2,494,3⟩,⟨2,495,4⟩,⟨2,496,5⟩,⟨2,497,6⟩,⟨2,498,7⟩,⟨2,499,8⟩,⟨2,501,1⟩,⟨2,502,2⟩,⟨2,503,3⟩,⟨2,504,4⟩,⟨2,505,5⟩,⟨2,506,6⟩,⟨2,507,7⟩,⟨2,508,8⟩,⟨2,509,9⟩,⟨2,510,10⟩,⟨2,511,11⟩,⟨2,512,12⟩,⟨2,513,13⟩,⟨2,514,14⟩,⟨2,515,15⟩,⟨2,516,16⟩,⟨2,517,17⟩,⟨2,518,18⟩,⟨2,519,19⟩,⟨2,520,20⟩,⟨2,521,21⟩,⟨2,522,22⟩,⟨2,523,23⟩,⟨2,524,24⟩,⟨2,525,25⟩,⟨2,526,26⟩,⟨2,527,27⟩,⟨2,528,28⟩,⟨2,529,29⟩,⟨2,530,30⟩,⟨2,531,31⟩,⟨2,532,31⟩,⟨2,533,31⟩,⟨2,534,31⟩,⟨2,535,31⟩,⟨2,536,31⟩,⟨2,537,31⟩,⟨2,538,31⟩,⟨2,539,31⟩,⟨2,540,31⟩,⟨2,541,31⟩,⟨2,542,31⟩,⟨2,543,31⟩,⟨2,544,31⟩,⟨2,545,31⟩,⟨2,546,31⟩,⟨2,547,31⟩,⟨2,548,31⟩,⟨2,549,31⟩,⟨2,550,31⟩,⟨2,551,31⟩,⟨2,552,31⟩,⟨2,553,31⟩,⟨2,554,31⟩,⟨2,555,31⟩,⟨2,556,31⟩,⟨2,557,31⟩,⟨2,558,31⟩,⟨2,559,31⟩,⟨3,552,1⟩,⟨3,553,2⟩,⟨3,554,3⟩,⟨3,555,4⟩,⟨3,556,5⟩,⟨3,557,6⟩,⟨3,558,7⟩,⟨3,559,8⟩,⟨3,560,8⟩,⟨3,561,8⟩,⟨3,562,8⟩,⟨3,563,8⟩,⟨3,564,8⟩,⟨3,565,8⟩,⟨3,566,8⟩,⟨3,567,8⟩,⟨3,568,8⟩,⟨3,569,8⟩,⟨3,570,8⟩,⟨3,571,8⟩,⟨3,572,8⟩,⟨3,573,8⟩,⟨3,574,8⟩,⟨3,575,8⟩,⟨3,576,8⟩,⟨3,577,8⟩,⟨3,578,8⟩,⟨3,579,8⟩,⟨3,580,8⟩,⟨3,581,8⟩,⟨3,582,8⟩,⟨3,583,7⟩,⟨3,584,6⟩,⟨3,585,5⟩,⟨3,586,4⟩,⟨3,587,3⟩,⟨3,588,2⟩,⟨3,589,1⟩])
theorem exs8:goF exN exM 8 0 ex0=ex8:=by decide +kernel
theorem exs16:goF exN exM 8 8 ex8=ex16:=by decide +kernel
theorem exs24:goF exN exM 8 16 ex16=ex24:=by decide +kernel
theorem exs32:goF exN exM 8 24 ex24=ex32:=by decide +kernel
theorem exs40:goF exN exM 8 32 ex32=ex40:=by decide +kernel
theorem exs48:goF exN exM 8 40 ex40=ex48:=by decide +kernel
theorem exs56:goF exN exM 8 48 ex48=ex56:=by decide +kernel
theorem exs64:goF exN exM 8 56 ex56=ex64:=by decide +kernel
theorem exs72:goF exN exM 8 64 ex64=ex72:=by decide +kernel
theorem exs80:goF exN exM 8 72 ex72=ex80:=by decide +kernel
theorem exs88:goF exN exM 8 80 ex80=ex88:=by decide +kernel
theorem exs96:goF exN exM 8 88 ex88=ex96:=by decide +kernel
theorem z1184:goF exN exM 8 96 ex96=ex104:=by decide +kernel
theorem z1116:startA exM=ex0.1:=by decide +kernel
theorem z1036:huntedA exN exM=ex104.1:=by
 rw [huntedA,show boundN exN exM + 1=1101 + 8 + 8 + 8 + 8 + 8 + 8 + 8 + 8 + 8 + 8 + 8 + 8 + 8 by decide +kernel,z1116,show (ex0.1,([]:List Cnt))=ex0 from rfl]
 rw [z41 8 0,exs8,show 0 + 8=8 from rfl]
 rw [z41 8 8,exs16,show 8 + 8=16 from rfl]
 rw [z41 8 16,exs24,show 16 + 8=24 from rfl]
 rw [z41 8 24,exs32,show 24 + 8=32 from rfl]
 rw [z41 8 32,exs40,show 32 + 8=40 from rfl]
 rw [z41 8 40,exs48,show 40 + 8=48 from rfl]
 rw [z41 8 48,exs56,show 48 + 8=56 from rfl]
 rw [z41 8 56,exs64,show 56 + 8=64 from rfl]
 rw [z41 8 64,exs72,show 64 + 8=72 from rfl]
 rw [z41 8 72,exs80,show 72 + 8=80 from rfl]
 rw [z41 8 80,exs88,show 80 + 8=88 from rfl]
 rw [z41 8 88,exs96,show 88 + 8=96 from rfl]
 rw [z41 8 96,z1184,show 96 + 8=104 from rfl]
 rw [z290 (show ex104.1[104]?=none by decide +kernel)]
theorem z202 {α β γ:Type} (g:γ→β→γ) (f:α→List β):∀ (l:List α) (c:γ),(l.flatMap f).foldl g c=l.foldl (fun c a=>(f a).foldl g c) c
 | [],c=>rfl
 | a::l,c=>by rw [List.flatMap_cons,List.foldl_append,z202 g f l,List.foldl_cons]
theorem z1068:tallyE exN (endsL exN exM (huntedA exN exM))=([0,0,0,8],[0,0,0,0,212]):=by
 rw [z1036,tallyE,endsL,z202]
 decide +kernel
end Go.Ab
namespace Go.Ab
open Go.RowKit Go.Proofs
set_option maxHeartbeats 8000000
set_option maxRecDepth 20000
attribute [local irreducible] WalkL Walk
theorem z1140:openX exN exM=0:=by decide +kernel
theorem z1088:posL [0,0,0,8]=[3]:=by decide +kernel
theorem z1087:posL [0,0,0,0,212]=[4]:=by decide +kernel
theorem z1062:whereC exN exM=([3],[4],0):=by
 rw [whereC,if_neg (by rw [z1140];simp),whereP,whereW,z1068,z1088,z1087,if_neg (by simp)]
theorem z1082:routeL exN exP 0 300 3=([0,1,2],615,0):=by kernel_rfl
theorem z1042:fewest exN exP 0 300 3 (getI (arrivalsL exN exP spanHi 0 300 (-1)) 3)=((3:Nat):Int):=by kernel_rfl
theorem zf8:Fn Try.prog 8 [] (.bool true):=by
 have h9:=zf9 exN exP 0 300 3 z537 (fun _ _=>⟨3,z1042,by decide⟩)
 have h12:=zf12 exN exM z537 (by decide)
 have h17:=zf17 exN exP 0 3 z537
 have h22:=zf22
 rw [z1082] at h9
 rw [whereD,z1062] at h12
 rw [z1169] at h17
 rw [Missed.row,exM] at h12 h22
 obtain ⟨N,hN⟩:∃ N,N=exN:=⟨_,rfl⟩
 obtain ⟨p,hp⟩:∃ p,p=exP:=⟨_,rfl⟩
 rw [← hN,← hp] at *
 rw [Net.cells] at *
 rw [Party.cells] at *
 refine z12 67 Try.call8 Try.func8 rfl (by decide) fun J=>?_
 simp only [go_sem,St.start,Try.ntmps8,Try.results8,]
 repeat (first | refine nx ?_ | (refine z3 fun K hK=>?_;simp only [go_sem,intRows,List.map_cons,List.map_nil];(repeat (first | (refine ⟨_,.lent (hf:=h22) (hd:=rfl) (hr:=rfl),?_⟩;simp only [go_sem,intRows,List.map_cons,List.map_nil]) | (refine ⟨_,.lent (hf:=h12) (hd:=rfl) (hr:=rfl),?_⟩;simp only [go_sem,intRows,List.map_cons,List.map_nil]) | (refine ⟨_,.lent (hf:=h17) (hd:=rfl) (hr:=rfl),?_⟩;simp only [go_sem,intRows,List.map_cons,List.map_nil]) | (refine ⟨_,.lent (hf:=h9) (hd:=rfl) (hr:=rfl),?_⟩;simp only [go_sem,intRows,List.map_cons,List.map_nil]) | (refine ⟨_,.given (hf:=h22) (hd:=rfl) (ha:=rfl),?_⟩;simp only [go_sem,intRows,List.map_cons,List.map_nil]) | (refine ⟨_,.given (hf:=h12) (hd:=rfl) (ha:=rfl),?_⟩;simp only [go_sem,intRows,List.map_cons,List.map_nil]) | (refine ⟨_,.given (hf:=h17) (hd:=rfl) (ha:=rfl),?_⟩;simp only [go_sem,intRows,List.map_cons,List.map_nil]) | (refine ⟨_,.given (hf:=h9) (hd:=rfl) (ha:=rfl),?_⟩;simp only [go_sem,intRows,List.map_cons,List.map_nil])));apply hK;clear hK K))
 simp only [go_sem]
end Go.Ab
namespace Go.Ab
open Go.RowKit Go.Proofs
set_option maxHeartbeats 8000000
set_option maxRecDepth 20000
attribute [local irreducible] WalkL Walk
def overLaw (n:Net) (x:Hike):Prop:=∀ r:List Int,Hunted n x.m→x.m.clues=[]→(∃ u,Trail n x.m.party x.m.place x.m.start r x.to u)→(hikedF n x r).2.2=true →
 (whereC n x.m).2.2=0∧(if (hikedF n x r).2.1<0 then (whereC n x.m).1.any (fun y=>y == (hikedF n x r).1) else (whereC n x.m).2.1.any (fun y=>y == (hikedF n x r).2.1))=true
theorem z547 {n:Net} {x:Missed} (hs:n.Small):(whereC n x).1.length<2 ^ 30∧(whereC n x).2.1.length<2 ^ 30:=by
 have hp:∀ l:List Int,(posL l).length≤l.length:=fun l=>z849 _ _
 have ht:=z132 (endsL n x (huntedA n x)) (List.replicate n.places.toNat 0,List.replicate n.paths.length 0)
 rw [← tallyE] at ht
 simp only [List.length_replicate] at ht
 have h1:=hp (tallyE n (endsL n x (huntedA n x))).1
 have h2:=hp (tallyE n (endsL n x (huntedA n x))).2
 have h3:=hs.paths
 rw [whereC]
 split
 ·exact ⟨Nat.two_pow_pos 30,Nat.two_pow_pos 30⟩
 ·rename_i ho
  have ho:openX n x=0:=Classical.not_not.1 ho
  have hk:checkPartyF n x.party=0:=by
   rw [openX] at ho
   split at ho
   ·rename_i h1;exact absurd ho h1
   ·rename_i h1;exact Classical.not_not.1 h1
  have hg:=(z205.1 hk).1.places
  split
  ·exact ⟨Nat.two_pow_pos 30,Nat.two_pow_pos 30⟩
  ·exact ⟨by dsimp only;rw [whereP];omega,by dsimp only;rw [whereW];have:=(z205.1 hk).1.paths;omega⟩
theorem zf3 (n:Net) (x:Hike) (hs:n.Small) (hl:x.m.clues.length<2 ^ 30) (ht:x.times.length<2 ^ 30) (law:openX n x.m=0→overLaw n x):Fn Try.prog 3 [.agg n.cells,.agg x.row] (.bool true):=by
 have h5:=zf5 n x.m hs hl
 have h6:=zf6 n x.m hs hl
 have h9:=f9' n x.m.party x.m.place x.m.start x.to hs
 have h12:=zf12 n x.m hs hl
 rw [Net.cells] at h5 h6 h9 h12
 rw [Missed.row] at h5 h6 h12
 rw [Party.cells] at h9
 have htl:=z16 x.times
 refine z12 127 Try.call3 Try.func3 rfl (by decide) fun J=>?_
 simp only [go_sem,St.start,Try.ntmps3,Try.results3,Net.cells,Hike.row,Missed.row,List.cons_append,List.nil_append]
 cases hf:farX n x.m
 ·rw [hf] at h5
  by_cases ho:openX n x.m=0
  ·have hx:=z327 hl ho
   have h7:=zf7 n x.to (by have:=hx.net.places;omega)
   rw [Net.cells] at h7
   rw [ho] at h6
   by_cases hc:(x.m.clues.length:Int) > 0
   ·repeat (first | refine nx ?_ | (refine z3 fun K hK=>?_;simp only [go_sem,hc];(repeat (first | (refine ⟨_,.lent (hf:=h5) (hd:=rfl) (hr:=rfl),?_⟩;simp only [go_sem,hc]) | (refine ⟨_,.lent (hf:=h6) (hd:=rfl) (hr:=rfl),?_⟩;simp only [go_sem,hc]) | (refine ⟨_,.given (hf:=h5) (hd:=rfl) (ha:=rfl),?_⟩;simp only [go_sem,hc]) | (refine ⟨_,.given (hf:=h6) (hd:=rfl) (ha:=rfl),?_⟩;simp only [go_sem,hc])));apply hK;clear hK K))
    refine z10 rfl ?_
    repeat (first | refine nx ?_ | (refine z3 fun K hK=>?_;simp only [go_sem];(repeat (first | (refine ⟨_,.lent (hf:=zf8) (hd:=rfl) (hr:=rfl),?_⟩;simp only [go_sem]) | (refine ⟨_,.given (hf:=zf8) (hd:=rfl) (ha:=rfl),?_⟩;simp only [go_sem])));apply hK;clear hK K))
    simp only [go_sem]
   ·have hc0:x.m.clues=[]:=List.length_eq_zero_iff.1 (by omega)
    cases hp:withinB x.to 0 (n.places - 1)
    ·rw [hp] at h7
     repeat (first | refine nx ?_ | (refine z3 fun K hK=>?_;simp only [go_sem,hc];(repeat (first | (refine ⟨_,.lent (hf:=h5) (hd:=rfl) (hr:=rfl),?_⟩;simp only [go_sem,hc]) | (refine ⟨_,.lent (hf:=h6) (hd:=rfl) (hr:=rfl),?_⟩;simp only [go_sem,hc]) | (refine ⟨_,.lent (hf:=h7) (hd:=rfl) (hr:=rfl),?_⟩;simp only [go_sem,hc]) | (refine ⟨_,.given (hf:=h5) (hd:=rfl) (ha:=rfl),?_⟩;simp only [go_sem,hc]) | (refine ⟨_,.given (hf:=h6) (hd:=rfl) (ha:=rfl),?_⟩;simp only [go_sem,hc]) | (refine ⟨_,.given (hf:=h7) (hd:=rfl) (ha:=rfl),?_⟩;simp only [go_sem,hc])));apply hK;clear hK K))
     refine z10 rfl ?_
     repeat (first | refine nx ?_ | (refine z3 fun K hK=>?_;simp only [go_sem];(repeat (first | (refine ⟨_,.lent (hf:=zf8) (hd:=rfl) (hr:=rfl),?_⟩;simp only [go_sem]) | (refine ⟨_,.given (hf:=zf8) (hd:=rfl) (ha:=rfl),?_⟩;simp only [go_sem])));apply hK;clear hK K))
     simp only [go_sem]
    ·rw [hp] at h7
     have hto:0≤x.to∧x.to<n.places:=by have:=z27.1 hp;omega
     by_cases ht6:(x.times.length:Int) > 60
     ·repeat (first | refine nx ?_ | (refine z3 fun K hK=>?_;simp only [go_sem,hc,htl,ht6];(repeat (first | (refine ⟨_,.lent (hf:=h5) (hd:=rfl) (hr:=rfl),?_⟩;simp only [go_sem,hc,htl,ht6]) | (refine ⟨_,.lent (hf:=h6) (hd:=rfl) (hr:=rfl),?_⟩;simp only [go_sem,hc,htl,ht6]) | (refine ⟨_,.lent (hf:=h7) (hd:=rfl) (hr:=rfl),?_⟩;simp only [go_sem,hc,htl,ht6]) | (refine ⟨_,.given (hf:=h5) (hd:=rfl) (ha:=rfl),?_⟩;simp only [go_sem,hc,htl,ht6]) | (refine ⟨_,.given (hf:=h6) (hd:=rfl) (ha:=rfl),?_⟩;simp only [go_sem,hc,htl,ht6]) | (refine ⟨_,.given (hf:=h7) (hd:=rfl) (ha:=rfl),?_⟩;simp only [go_sem,hc,htl,ht6])));apply hK;clear hK K))
      refine z10 rfl ?_
      repeat (first | refine nx ?_ | (refine z3 fun K hK=>?_;simp only [go_sem];(repeat (first | (refine ⟨_,.lent (hf:=zf8) (hd:=rfl) (hr:=rfl),?_⟩;simp only [go_sem]) | (refine ⟨_,.given (hf:=zf8) (hd:=rfl) (ha:=rfl),?_⟩;simp only [go_sem])));apply hK;clear hK K))
      simp only [go_sem]
     ·have hpl:=hx.net.places
      by_cases hnv:getI (arrivalsL n x.m.party spanHi x.m.place x.m.start (-1)) x.to=never
      ·have hop:openF n x.m.party [x.m.place,x.to] [x.m.start]=0:=z223.2 ⟨hx.net,hx.party,by simpa using ⟨hx.place,hto⟩,by have:=hx.start;have:=hx.now;simp;omega⟩
       rw [z632 hop hnv] at h9
       repeat (first | refine nx ?_ | (refine z3 fun K hK=>?_;simp only [go_sem,hc,htl,ht6];(repeat (first | (refine ⟨_,.lent (hf:=h5) (hd:=rfl) (hr:=rfl),?_⟩;simp only [go_sem,hc,htl,ht6]) | (refine ⟨_,.lent (hf:=h6) (hd:=rfl) (hr:=rfl),?_⟩;simp only [go_sem,hc,htl,ht6]) | (refine ⟨_,.lent (hf:=h7) (hd:=rfl) (hr:=rfl),?_⟩;simp only [go_sem,hc,htl,ht6]) | (refine ⟨_,.given (hf:=h5) (hd:=rfl) (ha:=rfl),?_⟩;simp only [go_sem,hc,htl,ht6]) | (refine ⟨_,.given (hf:=h6) (hd:=rfl) (ha:=rfl),?_⟩;simp only [go_sem,hc,htl,ht6]) | (refine ⟨_,.given (hf:=h7) (hd:=rfl) (ha:=rfl),?_⟩;simp only [go_sem,hc,htl,ht6])));apply hK;clear hK K))
       refine z7 rfl ?_
       repeat (first | refine nx ?_ | (refine z3 fun K hK=>?_;simp only [go_sem];(repeat (first | (refine ⟨_,.lent (hf:=h9) (hd:=rfl) (hr:=rfl),?_⟩;simp only [go_sem]) | (refine ⟨_,.given (hf:=h9) (hd:=rfl) (ha:=rfl),?_⟩;simp only [go_sem])));apply hK;clear hK K))
       refine z10 rfl ?_
       repeat (first | refine nx ?_ | (refine z3 fun K hK=>?_;simp only [go_sem];(repeat (first | (refine ⟨_,.lent (hf:=zf8) (hd:=rfl) (hr:=rfl),?_⟩;simp only [go_sem]) | (refine ⟨_,.given (hf:=zf8) (hd:=rfl) (ha:=rfl),?_⟩;simp only [go_sem])));apply hK;clear hK K))
       simp only [go_sem]
      ·obtain ⟨r,hr1,hr2,hr3,_,_⟩:=z809 hx.net hx.party hx.place hto (by have:=hx.start;have:=hx.now;omega) hnv
       rw [hr1] at h9
       have hwk:=hr3.walkR
       have hrl:r.length<12:=by omega
       have hirl:=z16 r
       have h20:¬ ((r.length:Int) > 20):=by omega
       have hroute:isRouteB n x.m.party x.m.place r=true:=by
        rw [isRouteB,hwk]
        simp;omega
       have h10:=zf10 n x.m.party r x.m.place (by have:=hs.paths;omega) (by omega)
       rw [hroute,Net.cells,Party.cells] at h10
       have h11:=zf11 n x r hs (by omega) ht (fun v hv=>by
        obtain ⟨i,hi⟩:=List.getElem?_of_mem hv
        obtain ⟨w,hw,e,_⟩:=hr3.at i v hi
        have:=(List.getElem?_eq_some_iff.1 (z56 hw)).1
        omega)
       have hlaw:=law ho r hx hc0 ⟨_,hr3⟩
       obtain ⟨q,hq⟩:∃ q,q=hikedF n x r:=⟨_,rfl⟩
       obtain ⟨pl,pa,is⟩:=q
       rw [← hq] at h11 hlaw
       dsimp only at h11 hlaw
       rw [Net.cells,Hike.row,Missed.row] at h11
       simp only [List.cons_append,List.nil_append] at h11
       repeat (first | refine nx ?_ | (refine z3 fun K hK=>?_;simp only [go_sem,hc,htl,ht6];(repeat (first | (refine ⟨_,.lent (hf:=h5) (hd:=rfl) (hr:=rfl),?_⟩;simp only [go_sem,hc,htl,ht6]) | (refine ⟨_,.lent (hf:=h6) (hd:=rfl) (hr:=rfl),?_⟩;simp only [go_sem,hc,htl,ht6]) | (refine ⟨_,.lent (hf:=h7) (hd:=rfl) (hr:=rfl),?_⟩;simp only [go_sem,hc,htl,ht6]) | (refine ⟨_,.given (hf:=h5) (hd:=rfl) (ha:=rfl),?_⟩;simp only [go_sem,hc,htl,ht6]) | (refine ⟨_,.given (hf:=h6) (hd:=rfl) (ha:=rfl),?_⟩;simp only [go_sem,hc,htl,ht6]) | (refine ⟨_,.given (hf:=h7) (hd:=rfl) (ha:=rfl),?_⟩;simp only [go_sem,hc,htl,ht6])));apply hK;clear hK K))
       refine z7 rfl ?_
       repeat (first | refine nx ?_ | (refine z3 fun K hK=>?_;simp only [go_sem];(repeat (first | (refine ⟨_,.lent (hf:=h9) (hd:=rfl) (hr:=rfl),?_⟩;simp only [go_sem]) | (refine ⟨_,.given (hf:=h9) (hd:=rfl) (ha:=rfl),?_⟩;simp only [go_sem])));apply hK;clear hK K))
       refine z7 rfl ?_
       repeat (first | refine nx ?_ | (refine z3 fun K hK=>?_;simp only [go_sem,hirl,h20];(repeat (first | (refine ⟨_,.lent (hf:=h10) (hd:=rfl) (hr:=rfl),?_⟩;simp only [go_sem,hirl,h20]) | (refine ⟨_,.given (hf:=h10) (hd:=rfl) (ha:=rfl),?_⟩;simp only [go_sem,hirl,h20])));apply hK;clear hK K))
       refine z7 rfl ?_
       repeat (first | refine nx ?_ | (refine z3 fun K hK=>?_;simp only [go_sem];(repeat (first | (refine ⟨_,.lent (hf:=h11) (hd:=rfl) (hr:=rfl),?_⟩;simp only [go_sem]) | (refine ⟨_,.given (hf:=h11) (hd:=rfl) (ha:=rfl),?_⟩;simp only [go_sem])));apply hK;clear hK K))
       cases his:is
       ·refine z10 rfl ?_
        repeat (first | refine nx ?_ | (refine z3 fun K hK=>?_;simp only [go_sem];(repeat (first | (refine ⟨_,.lent (hf:=zf8) (hd:=rfl) (hr:=rfl),?_⟩;simp only [go_sem]) | (refine ⟨_,.given (hf:=zf8) (hd:=rfl) (ha:=rfl),?_⟩;simp only [go_sem])));apply hK;clear hK K))
        simp only [go_sem]
       ·obtain ⟨l1,l2⟩:=hlaw his
        refine z7 rfl ?_
        rw [whereD,l1] at h12
        by_cases hpa:pa<0
        ·rw [if_pos hpa] at l2
         have h13:=zf13 (whereC n x.m).1 pl (z547 hs).1
         rw [l2] at h13
         have hpa2:¬ pa ≥ 0:=by omega
         repeat (first | refine nx ?_ | (refine z3 fun K hK=>?_;simp only [go_sem];(repeat (first | (refine ⟨_,.lent (hf:=h12) (hd:=rfl) (hr:=rfl),?_⟩;simp only [go_sem]) | (refine ⟨_,.given (hf:=h12) (hd:=rfl) (ha:=rfl),?_⟩;simp only [go_sem])));apply hK;clear hK K))
         repeat (first | refine nx ?_ | (refine z3 fun K hK=>?_;simp only [go_sem,hpa,hpa2];(repeat (first | (refine ⟨_,.lent (hf:=h13) (hd:=rfl) (hr:=rfl),?_⟩;simp only [go_sem,hpa,hpa2]) | (refine ⟨_,.lent (hf:=zf8) (hd:=rfl) (hr:=rfl),?_⟩;simp only [go_sem,hpa,hpa2]) | (refine ⟨_,.given (hf:=h13) (hd:=rfl) (ha:=rfl),?_⟩;simp only [go_sem,hpa,hpa2]) | (refine ⟨_,.given (hf:=zf8) (hd:=rfl) (ha:=rfl),?_⟩;simp only [go_sem,hpa,hpa2])));apply hK;clear hK K))
         simp only [go_sem]
        ·rw [if_neg hpa] at l2
         have h13:=zf13 (whereC n x.m).2.1 pa (z547 hs).2
         rw [l2] at h13
         have hpa2:pa ≥ 0:=by omega
         repeat (first | refine nx ?_ | (refine z3 fun K hK=>?_;simp only [go_sem];(repeat (first | (refine ⟨_,.lent (hf:=h12) (hd:=rfl) (hr:=rfl),?_⟩;simp only [go_sem]) | (refine ⟨_,.given (hf:=h12) (hd:=rfl) (ha:=rfl),?_⟩;simp only [go_sem])));apply hK;clear hK K))
         repeat (first | refine nx ?_ | (refine z3 fun K hK=>?_;simp only [go_sem,hpa,hpa2];(repeat (first | (refine ⟨_,.lent (hf:=h13) (hd:=rfl) (hr:=rfl),?_⟩;simp only [go_sem,hpa,hpa2]) | (refine ⟨_,.lent (hf:=zf8) (hd:=rfl) (hr:=rfl),?_⟩;simp only [go_sem,hpa,hpa2]) | (refine ⟨_,.given (hf:=h13) (hd:=rfl) (ha:=rfl),?_⟩;simp only [go_sem,hpa,hpa2]) | (refine ⟨_,.given (hf:=zf8) (hd:=rfl) (ha:=rfl),?_⟩;simp only [go_sem,hpa,hpa2])));apply hK;clear hK K))
         simp only [go_sem]
  ·have ho2:(openX n x.m != 0)=true:=by simpa using ho
   repeat (first | refine nx ?_ | (refine z3 fun K hK=>?_;simp only [go_sem,ho2];(repeat (first | (refine ⟨_,.lent (hf:=h5) (hd:=rfl) (hr:=rfl),?_⟩;simp only [go_sem,ho2]) | (refine ⟨_,.lent (hf:=h6) (hd:=rfl) (hr:=rfl),?_⟩;simp only [go_sem,ho2]) | (refine ⟨_,.given (hf:=h5) (hd:=rfl) (ha:=rfl),?_⟩;simp only [go_sem,ho2]) | (refine ⟨_,.given (hf:=h6) (hd:=rfl) (ha:=rfl),?_⟩;simp only [go_sem,ho2])));apply hK;clear hK K))
   refine z10 rfl ?_
   repeat (first | refine nx ?_ | (refine z3 fun K hK=>?_;simp only [go_sem];(repeat (first | (refine ⟨_,.lent (hf:=zf8) (hd:=rfl) (hr:=rfl),?_⟩;simp only [go_sem]) | (refine ⟨_,.given (hf:=zf8) (hd:=rfl) (ha:=rfl),?_⟩;simp only [go_sem])));apply hK;clear hK K))
   simp only [go_sem]
 ·rw [hf] at h5
  repeat (first | refine nx ?_ | (refine z3 fun K hK=>?_;simp only [go_sem];(repeat (first | (refine ⟨_,.lent (hf:=h5) (hd:=rfl) (hr:=rfl),?_⟩;simp only [go_sem]) | (refine ⟨_,.given (hf:=h5) (hd:=rfl) (ha:=rfl),?_⟩;simp only [go_sem])));apply hK;clear hK K))
  refine z10 rfl ?_
  repeat (first | refine nx ?_ | (refine z3 fun K hK=>?_;simp only [go_sem];(repeat (first | (refine ⟨_,.lent (hf:=zf8) (hd:=rfl) (hr:=rfl),?_⟩;simp only [go_sem]) | (refine ⟨_,.given (hf:=zf8) (hd:=rfl) (ha:=rfl),?_⟩;simp only [go_sem])));apply hK;clear hK K))
  simp only [go_sem]
end Go.Ab
namespace Go.Ab
open Go.RowKit Go.Proofs
set_option maxHeartbeats 2000000
theorem z698 {l:List Int} {i K:Int} (h:∀ j:Nat,0≤l.getD j 0∧l.getD j 0≤K) (hK:K<2 ^ 62) :
  (∀ j:Nat,0≤(bump1 l i).getD j 0∧(bump1 l i).getD j 0≤K + 1)∧(∀ j:Nat,l.getD j 0≤(bump1 l i).getD j 0)∧(i.toNat<l.length→0<(bump1 l i).getD i.toNat 0):=by
 have hi:=h i.toNat
 have hw:wr (getI l i + 1)=l.getD i.toNat 0 + 1:=by rw [getI];exact z9 (by omega)
 have e:∀ j:Nat,(bump1 l i).getD j 0=if j=i.toNat∧j<l.length then l.getD i.toNat 0 + 1 else l.getD j 0:=fun j=>by
  rw [bump1,hw,List.getD_eq_getElem?_getD,List.getElem?_set]
  by_cases hj:i.toNat=j
  ·subst hj
   by_cases hl:i.toNat<l.length
   ·simp [hl]
   ·simp [hl]
  ·rw [if_neg hj,if_neg (fun hc=>hj hc.1.symm),List.getD_eq_getElem?_getD]
 refine ⟨fun j=>?_,fun j=>?_,fun hl=>?_⟩
 ·rw [e];split
  ·omega
  ·have:=h j;omega
 ·rw [e];split
  ·rename_i hc;rw [hc.1];omega
  ·exact Int.le_refl _
 ·rw [e,if_pos ⟨rfl,hl⟩];omega
def Small01 (K:Int) (a:List Int × List Int):Prop:=(∀ j:Nat,0≤a.1.getD j 0∧a.1.getD j 0≤K)∧∀ j:Nat,0≤a.2.getD j 0∧a.2.getD j 0≤K
theorem z884 {a:List Int × List Int} {K:Int} (e:EndT) (h:Small01 K a) (hK:K<2 ^ 62):Small01 (K + 1) (tally a e)∧(∀ j:Nat,a.1.getD j 0≤(tally a e).1.getD j 0∧a.2.getD j 0≤(tally a e).2.getD j 0) ∧
  (e.pa<0→e.pl.toNat<a.1.length→0<(tally a e).1.getD e.pl.toNat 0)∧(¬ e.pa<0→e.pa.toNat<a.2.length→0<(tally a e).2.getD e.pa.toNat 0):=by
 rw [tally]
 split
 ·rename_i hp
  obtain ⟨h1,h2,h3⟩:=z698 (i:=e.pl) h.1 hK
  exact ⟨⟨h1,fun j=>by have:=h.2 j;dsimp only;omega⟩,fun j=>⟨h2 j,Int.le_refl _⟩,fun _=>h3,fun hn=>absurd hp hn⟩
 ·rename_i hp
  obtain ⟨h1,h2,h3⟩:=z698 (i:=e.pa) h.2 hK
  exact ⟨⟨fun j=>by have:=h.1 j;dsimp only;omega,h1⟩,fun j=>⟨Int.le_refl _,h2 j⟩,fun hn=>absurd hn hp,fun _=>h3⟩
theorem z424:∀ (E:List EndT) (a:List Int × List Int) (K:Int),Small01 K a→K + E.length<2 ^ 62 →
  (∀ j:Nat,a.1.getD j 0≤(E.foldl tally a).1.getD j 0∧a.2.getD j 0≤(E.foldl tally a).2.getD j 0) ∧
  ∀ e ∈ E,(e.pa<0→e.pl.toNat<a.1.length→0<(E.foldl tally a).1.getD e.pl.toNat 0)∧(¬ e.pa<0→e.pa.toNat<a.2.length→0<(E.foldl tally a).2.getD e.pa.toNat 0)
 | [],a,K,h,hK=>⟨fun j=>⟨Int.le_refl _,Int.le_refl _⟩,fun e he=>by simp at he⟩
 | d::E,a,K,h,hK=>by
  rw [List.length_cons] at hK
  obtain ⟨s1,s2,s3,s4⟩:=z884 d h (by omega)
  obtain ⟨t1,t2⟩:=z424 E (tally a d) (K + 1) s1 (by omega)
  have hl:=z309 a d
  refine ⟨fun j=>⟨Int.le_trans (s2 j).1 (t1 j).1,Int.le_trans (s2 j).2 (t1 j).2⟩,fun e he=>?_⟩
  rcases List.mem_cons.1 he with rfl | he
  ·exact ⟨fun g1 g2=>Int.lt_of_lt_of_le (s3 g1 g2) (t1 _).1,fun g1 g2=>Int.lt_of_lt_of_le (s4 g1 g2) (t1 _).2⟩
  ·obtain ⟨u1,u2⟩:=t2 e he
   exact ⟨fun g1 g2=>u1 g1 (by omega),fun g1 g2=>u2 g1 (by omega)⟩
theorem z215 {α β:Type} {f:α→List β} {K:Nat}:∀ (l:List α),(∀ a ∈ l,(f a).length≤K)→(l.flatMap f).length≤l.length * K
 | [],_=>by simp
 | a::l,h=>by
  have h1:=h a (by simp)
  have h2:=z215 l fun b hb=>h b (by simp [hb])
  rw [List.flatMap_cons,List.length_append,List.length_cons,Nat.succ_mul]
  omega
theorem z318 (cl:List Clue) (p top:Int):∀ (f:Nat) (m:Int),(staysF cl p top f m).length≤f
 | 0,_=>Nat.le_refl _
 | f + 1,m=>by
  rw [staysF];split
  ·have:=z318 cl p top f (m + 1)
   simp only [List.length_cons];omega
  ·simp
theorem z1119 {n:Net} {x:Missed} (hx:Hunted n x):(endsL n x (huntedA n x)).length<2 ^ 40:=by
 have hg:=z213 hx
 have hl:=z182 hg
 have hN:=z353 hx
 have hst:=hx.start
 have hno:=hx.now
 have hp:=hx.net.paths
 have h1:∀ s ∈ huntedA n x,(endOf8 n x s).length≤100000:=fun s hs=>by
  have hs0:=(hg.1 s hs).2.1
  have hsl:∀ most,(staysL x s.pl s.mi most).length≤2881:=fun most=>by
   have:=z318 x.clues s.pl (min most x.now) (min most x.now - s.mi + 1).toNat s.mi
   rw [staysL];omega
  have a1:((staysL x s.pl s.mi x.now).filterMap (endIn x s)).length≤2881:=Nat.le_trans (List.length_filterMap_le _ _) (hsl _)
  have a2:((staysL x s.pl s.mi (wr (s.mi + x.rest))).flatMap (endLv n x s)).length≤(staysL x s.pl s.mi (wr (s.mi + x.rest))).length * 24:=z215 _ fun lv _=>by
   rw [endLv];split
   ·simp
   ·refine Nat.le_trans (List.length_filterMap_le _ _) ?_
    rw [List.length_range];exact hp
  have a3:=hsl (wr (s.mi + x.rest))
  rw [endOf8,List.length_append]
  have:=Nat.mul_le_mul_right 24 a3
  omega
 have h2:=z215 (huntedA n x) h1
 have h3:=Nat.mul_le_mul_right 100000 (Nat.le_trans hl hN)
 rw [endsL]
 omega
theorem z861 (m j:Nat):(List.replicate m (0:Int)).getD j 0=0:=by
 rw [List.getD_eq_getElem?_getD,List.getElem?_replicate];split <;> rfl
theorem z965 {n:Net} {x:Missed} (hx:Hunted n x) {e:EndT} (he:e ∈ endsL n x (huntedA n x)) :
  (e.pa<0→(whereP n x).any (fun y=>y == e.pl)=true)∧(¬ e.pa<0→(whereW n x).any (fun y=>y == e.pa)=true):=by
 obtain ⟨⟨r1,r2⟩,r3⟩:=z463 (z213 hx) he
 have hl:=z1119 hx
 obtain ⟨_,h⟩:=z424 (endsL n x (huntedA n x)) (List.replicate n.places.toNat 0,List.replicate n.paths.length 0) 0 ⟨fun j=>by simp only [z861];omega,fun j=>by simp only [z861];omega⟩ (by omega)
 obtain ⟨h1,h2⟩:=h e he
 simp only [List.length_replicate] at h1 h2
 have ht:=z132 (endsL n x (huntedA n x)) (List.replicate n.places.toNat 0,List.replicate n.paths.length 0)
 simp only [List.length_replicate] at ht
 rw [← tallyE] at ht h1 h2
 have key:∀ (l:List Int) (i:Int),0≤i→i.toNat<l.length→0<l.getD i.toNat 0→(posL l).any (fun y=>y == i)=true:=fun l i g1 g2 g3=>by
  have:=z1074 (fun j=>decide (getI l j > 0)) l.length i.toNat g2
  rw [Int.toNat_of_nonneg g1] at this
  rw [posL,this]
  refine decide_eq_true ?_
  rw [getI]
  exact g3
 refine ⟨fun hp=>key _ _ r1 (by omega) (h1 hp (by omega)),fun hp=>?_⟩
 rcases r3 with r3 | ⟨r3,r4⟩
 ·exact absurd r3 hp
 ·exact key _ _ r3 (by omega) (h2 hp r4)
theorem z1089 (n:Net) (x:Hike) (ho:openX n x.m=0):overLaw n x:=by
 intro r hx hc hT his
 obtain ⟨u,hT⟩:=hT
 obtain ⟨q,hq⟩:∃ q,q=hikedF n x r:=⟨_,rfl⟩
 obtain ⟨pl,pa,is⟩:=q
 rw [← hq] at his ⊢
 dsimp only at his ⊢
 subst his
 obtain ⟨e,he,hcase⟩:=z659 hx hc r 0 x.m.place x.m.start (z658 hx (by rw [hc];rfl)) ⟨_,_,_,hT⟩ (Int.le_refl _) hx.start.2 hq.symm
 obtain ⟨w1,w2⟩:=z965 hx he
 have hW:whereC n x.m=(whereP n x.m,whereW n x.m,0):=by
  rw [whereC,if_neg (fun h=>h ho),if_neg]
  rintro ⟨e1,e2⟩
  rw [e1] at w1
  rw [e2] at w2
  by_cases hp:e.pa<0
  ·have:=w1 hp;simp at this
  ·have:=w2 hp;simp at this
 rw [hW]
 refine ⟨rfl,?_⟩
 dsimp only
 rcases hcase with ⟨c1,c2,c3⟩ | ⟨c1,c2,c3⟩
 ·rw [if_pos c1,← c3];exact w1 c2
 ·rw [if_neg (by omega),← c3];exact w2 c2
end Go.Ab
namespace Go.Ab
open Go.RowKit Go.Proofs
theorem f3' (n:Net) (x:Hike) (hs:n.Small) (hl:x.m.clues.length<2 ^ 30) (ht:x.times.length<2 ^ 30):Fn Try.prog 3 [.agg n.cells,.agg x.row] (.bool true) :=
 zf3 n x hs hl ht (z1089 n x)
end Go.Ab
