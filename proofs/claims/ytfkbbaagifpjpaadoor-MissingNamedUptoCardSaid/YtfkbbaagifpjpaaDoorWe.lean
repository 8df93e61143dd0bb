/- A walk engine over abstract states, and the contracts of the functions that the statement reaches: part 5. -/
import Derived.Test.YtfkbbaagifpjpaaDoorWd
set_option linter.unusedVariables false
set_option linter.unusedSimpArgs false
set_option linter.unnecessarySimpa false
namespace Go.Ab
open Go.RowKit Go.Proofs
set_option maxHeartbeats 8000000
set_option maxRecDepth 20000
attribute [local irreducible] WalkL Walk
theorem z1253 (xs:List SpotT) (g:Nat) (caps:List DV) (q:SpotT→Bool) (hq:∀ s ∈ xs,Fn Tryd.prog g (.agg s.row::caps) (.bool (q s))) (hl:xs.length<2 ^ 62):Fn Tryd.prog 105 [.sl (xs.map SpotT.row),.fn g caps] (.i (idxFrom q xs 0)):=by
 refine z11 19 Tryd.call105 Tryd.func105 rfl (by decide) fun J=>?_
 simp only [go_sem,St.start,Tryd.ntmps105,Tryd.results105]
 repeat (first|refine nx ?_|(refine z3 fun K hK=>?_;simp only [go_sem];apply hK;clear hK K))
 refine z13 (fun (i:Nat)=>[(8,.d (.i i))]) (fun _=>[]) (fun i=>i≤xs.length∧idxFrom q xs 0=idxFrom q (xs.drop i) i) (fun i=>xs.length - i) 0 ?_ ⟨Nat.zero_le _,rfl⟩ ?_
 ·simp only [go_sem]
  refine weA ?_ ?_ <;> simp
 ·intro i ⟨hi,hq0⟩
  simp only [go_sem]
  repeat (first|refine nx ?_|(refine z3 fun K hK=>?_;simp only [go_sem];apply hK;clear hK K))
  refine z6 rfl (fun hb=>?_) (fun hb=>?_)
  ·have hlt:i<xs.length:=by simpa using hb
   obtain⟨s,hs⟩:∃ s,xs[i]?=some s:=⟨_,List.getElem?_eq_getElem hlt⟩
   have hw:IntKind.i64.wrap ((i:Int) + 1)=((i + 1:Nat):Int):=by rw [z10 (by omega)];simp
   rw [z58 hs,idxFrom] at hq0
   repeat (first|refine nx ?_|(refine z3 fun K hK=>?_;simp only [go_sem];apply hK;clear hK K))
   refine z3 fun K hK=>?_
   simp only [go_sem,hs,List.getElem?_map,SpotT.row,hw]
   refine⟨_,.lent (hf:=hq s (List.mem_of_getElem? hs)) (hd:=z131 _ _ _ _ rfl) (hr:=rfl),?_⟩
   simp only [go_sem]
   apply hK
   clear hK K
   refine z6 rfl (fun hc=>?_) (fun hc=>?_)
   ·rw [hc,if_pos rfl] at hq0
    repeat (first|refine nx ?_|(refine z3 fun K hK=>?_;simp only [go_sem];apply hK;clear hK K))
    simp only [go_sem,hq0]
   ·rw [hc] at hq0
    repeat (first|refine nx ?_|(refine z3 fun K hK=>?_;simp only [go_sem,hw];apply hK;clear hK K))
    refine⟨rfl,i + 1,?_,⟨hlt,hq0⟩,by omega⟩
    refine weA ?_ ?_ <;> simp
  ·have he:i=xs.length:=by have:¬ i<xs.length:=by simpa using hb
                           omega
   subst he
   repeat (first|refine nx ?_|(refine z3 fun K hK=>?_;simp only [go_sem];apply hK;clear hK K))
   simp only [go_sem,hq0,List.drop_length,idxFrom]
theorem z1341 (xs:List SpotT) (g:Nat) (caps:List DV) (q:SpotT→Bool) (hq:∀ s ∈ xs,Fn Tryd.prog g (.agg s.row::caps) (.bool (q s))) (hl:xs.length<2 ^ 62):Fn Tryd.prog 88 [.sl (xs.map SpotT.row),.fn g caps] (.bool (xs.any q)):=by
 refine z11 9 Tryd.call88 Tryd.func88 rfl (by decide) fun J=>?_
 simp only [go_sem,St.start,Tryd.ntmps88,Tryd.results88]
 repeat (first|refine nx ?_|(refine z3 fun K hK=>?_;simp only [go_sem];(repeat (first|(refine⟨_,.lent (hf:=z1253 xs g caps q hq hl) (hd:=rfl) (hr:=rfl),?_⟩;simp only [go_sem])|(refine⟨_,.given (hf:=z1253 xs g caps q hq hl) (hd:=rfl) (ha:=rfl),?_⟩;simp only [go_sem])));apply hK;clear hK K))
 simp only [go_sem,z42]
def badSpot (n:Net) (s:SpotT):Bool:=!withinB s.pl 0 (n.places - 1) || (!withinB s.wt 0 100 || !withinB s.se 0 600)
def badBase (n:Net) (b:Int):Bool:=!withinB b 0 (n.places - 1)
theorem z1343 (n:Net) (p:Party) (s:SpotT) (hn:0≤n.places∧n.places<2 ^ 62):Fn Tryd.prog 86 [.agg s.row,.ptr (countryC n p) 0] (.bool (badSpot n s)):=by
 have h62:=z1275 n p s.pl hn
 rw [countryC,timesD,mapD] at h62
 refine z11 21 Tryd.call86 Tryd.func86 rfl (by decide) fun J=>?_
 simp only [go_sem,St.start,Tryd.ntmps86,Tryd.results86,SpotT.row,countryC,timesD,mapD]
 repeat (first|refine nx ?_|(refine z3 fun K hK=>?_;simp only [go_sem];apply hK;clear hK K))
 refine z18 [(3,.d (.bool (badSpot n s)))] [] ?_ ?_
 ·refine z3 fun K hK=>?_
  simp only [go_sem]
  refine⟨_,.lent (hf:=h62) (hd:=rfl) (hr:=rfl),?_⟩
  simp only [go_sem]
  by_cases ho0:(!withinB s.pl 0 (n.places - 1))=true
  ·simp only [go_sem,ho0]
   apply hK
   clear hK K
   refine z7 ?_
   refine z4 ?_
   refine⟨rfl,?_⟩
   rw [show (badSpot n s)=(true) from by simp [badSpot,ho0]]
   simp only [go_sem]
   refine weA ?_ ?_ <;> simp
  ·simp only [go_sem,ho0]
   refine⟨_,.lent (hf:=z897 s.wt 0 100) (hd:=rfl) (hr:=rfl),?_⟩
   simp only [go_sem,ho0]
   by_cases ho1:(!withinB s.wt 0 100)=true
   ·simp only [go_sem,ho0,ho1]
    apply hK
    clear hK K
    refine z7 ?_
    refine z4 ?_
    refine⟨rfl,?_⟩
    rw [show (badSpot n s)=(true) from by simp [badSpot,ho0,ho1]]
    simp only [go_sem]
    refine weA ?_ ?_ <;> simp
   ·simp only [go_sem,ho0,ho1]
    refine⟨_,.lent (hf:=z897 s.se 0 600) (hd:=rfl) (hr:=rfl),?_⟩
    simp only [go_sem,ho0,ho1]
    apply hK
    clear hK K
    refine z7 ?_
    refine z4 ?_
    refine⟨rfl,?_⟩
    rw [show (badSpot n s)=(!withinB s.se 0 600) from by simp [badSpot,ho0,ho1]]
    simp only [go_sem]
    refine weA ?_ ?_ <;> simp
 repeat (first|refine nx ?_|(refine z3 fun K hK=>?_;simp only [go_sem];apply hK;clear hK K))
 simp only [go_sem]
theorem z1342 (n:Net) (p:Party) (b:Int) (hn:0≤n.places∧n.places<2 ^ 62):Fn Tryd.prog 87 [.i b,.ptr (countryC n p) 0] (.bool (badBase n b)):=by
 have h62:=z1275 n p b hn
 rw [countryC,timesD,mapD] at h62
 refine z11 8 Tryd.call87 Tryd.func87 rfl (by decide) fun J=>?_
 simp only [go_sem,St.start,Tryd.ntmps87,Tryd.results87,countryC,timesD,mapD]
 repeat (first|refine nx ?_|(refine z3 fun K hK=>?_;simp only [go_sem];(repeat (first|(refine⟨_,.lent (hf:=h62) (hd:=rfl) (hr:=rfl),?_⟩;simp only [go_sem])|(refine⟨_,.given (hf:=h62) (hd:=rfl) (ha:=rfl),?_⟩;simp only [go_sem])));apply hK;clear hK K))
 simp only [go_sem,badBase]
theorem z1011:∀ k:Nat,k≤5→IntKind.u64.wrap (bShl .u64 1 (k:Int) - 1)=((2 ^ k - 1:Nat):Int):=by decide +kernel
theorem z1351 (A B C:DV) (m:Nat) (F:Mat) (S:List SpotT) (hS:S.length≤5):Fn Tryd.prog 56 [.ptr (rescC A B C m F S) 0] (uD (2 ^ S.length - 1)):=by
 have e1:=z1011 S.length hS
 have n1:¬ ((S.length:Int)<0):=by omega
 unfold uD
 refine z11 10 Tryd.call56 Tryd.func56 rfl (by decide) fun J=>?_
 simp only [go_sem,St.start,Tryd.ntmps56,Tryd.results56,rescC]
 repeat (first|refine nx ?_|(refine z3 fun K hK=>?_;simp only [go_sem,e1,n1,List.length_map];apply hK;clear hK K))
 simp only [go_sem]
theorem z1352 (D:List DV):FnG Tryd.prog 54 [] [] ([.ptr D 0].map AV.d) (.agg [.d (.ptr D 0),.mp 0]) [.mp (some [.i64,.u64]) [] 0]:=by
 refine z35 6 Tryd.call54 Tryd.func54 rfl (by decide) [4] [] (by simp only [List.length_cons,List.length_nil];decide) (by kernel_rfl) fun J=>?_
 simp only [go_sem,St.startG,Tryd.ntmps54,Tryd.results54,List.map_cons,List.map_nil,List.range_succ,  ]
 repeat (first|refine nx ?_|(refine z3 fun K hK=>?_;simp only [go_sem];apply hK;clear hK K))
 simp only [go_sem]
end Go.Ab
namespace Go.Ab
open Go.RowKit Go.Proofs
set_option maxHeartbeats 8000000
set_option maxRecDepth 20000
attribute [local irreducible] WalkL Walk
def badTeams (n:Net) (bases:List Int) (S:List SpotT):Bool:=!withinB S.length 1 8 || (S.any (badSpot n) || (!withinB bases.length 1 3 || bases.any (badBase n)))
def readyE (n:Net) (p:Party) (bases:List Int) (S:List SpotT):Int:=if checkPartyF n p≠0 then checkPartyF n p else if badTeams n bases S then 82 else 0
def rescN (n:Net) (p:Party) (S:List SpotT):List DV:=rescC (.i n.places) (.sl (n.paths.map Path.row)) (timesD n p) n.places.toNat (allM n p) S
def readyD (n:Net) (p:Party) (bases:List Int) (S:List SpotT):DV:=if readyE n p bases S=0 then .ptr (rescN n p S) 0 else .nilptr
theorem z1353 (n:Net) (p:Party) (bases:List Int) (S:List SpotT) (hs:n.Small) (hb:bases.length<2 ^ 30) (hl:S.length<2 ^ 30) :
  Fn Tryd.prog 53 [.agg n.cells,.agg p.cells,.sl (intRows bases),.sl (S.map SpotT.row)] (.tup [readyD n p bases S,.i (readyE n p bases S)]):=by
 have h61:=z1284 n p hs
 rw [Party.cells] at h61
 have hrl:=z16 bases
 have hsl:(S.map SpotT.row).length=S.length:=by simp
 refine z11 51 Tryd.call53 Tryd.func53 rfl (by decide) fun J=>?_
 simp only [go_sem,St.start,Tryd.ntmps53,Tryd.results53,Net.cells,Party.cells]
 by_cases hok:checkPartyF n p=0
 ·have hnb:¬ badNet n=true:=by
   intro hb
   rw [checkPartyF,if_pos hb] at hok
   simp at hok
  have hg:=z154.1 hnb
  have hpl:=hg.places
  have h86:∀ s ∈ S,Fn Tryd.prog 86 [.agg s.row,.ptr (countryC n p) 0] (.bool (badSpot n s)):=fun s _=>z1343 n p s (by omega)
  have h87:∀ b ∈ bases,Fn Tryd.prog 87 [.i b,.ptr (countryC n p) 0] (.bool (badBase n b)):=fun b _=>z1342 n p b (by omega)
  have h88:=z1341 S 86 _ _ h86 (by omega)
  have h89:=z1279 bases 87 _ _ h87 (by omega)
  have h63:=(z1349 n p hg).deep
  change Fn Tryd.prog 89 [.sl (intRows bases),_] _ at h89
  rw [travC,if_pos hok,countryC,timesD,mapD,hok] at h61
  rw [countryC,timesD,mapD] at h63 h88 h89
  repeat (first|refine nx ?_|(refine z3 fun K hK=>?_;simp only [go_sem];(repeat (first|(refine⟨_,.lent (hf:=h61) (hd:=rfl) (hr:=rfl),?_⟩;simp only [go_sem])|(refine⟨_,.given (hf:=h61) (hd:=rfl) (ha:=rfl),?_⟩;simp only [go_sem])));apply hK;clear hK K))
  refine z5 rfl ?_
  repeat (first|refine nx ?_|(refine z3 fun K hK=>?_;simp only [go_sem];apply hK;clear hK K))
  refine z18 [(44,.d (.bool (badTeams n bases S)))] [] ?_ ?_
  ·refine z3 fun K hK=>?_
   simp only [go_sem,hrl,hsl]
   refine⟨_,.lent (hf:=z897 S.length 1 8) (hd:=rfl) (hr:=rfl),?_⟩
   simp only [go_sem,hrl,hsl]
   by_cases ho0:(!withinB S.length 1 8)=true
   ·simp only [go_sem,hrl,hsl,ho0]
    apply hK
    clear hK K
    refine z7 ?_
    refine z4 ?_
    refine⟨rfl,?_⟩
    rw [show (badTeams n bases S)=(true) from by simp [badTeams,ho0]]
    simp only [go_sem]
    refine weA ?_ ?_ <;> simp
   ·simp only [go_sem,hrl,hsl,ho0]
    refine⟨_,.lent (hf:=h88) (hd:=rfl) (hr:=rfl),?_⟩
    simp only [go_sem,hrl,hsl,ho0]
    by_cases ho1:(S.any (badSpot n))=true
    ·simp only [go_sem,hrl,hsl,ho0,ho1]
     apply hK
     clear hK K
     refine z7 ?_
     refine z4 ?_
     refine⟨rfl,?_⟩
     rw [show (badTeams n bases S)=(true) from by simp [badTeams,ho0,ho1]]
     simp only [go_sem]
     refine weA ?_ ?_ <;> simp
    ·simp only [go_sem,hrl,hsl,ho0,ho1]
     refine⟨_,.lent (hf:=z897 bases.length 1 3) (hd:=rfl) (hr:=rfl),?_⟩
     simp only [go_sem,hrl,hsl,ho0,ho1]
     by_cases ho2:(!withinB bases.length 1 3)=true
     ·simp only [go_sem,hrl,hsl,ho0,ho1,ho2]
      apply hK
      clear hK K
      refine z7 ?_
      refine z4 ?_
      refine⟨rfl,?_⟩
      rw [show (badTeams n bases S)=(true) from by simp [badTeams,ho0,ho1,ho2]]
      simp only [go_sem]
      refine weA ?_ ?_ <;> simp
     ·simp only [go_sem,hrl,hsl,ho0,ho1,ho2]
      refine⟨_,.lent (hf:=h89) (hd:=rfl) (hr:=rfl),?_⟩
      simp only [go_sem,hrl,hsl,ho0,ho1,ho2]
      apply hK
      clear hK K
      refine z7 ?_
      refine z4 ?_
      refine⟨rfl,?_⟩
      rw [show (badTeams n bases S)=(bases.any (badBase n)) from by simp [badTeams,ho0,ho1,ho2]]
      simp only [go_sem]
      refine weA ?_ ?_ <;> simp
  simp only [go_sem]
  by_cases hbt:badTeams n bases S=true
  ·have e:readyE n p bases S=82:=by simp [readyE,hok,hbt]
   rw [readyD,e]
   refine z6 (b:=true) (by rw [← hbt];rfl) (fun _=>?_) (fun hc=>by cases hc)
   repeat (first|refine nx ?_|(refine z3 fun K hK=>?_;simp only [go_sem];apply hK;clear hK K))
   simp only [go_sem]
  ·have hbt:badTeams n bases S=false:=by simpa using hbt
   have e:readyE n p bases S=0:=by simp [readyE,hok,hbt]
   rw [readyD,e,if_pos rfl]
   refine z6 (b:=false) (by rw [← hbt];rfl) (fun hc=>by cases hc) (fun _=>?_)
   repeat (first|refine nx ?_|(refine z3 fun K hK=>?_;simp only [go_sem];apply hK;clear hK K))
   refine z8 (by kernel_rfl) (by kernel_rfl) fun K hK=>?_
   simp only [go_sem]
   refine⟨_,.fn (hf:=h63) (hd:=rfl) (hr:=.inr rfl),?_⟩
   simp only [go_sem]
   refine⟨by kernel_rfl,hK _ ?_⟩
   clear hK K
   repeat (first|refine nx ?_|(refine z3 fun K hK=>?_;simp only [go_sem];apply hK;clear hK K))
   simp only [go_sem,rescN,rescC,timesD,mapD]
 ·have e:readyE n p bases S=checkPartyF n p:=by simp [readyE,hok]
  rw [travC,if_neg hok] at h61
  rw [readyD,e,if_neg hok]
  have hne:(checkPartyF n p != 0)=true:=by simpa using hok
  repeat (first|refine nx ?_|(refine z3 fun K hK=>?_;simp only [go_sem];(repeat (first|(refine⟨_,.lent (hf:=h61) (hd:=rfl) (hr:=rfl),?_⟩;simp only [go_sem])|(refine⟨_,.given (hf:=h61) (hd:=rfl) (ha:=rfl),?_⟩;simp only [go_sem])));apply hK;clear hK K))
  refine z6 rfl (fun _=>?_) (fun hc=>by rw [hne] at hc;cases hc)
  repeat (first|refine nx ?_|(refine z3 fun K hK=>?_;simp only [go_sem];apply hK;clear hK K))
  simp only [go_sem]
end Go.Ab
namespace Go.Ab
open Go.RowKit Go.Proofs
set_option maxHeartbeats 8000000
set_option maxRecDepth 20000
attribute [local irreducible] WalkL Walk
def orderM (F:Mat) (S:List SpotT):Nat→Nat→Nat→MemB→List Int × MemB
 | 0,_,_,m=>([],m)
 | f + 1,p,s,m=>if s=0 then ([],m) else
  ((bestM F S 5 p s m).1.2::(orderM F S f (nextP S (bestM F S 5 p s m).1.2.toNat) (s - 2 ^ (bestM F S 5 p s m).1.2.toNat) (bestM F S 5 p s m).2).1,
    (orderM F S f (nextP S (bestM F S 5 p s m).1.2.toNat) (s - 2 ^ (bestM F S 5 p s m).1.2.toNat) (bestM F S 5 p s m).2).2)
def OrdOk (F:Mat) (S:List SpotT):Nat→Nat→Nat→MemB→Prop
 | 0,_,s,_=>s=0
 | f + 1,p,s,m=>s=0∨∃ i:Nat,i ∈ elems s∧(bestM F S 5 p s m).1.2=(i:Int)∧OrdOk F S f (nextP S i) (s - 2 ^ i) (bestM F S 5 p s m).2
theorem z1149 (F:Mat) (S:List SpotT) (f p:Nat) (m:MemB):orderM F S f p 0 m=([],m):=by
 cases f
 ·rfl
 ·rw [orderM,if_pos rfl]
theorem z1350 (A B C:DV) (m:Nat) (F:Mat) (S:List SpotT) (hS:SpotsOk m S) (zf0 s0 p0:Nat) (M0:MemB) (hs0:s0<32) (hi0:∀ i ∈ elems s0,i<S.length) (hp0:p0<m) (hok0:OrdOk F S zf0 p0 s0 M0) (hf0:zf0≤8) :
  FnG Tryd.prog 57 [.mp (some [.i64,.u64]) (memB M0.1) M0.2] [0] [.agg [.d (.ptr (rescC A B C m F S) 0),.mp 0],.d (.i (p0:Int)),.d (uD s0)] (.own 1)
   [.mp (some [.i64,.u64]) (memB (orderM F S zf0 p0 s0 M0).2.1) (orderM F S zf0 p0 s0 M0).2.2,.arr 3 1 (intRows (orderM F S zf0 p0 s0 M0).1)]:=by
 have h55:=z1334 A B C m F S hS 5
 obtain⟨L,hL⟩:∃ L,L=orderM F S zf0 p0 s0 M0:=⟨_,rfl⟩
 rw [← hL]
 simp only [uD,rescC] at h55 ⊢
 refine z35 38 Tryd.call57 Tryd.func57 rfl (by decide) [36] [(0,0)] (by simp only [List.length_cons,List.length_nil];decide) (by kernel_rfl) fun J=>?_
 simp only [go_sem,St.startG,Tryd.ntmps57,Tryd.results57,List.map_cons,List.map_nil,List.range_succ,  ]
 repeat (first|refine nx ?_|(refine z3 fun K hK=>?_;simp only [go_sem];apply hK;clear hK K))
 refine z13 (fun (a:(Nat × Nat × Nat) × List Int × MemB)=>[(1,.d (.i (a.1.2.1:Int))),(2,.d (.int .u64 (a.1.2.2:Int))),(6,.own 36)])
  (fun a=>[(36,some (.arr 3 1 (intRows a.2.1))),(38,some (.mp (some [.i64,.u64]) (memB a.2.2.1) a.2.2.2))])
  (fun a=>a.1.1≤zf0∧a.2.1.length + a.1.1=zf0∧a.1.2.2<32∧(∀ i ∈ elems a.1.2.2,i<S.length)∧a.1.2.1<m∧OrdOk F S a.1.1 a.1.2.1 a.1.2.2 a.2.2∧L=(a.2.1++(orderM F S a.1.1 a.1.2.1 a.1.2.2 a.2.2).1,(orderM F S a.1.1 a.1.2.1 a.1.2.2 a.2.2).2))
  (fun a=>a.1.1) ((zf0,p0,s0),[],M0) ?_ ⟨Nat.le_refl _,by simp,hs0,hi0,hp0,hok0,by rw [hL];rfl⟩ ?_
 ·simp only [go_sem]
  refine z56 [36] ?_ ?_ ?_ ?_
  ·simp [lessT,z79,AV.less]
  ·simp [lessM,lessB,lessT,z79,AV.less,intRows]
  ·first | rfl | simp [liveB,AV.refs,AV.refs.AV.refss,intRows]
  ·first | rfl | simp [liveM,liveB,AV.refs,AV.refs.AV.refss,intRows]
 ·rintro⟨⟨f,p,s⟩,out,es,c⟩ ⟨hf,hlen,hs,hi,hp,hok,hLL⟩
  dsimp only at hf hlen hs hi hp hok hLL
  by_cases h0:s=0
  ·subst h0
   simp only [go_sem]
   repeat (first|refine nx ?_|(refine z3 fun K hK=>?_;simp only [go_sem];apply hK;clear hK K))
   refine z5 (by rfl) ?_
   repeat (first|refine nx ?_|(refine z3 fun K hK=>?_;simp only [go_sem];apply hK;clear hK K))
   rw [z1149,List.append_nil] at hLL
   rw [hLL]
   simp only [go_sem]
  ·have q0:((s:Int) != 0)=true:=by simp;omega
   cases f with
   | zero=>exact absurd hok h0
   | succ f =>
    rw [OrdOk] at hok
    obtain⟨i,hie,hib,hok'⟩:=hok.resolve_left h0
    rw [orderM,if_neg h0,hib,Int.toNat_natCast] at hLL
    have hil:=hi i hie
    have hs5:∀ s:Nat,s<32→(elems s).length≤5:=by decide +kernel
    have h55i:=h55 s p (es,c) hs (hs5 s hs) hi hp
    obtain⟨R,hR⟩:∃ R,R=bestM F S 5 p s (es,c):=⟨_,rfl⟩
    rw [← hR] at h55i hok' hLL hib
    obtain⟨⟨r1,r2⟩,es2,c2⟩:=R
    dsimp only at h55i hok' hLL hib
    subst hib
    obtain⟨u1,u2,u3⟩:=z732 hs hie
    have hpl:=hS.pl (spotAt S i) (List.mem_of_getElem? (z242 hil))
    have hqe:(spotAt S i).pl=(nextP S i:Int):=by rw [nextP];omega
    have hqm:nextP S i<m:=by omega
    have g0:(S.map SpotT.row)[i]?=some [.i (nextP S i:Int),.i (spotAt S i).wt,.i (spotAt S i).se]:=by rw [← hqe,List.getElem?_map,z242 hil];rfl
    have l3:i<(S.map SpotT.row).length:=by simpa using hil
    have n3:¬ ((i:Int)<0):=by omega
    have hsh:=z920 s hs i (z557 hie) hie
    have hol:out.length≤8:=by omega
    have hr39:(intRows out).length≤549755813887:=by rw [z16];omega
    have hpush:intRows out++[[.i (i:Int)]]=intRows (out++[(i:Int)]):=by simp [intRows]
    simp only [go_sem]
    repeat (first|refine nx ?_|(refine z3 fun K hK=>?_;simp only [go_sem,q0];apply hK;clear hK K))
    refine z9 rfl ?_
    repeat (first|refine nx ?_|(refine z3 fun K hK=>?_;simp only [go_sem];apply hK;clear hK K))
    refine z3 fun K hK=>?_
    simp only [go_sem]
    refine⟨_,.inPlace (n:=38) (hf:=h55i) (hn:=rfl) (hb:=rfl) (hla:=rfl) (ha:=z59 (by repeat (first|exact trivial|refine And.intro ?_ ?_|exact z75 rfl|exact z50 rfl rfl))),?_⟩
    simp only [go_sem]
    apply hK
    clear hK K
    repeat (first|refine nx ?_|(refine z3 fun K hK=>?_;simp only [go_sem,hr39];apply hK;clear hK K))
    refine z8 (by kernel_rfl) (by kernel_rfl) fun K hK=>?_
    simp only [go_sem,g0,l3,n3,hsh]
    refine⟨by kernel_rfl,hK _ ?_⟩
    clear hK K
    repeat (first|refine nx ?_|(refine z3 fun K hK=>?_;simp only [go_sem];apply hK;clear hK K))
    refine⟨rfl,((f,nextP S i,s - 2 ^ i),out++[(i:Int)],(es2,c2)),?_,⟨by dsimp only;omega,by simp only [List.length_append,List.length_singleton];omega,u1,fun j hj=>hi j (u3 j hj),hqm,hok',by rw [hLL,List.append_assoc];rfl⟩,by dsimp only;omega⟩
    simp only [go_sem,hpush]
    refine weA ?_ ?_ <;> simp
end Go.Ab
/- A function that writes a map and makes arrays of its own: what it makes is told as a deep value. -/
namespace Go.Ab
open Go.RowKit
theorem FnG.deepMp {P:Program} {f:FuncId} {b0:Blk} {args:List AV} {r:AV} {kk:KK} {es:List (MK × DV × Nat)} {c:Nat} {rest:List Blk} {d:DV} (h:FnG P f [b0] [0] args r (.mp kk es c::rest)) (hr:reify ((.mp kk es c::rest:List Blk).map some) Ab.deep r=some d)
  (h0:∀ n ∈ r.refs,n≠0) (ha:∀ n ∈ r.refs,∃ e z rows,((.mp kk es c::rest:List Blk).map some)[n]?=some (some (.arr e z rows))):FnG P f [b0] [0] args (.d d) [.mp kk es c] :=
 ⟨h.enters,fun base w own μ0 vs h1 h2 h3 h4 h5 h6=>(h.calls base w own μ0 vs h1 h2 h3 h4 h5 h6).mono fun en w' hq=>by
  obtain⟨v,μ1,he,hv,hm,hk,hp⟩:=hq
  obtain⟨μ2,hμ2⟩:∃ μ2:Pl,μ2=fun i=>if i=0 then μ1 0 else none:=⟨_,rfl⟩
  have e0:μ2 0=μ1 0:=by rw [hμ2];rfl
  have hs:∀ i L,μ2 i=some L→i=0∧μ1 0=some L:=fun i L hi=>by
   rw [hμ2] at hi
   dsimp only at hi
   split at hi
   ·exact⟨by assumption,hi⟩
   ·cases hi
  have hsub:∀ q,ownOf own μ2 q→ownOf own μ1 q:=by
   rintro q (h | ⟨i,z,l,c,h⟩)
   ·exact .inl h
   ·exact .inr ⟨0,z,l,c,(hs i _ h).2⟩
  have hg:Goes w' (ownOf own μ1) w' (ownOf own μ2):=fun q o u h1 h2=>⟨fun hc=>h1 (hsub q hc),h2⟩
  refine⟨v,μ2,he,.d (z39 hm (ownOf own μ2) hsub (fun n=>n≠0) (fun n b z l c hn hb hc=>?_) Ab.deep r v d hv hr h0 (.inr ha)),⟨fun n b hb=>?_,fun n hn=>?_,fun n k b z l c z' l' c' q1 q2=>?_,fun n b z l c hn=>?_⟩,⟨hk.keep,fun b hb hno=>?_⟩,fun i hi=>?_⟩
  ·rcases hc with hc | ⟨i,z',l',c',hc⟩
   ·exact (hm.base n b z l c hb).2.2 hc
   ·exact hn (hm.inj n 0 b z l c z' l' c' hb (hs i _ hc).2)
  ·cases n with
   | zero =>
    have e:Blk.mp kk es c=b:=by simpa using hb
    subst e
    exact BlkRel.mapN (μ':=μ2) (n':=0) (h:=fun _=>none) (.inl hg) e0 (fun k _ j hj=>by cases hj) (fun _ _ _ _ _=>rfl) (hm.blk 0 (.mp kk es c) rfl)
   | succ n=>simp at hb
  ·obtain⟨L,hL⟩:=Option.isSome_iff_exists.1 hn
   obtain⟨rfl,_⟩:=hs n L hL
   exact⟨_,rfl⟩
  ·obtain⟨rfl,_⟩:=hs n _ q1
   obtain⟨rfl,_⟩:=hs k _ q2
   rfl
  ·obtain⟨rfl,h⟩:=hs n _ hn
   exact hm.base 0 b z l c h
  ·obtain⟨p1,p2⟩:=hk.stays b hb hno
   exact⟨p1,fun hc=>p2 (hsub b hc)⟩
  ·have:i=0:=by simpa using hi
   subst this
   rw [e0]
   exact hp 0 (by simp)⟩
end Go.Ab
namespace Go.Ab
open Go.RowKit Go.Proofs
set_option maxHeartbeats 8000000
set_option maxRecDepth 20000
attribute [local irreducible] WalkL Walk
def fullN (S:List SpotT):Nat:=2 ^ S.length - 1
def bestP (F:Mat) (S:List SpotT) (b:Nat):(Int × Int) × MemB:=bestM F S 5 b (fullN S) ([],0)
def orderP (F:Mat) (S:List SpotT) (b:Nat):List Int:=(orderM F S 5 b (fullN S) (bestP F S b).2).1
def planC (n:Net) (p:Party) (F:Mat) (base:Int) (S:List SpotT):List Int × Int × Int :=
 if readyE n p [base] S≠0 then ([],0,readyE n p [base] S) else if (bestP F S base.toNat).1.1 ≥ farW then ([],0,3) else (orderP F S base.toNat,(bestP F S base.toNat).1.1,0)
def planD (r:List Int × Int × Int):DV:=.tup [.sl (intRows r.1),.i r.2.1,.i r.2.2]
def OrdP (F:Mat) (S:List SpotT) (b:Nat):Prop:=(bestP F S b).1.1<farW→OrdOk F S 5 b (fullN S) (bestP F S b).2
theorem z1231 {S:List SpotT} (h:S.length≤5):fullN S<32:=by
 have:∀ k:Nat,k≤5→2 ^ k - 1<32:=by decide
 exact this _ h
theorem z1181:∀ k:Nat,k≤5→∀ i ∈ elems (2 ^ k - 1),i<k:=by decide +kernel
theorem z1182:∀ s:Nat,s<32→(elems s).length≤5:=by decide +kernel
theorem z1143 {n:Net} {p:Party} {bases:List Int} {S:List SpotT} (h:readyE n p bases S=0):n.Good∧p.Good∧(1≤S.length∧S.length≤8)∧(∀ s ∈ S,(0≤s.pl∧s.pl<n.places)∧(0≤s.wt∧s.wt≤100)∧(0≤s.se∧s.se≤600))∧(1≤bases.length∧bases.length≤3)∧∀ b ∈ bases,0≤b∧b<n.places:=by
 rw [readyE] at h
 split at h
 ·rename_i hc;exact absurd h hc
 ·rename_i hc
  have hc:=Classical.not_not.1 hc
  obtain⟨g1,g2⟩:=z430.1 hc
  split at h
  ·cases h
  ·rename_i hb
   have hb:badTeams n bases S=false:=by simpa using hb
   simp only [badTeams,Bool.or_eq_false_iff,Bool.not_eq_false',z20,List.any_eq_false] at hb
   obtain⟨h1,h2,h3,h4⟩:=hb
   refine⟨g1,g2,by omega,fun s hs=>?_,by omega,fun b hb=>?_⟩
   ·have h5:badSpot n s=false:=by simpa using h2 s hs
    simp only [badSpot,Bool.or_eq_false_iff,Bool.not_eq_false',z20] at h5
    omega
   ·have h5:badBase n b=false:=by simpa using h4 b hb
    simp only [badBase,Bool.not_eq_false',z20] at h5
    omega
theorem z1360 (n:Net) (p:Party) (F:Mat) (base:Int) (S:List SpotT) (hs:n.Small) (hl:S.length≤5∨readyE n p [base] S≠0) (hl2:S.length<2 ^ 30) (hF:readyE n p [base] S=0→matM n.places.toNat (allM n p)=matM n.places.toNat F)
  (ho:readyE n p [base] S=0→OrdP F S base.toNat):Fn Tryd.prog 21 [.agg n.cells,.agg p.cells,.i base,.sl (S.map SpotT.row)] (planD (planC n p F base S)):=by
 have h53:=z1353 n p [base] S hs (by simp) hl2
 rw [planC,planD]
 by_cases he:readyE n p [base] S=0
 ·obtain⟨hg,hp,hlen,hsp,_,hbase⟩:=z1143 he
  have hb:=hbase base (by simp)
  have hpl:=hg.places
  have hl5:S.length≤5:=hl.resolve_right fun h=>h he
  obtain⟨b,rfl⟩:∃ b:Nat,base=b:=⟨base.toNat,by omega⟩
  have hbm:b<n.places.toNat:=by omega
  have hS:SpotsOk n.places.toNat S:=⟨hl5,fun s hs=>by have:=(hsp s hs).1;omega⟩
  have hf32:=z1231 hl5
  have hfi:∀ i ∈ elems (fullN S),i<S.length:=z1181 _ hl5
  have ho':=ho he
  rw [readyD,he,if_pos rfl,rescN,rescC,hF he] at h53
  rw [if_neg (fun h=>h he)]
  rw [Int.toNat_natCast] at ho' ⊢
  have h54:=z1352 (rescC (.i n.places) (.sl (n.paths.map Path.row)) (timesD n p) n.places.toNat F S)
  have h56:=z1351 (.i n.places) (.sl (n.paths.map Path.row)) (timesD n p) n.places.toNat F S hl5
  have h55:=z1334 (.i n.places) (.sl (n.paths.map Path.row)) (timesD n p) n.places.toNat F S hS 5 (fullN S) b ([],0) hf32 (z1182 _ hf32) hfi hbm
  have h57:=z1350 (.i n.places) (.sl (n.paths.map Path.row)) (timesD n p) n.places.toNat F S hS 5 (fullN S) b (bestP F S b).2 hf32 hfi hbm
  rw [orderP]
  unfold OrdP at ho'
  unfold bestP at ho' h57 ⊢
  obtain⟨R,hR⟩:∃ R,R=bestM F S 5 b (fullN S) ([],0):=⟨_,rfl⟩
  rw [← hR] at h55 ho' h57 ⊢
  obtain⟨⟨cost,r2⟩,es,c⟩:=R
  dsimp only at h55 ho' h57 ⊢
  rw [fullN] at h55 h57
  simp only [rescC,timesD,mapD,uD] at h53 h54 h55 h56 h57
  change FnG Tryd.prog 55 [.mp (some [.i64,.u64]) [] 0] [0] _ _ _ at h55
  refine z11 43 Tryd.call21 Tryd.func21 rfl (by decide) fun J=>?_
  simp only [go_sem,St.start,Tryd.ntmps21,Tryd.results21,Net.cells,Party.cells]
  repeat (first|refine nx ?_|(refine z3 fun K hK=>?_;simp only [go_sem];(repeat (first|(refine⟨_,.lent (hf:=h53) (hd:=rfl) (hr:=rfl),?_⟩;simp only [go_sem])|(refine⟨_,.given (hf:=h53) (hd:=rfl) (ha:=rfl),?_⟩;simp only [go_sem])));apply hK;clear hK K))
  refine z5 (by rfl) ?_
  repeat (first|refine nx ?_|(refine z3 fun K hK=>?_;simp only [go_sem];apply hK;clear hK K))
  refine z3 fun K hK=>?_
  simp only [go_sem]
  refine⟨_,.made (news:=[26]) (hf:=h54) (hd:=rfl) (hn:=by decide) (hl:=rfl) (hnew:=rfl) (hx:=rfl),?_⟩
  simp only [go_sem,List.map_cons,List.map_nil]
  apply hK
  clear hK K
  repeat (first|refine nx ?_|(refine z3 fun K hK=>?_;simp only [go_sem];apply hK;clear hK K))
  refine z8 (by kernel_rfl) (by kernel_rfl) fun K hK=>?_
  simp only [go_sem]
  refine⟨_,.fn (hf:=h56) (hd:=rfl) (hr:=.inl rfl),?_⟩
  simp only [go_sem]
  refine⟨_,.inPlace (n:=26) (hf:=h55) (hn:=rfl) (hb:=rfl) (hla:=rfl) (ha:=z59 (by repeat (first|exact trivial|refine And.intro ?_ ?_|exact z75 rfl|exact z50 rfl rfl))) (hx:=by first|decide|simp [AV.refsAll,AV.refs,AV.refs.AV.refss]),?_⟩
  simp only [go_sem]
  refine⟨by kernel_rfl,hK _ ?_⟩
  clear hK K
  by_cases hc:cost ≥ farW
  ·have hd:decide (cost ≥ 1099511627776)=true:=by simpa [farW] using hc
   rw [if_pos hc]
   repeat (first|refine nx ?_|(refine z3 fun K hK=>?_;simp only [go_sem,hd];apply hK;clear hK K))
   refine z9 rfl ?_
   repeat (first|refine nx ?_|(refine z3 fun K hK=>?_;simp only [go_sem];apply hK;clear hK K))
   simp only [go_sem,intRows,List.map_nil]
  ·have hd:decide (cost ≥ 1099511627776)=false:=by simpa [farW] using hc
   rw [if_neg hc]
   have h57o:=h57 (by have:=ho' (by omega);rwa [fullN] at this) (by decide)
   obtain⟨O,hO⟩:∃ O,O=orderM F S 5 b (2 ^ S.length - 1) (es,c):=⟨_,rfl⟩
   rw [fullN,← hO]
   rw [← hO] at h57o
   obtain⟨ol,es2,c2⟩:=O
   dsimp only at h57o ⊢
   have h57d:=h57o.deepMp (d:=.sl (intRows ol)) rfl (by simp [AV.refs]) (by simp [AV.refs])
   repeat (first|refine nx ?_|(refine z3 fun K hK=>?_;simp only [go_sem,hd];apply hK;clear hK K))
   refine z5 rfl ?_
   repeat (first|refine nx ?_|(refine z3 fun K hK=>?_;simp only [go_sem];apply hK;clear hK K))
   refine z8 (by kernel_rfl) (by kernel_rfl) fun K hK=>?_
   simp only [go_sem]
   refine⟨_,.fn (hf:=h56) (hd:=rfl) (hr:=.inl rfl),?_⟩
   simp only [go_sem]
   refine⟨_,.inPlace (n:=26) (hf:=h57d) (hn:=rfl) (hb:=rfl) (hla:=rfl) (ha:=z59 (by repeat (first|exact trivial|refine And.intro ?_ ?_|exact z75 rfl|exact z50 rfl rfl))) (hx:=by first|decide|simp [AV.refsAll,AV.refs,AV.refs.AV.refss]),?_⟩
   simp only [go_sem]
   refine⟨by kernel_rfl,hK _ ?_⟩
   clear hK K
   repeat (first|refine nx ?_|(refine z3 fun K hK=>?_;simp only [go_sem];apply hK;clear hK K))
   simp only [go_sem]
 ·have hne:(readyE n p [base] S != 0)=true:=by simpa using he
  rw [if_pos he]
  rw [readyD,if_neg he] at h53
  change Fn Tryd.prog 53 [_,_,.sl [[.i base]],_] _ at h53
  refine z11 43 Tryd.call21 Tryd.func21 rfl (by decide) fun J=>?_
  simp only [go_sem,St.start,Tryd.ntmps21,Tryd.results21,Net.cells,Party.cells]
  rw [Net.cells,Party.cells] at h53
  repeat (first|refine nx ?_|(refine z3 fun K hK=>?_;simp only [go_sem];(repeat (first|(refine⟨_,.lent (hf:=h53) (hd:=rfl) (hr:=rfl),?_⟩;simp only [go_sem])|(refine⟨_,.given (hf:=h53) (hd:=rfl) (ha:=rfl),?_⟩;simp only [go_sem])));apply hK;clear hK K))
  refine z6 rfl (fun _=>?_) (fun hc=>by rw [hne] at hc;cases hc)
  repeat (first|refine nx ?_|(refine z3 fun K hK=>?_;simp only [go_sem];apply hK;clear hK K))
  simp only [go_sem,intRows,List.map_nil]
end Go.Ab
namespace Go.Ab
open Go.RowKit Go.Proofs
set_option maxRecDepth 100000
def getL (W:List (List Int)) (a b:Nat):Int:=(W.getD a []).getD b 0
def setLL (W:List (List Int)) (a b:Nat) (v:Int):List (List Int):=W.set a ((W.getD a []).set b v)
def relaxLL (p:Party) (W:List (List Int)) (w:Nat × Path):List (List Int):=setLL W w.2.frm.toNat w.2.to.toNat (min (getL W w.2.frm.toNat w.2.to.toNat) (spanW w.2 p).hi)
def viaLL (v:Nat) (W:List (List Int)) (a b:Nat):List (List Int):=setLL W a b (min (getL W a b) (wr (getL W a v + getL W v b)))
def allLL (n:Net) (p:Party):List (List Int) :=
 let m:=n.places.toNat
 (List.range m).foldl (fun F v=>(List.range m).foldl (fun F a=>(List.range m).foldl (fun F b=>viaLL v F a b) F) F) ((canL n p).foldl (relaxLL p) (matM m zeroM))
theorem z295 {m:Nat} {F:Mat} {a b:Nat} (ha:a<m) (hb:b<m):getL (matM m F) a b=F a b:=by
 simp only [getL,List.getD_eq_getElem?_getD,z96 ha,Option.getD_some,z86 hb]
theorem z670 {m:Nat} {F:Mat} {a b:Nat} (ha:a<m) (v:Int):setLL (matM m F) a b v=matM m (updM F a b v):=by
 simp only [setLL,List.getD_eq_getElem?_getD,z96 ha,Option.getD_some,z544]
theorem z1057 {m:Nat} {p:Party} {F:Mat} {w:Nat × Path} (ha:w.2.frm.toNat<m) (hb:w.2.to.toNat<m):relaxLL p (matM m F) w=matM m (relaxM p F w):=by
 rw [relaxLL,z295 ha hb,z670 ha,relaxM]
theorem z1205 {m v a b:Nat} {F:Mat} (hv:v<m) (ha:a<m) (hb:b<m):viaLL v (matM m F) a b=matM m (viaM v F a b):=by
 rw [viaLL,z295 ha hb,z295 ha hv,z295 hv hb,z670 ha,viaM]
theorem z227 {α:Type} {m:Nat} (f:List (List Int)→α→List (List Int)) (g:Mat→α→Mat):∀ (l:List α) (F:Mat),(∀ F,∀ x ∈ l,f (matM m F) x=matM m (g F x))→l.foldl f (matM m F)=matM m (l.foldl g F)
 | [],F,_=>rfl
 | x::l,F,h=>by
  rw [List.foldl_cons,h F x (by simp),List.foldl_cons]
  exact z227 f g l _ fun F y hy=>h F y (by simp [hy])
theorem z1240 {n:Net} (p:Party) (hg:n.Good):allLL n p=matM n.places.toNat (allM n p):=by
 rw [allLL,allM]
 rw [z227 (relaxLL p) (relaxM p) _ _ (fun F w hw=>by
  obtain⟨_,h2,_⟩:=z192 hw
  have:=hg.path w.2 (List.mem_of_getElem? h2)
  exact z1057 (by have:=this.frm;omega) (by have:=this.to;omega))]
 refine z227 _ _ _ _ fun F v hv=>?_
 refine z227 _ _ _ _ fun F a ha=>?_
 refine z227 _ _ _ _ fun F b hb=>?_
 exact z1205 (List.mem_range.1 hv) (List.mem_range.1 ha) (List.mem_range.1 hb)
def exM:Missed:=⟨exP,0,300,600,30,[⟨420,2,true⟩,⟨500,4,false⟩,⟨560,9,true⟩]⟩
end Go.Ab
namespace Go.Ab
open Go.RowKit Go.Proofs
set_option maxHeartbeats 8000000
set_option maxRecDepth 20000
attribute [local irreducible] WalkL Walk
def exSpots:List (List DV):=[[.i 3,.i 50,.i 60],[.i 1,.i 30,.i 20],[.i 2,.i 20,.i 40]]
theorem z1354:Fn Tryd.prog 46 [] (.tup [.agg exN.cells,.agg exM.row,.sl exSpots]):=by
 have h49:=z1344
 refine z11 20 Tryd.call46 Tryd.func46 rfl (by decide) fun J=>?_
 simp only [go_sem,St.start,Tryd.ntmps46,Tryd.results46,]
 repeat (first|refine nx ?_|(refine z3 fun K hK=>?_;simp only [go_sem,exN,exP,Net.cells,Party.cells,Path.row,Span.row];(repeat (first|(refine⟨_,.lent (hf:=h49) (hd:=rfl) (hr:=rfl),?_⟩;simp only [go_sem,exN,exP,Net.cells,Party.cells,Path.row,Span.row])|(refine⟨_,.given (hf:=h49) (hd:=rfl) (ha:=rfl),?_⟩;simp only [go_sem,exN,exP,Net.cells,Party.cells,Path.row,Span.row])));apply hK;clear hK K))
 refine z8 (by kernel_rfl) (by kernel_rfl) fun K hK=>?_
 simp only [go_sem,exN,exP,Net.cells,Party.cells,Path.row,Span.row]
 refine⟨by kernel_rfl,hK _ ?_⟩
 clear hK K
 repeat (first|refine nx ?_|(refine z3 fun K hK=>?_;simp only [go_sem];apply hK;clear hK K))
 simp only [go_sem]
 rfl
end Go.Ab
namespace Go.Ab
open Go.RowKit Go.Proofs
set_option maxHeartbeats 4000000
set_option maxRecDepth 20000
attribute [local irreducible] WalkL Walk
def staysF (cl:List Clue) (place top:Int):Nat→Int→List Int
 | 0,_=>[]
 | f + 1,m=>if m≤top∧atB cl place m=true then m::staysF cl place top f (m + 1) else []
def staysL (x:Missed) (place m most:Int):List Int:=staysF x.clues place (min most x.now) (min most x.now - m + 1).toNat m
theorem z354 {α:Type} {l:List α} {j:Nat} {x:α} {r:List α} (h:l.drop j=x::r):l[j]?=some x∧l.drop (j + 1)=r∧j<l.length:=by
 have h1:l[j]?=some x:=by
  have:=congrArg (fun l=>l[0]?) h
  simpa using this
 refine⟨h1,?_,(List.getElem?_eq_some_iff.1 h1).1⟩
 have:=congrArg (List.drop 1) h
 simpa [Nat.add_comm] using this
theorem z136 {α:Type} {l:List α} {j:Nat} (h:l.drop j=[]) (hj:j≤l.length):j=l.length:=by
 have:=List.drop_eq_nil_iff.1 h
 omega
def minRows (l:List Int):List (List DV):=l.map fun m=>[.i m]
theorem z329 {l:List Int} {j:Nat} {m:Int} (h:l[j]?=some m):(minRows l)[j]?=some [.i m]:=by simp [minRows,h]
def trkB (n:Net) (x:Missed):List DV:=[.ptr (huntC n x) 0]
theorem z1227 (n:Net) (x:Missed) (place m0 most:Int) (hp:0≤place) (hm:0≤m0∧m0≤2 ^ 40) (hn:x.now≤2 ^ 40) (hl:x.clues.length<2 ^ 62) :
  IterB Tryd.prog 102 (fun b=>[.ptr [.i place,.i m0] 0,.ptr [.i most] 0,.ptr [.raw b 0] 0]) ((trkB n x).map some) (minRows (staysL x place m0 most)):=by
 refine z463 40 Tryd.call102 Tryd.func102 rfl rfl fun l J B pb hS hG hP=>?_
 simp only [go_sem,St.start,Tryd.ntmps102]
 repeat (first|refine nx ?_|(refine z3 fun K hK=>?_;simp only [go_sem];apply hK;clear hK K))
 obtain⟨L,hL⟩:∃ L,L=staysL x place m0 most:=⟨_,rfl⟩
 obtain⟨top,htop⟩:∃ top,top=min most x.now:=⟨_,rfl⟩
 rw [← hL]
 have hL0:L=staysF x.clues place top (top - m0 + 1).toNat m0:=by rw [hL,staysL,htop]
 refine z60 (fun (j:Nat)=>[(5,.d (.i (m0 + j)))]) (fun _=>[]) (fun k j=>k=some j∧j≤L.length∧L.drop j=staysF x.clues place top ((top - m0 + 1).toNat - j) (m0 + j)) (fun j=>(top - m0 + 1).toNat + 1 - j) 0 ?_ ⟨rfl,Nat.zero_le _,by simpa using hL0⟩ ?_
 ·simp only [go_sem]
  refine weA ?_ ?_ <;> simp
 ·rintro k j ⟨rfl,hj,hd⟩
  simp only [go_sem]
  have hc9:(huntC n x)[9]?=some (.i x.now):=rfl
  repeat refine nx ?_
  have h74:=z1204 n x place (m0 + j) hp hl
  by_cases h1:m0 + (j:Int)≤min most x.now
  ·have hb1:decide (m0 + (j:Int)≤min most x.now)=true:=by simpa using h1
   have hf1:(top - m0 + 1).toNat - j=((top - m0 + 1).toNat - (j + 1)) + 1:=by omega
   have hw:IntKind.i64.wrap (m0 + (j:Int) + 1)=m0 + ((j + 1:Nat):Int):=by rw [z10 (by omega)];omega
   rw [hf1,staysF] at hd
   by_cases h2:atB x.clues place (m0 + j)=true
   ·rw [if_pos ⟨by omega,h2⟩] at hd
    obtain⟨hg,hd2,hlt⟩:=z354 hd
    refine z166 hS hG hP 25 (by kernel_rfl) (by kernel_rfl) (by kernel_rfl) (by decide) rfl fun K hK=>?_
    simp only [go_sem,trkB,hc9,hb1]
    refine⟨_,.fn (hf:=h74) (hd:=rfl) (hr:=.inl rfl),?_⟩
    simp only [go_sem,hb1,h2]
    refine⟨by kernel_rfl,?_⟩
    refine⟨rfl,j,[.i (m0 + j)],rfl,rfl,by rw [← hL];exact z329 hg,?_,?_⟩
    ·simp only [go_sem]
     refine hK _ _ ?_
     clear hK K
     refine z9 rfl ?_
     repeat (first|refine nx ?_|(refine z3 fun K hK=>?_;simp only [go_sem,hw];apply hK;clear hK K))
     refine⟨j + 1,?_,⟨rfl,hlt,by rw [hd2];congr 1;omega⟩,by omega⟩
     refine weA ?_ ?_ <;> simp
    ·simp only [go_sem]
     refine hK _ _ ?_
     clear hK K
     refine z5 rfl ?_
     repeat (first|refine nx ?_|(refine z3 fun K hK=>?_;simp only [go_sem];apply hK;clear hK K))
     exact⟨trivial,.inr rfl⟩
   ·rw [if_neg (fun hc=>h2 hc.2)] at hd
    have h2:atB x.clues place (m0 + j)=false:=by simpa using h2
    have he:=z136 hd hj
    refine z166 hS hG hP 25 (by kernel_rfl) (by kernel_rfl) (by kernel_rfl) (by decide) rfl fun K hK=>?_
    simp only [go_sem,trkB,hc9,hb1]
    refine⟨_,.fn (hf:=h74) (hd:=rfl) (hr:=.inl rfl),?_⟩
    simp only [go_sem,hb1,h2]
    refine⟨by kernel_rfl,?_⟩
    refine hK _ _ ?_
    clear hK K
    refine z5 rfl ?_
    repeat (first|refine nx ?_|(refine z3 fun K hK=>?_;simp only [go_sem];apply hK;clear hK K))
    exact⟨trivial,.inl (by rw [he,minRows,List.length_map])⟩
  ·have hb1:decide (m0 + (j:Int)≤min most x.now)=false:=by simpa using h1
   have he:j=L.length:=by
    refine z136 ?_ hj
    rw [hd]
    cases hf:(top - m0 + 1).toNat - j with
    | zero=>rfl
    | succ f=>rw [staysF,if_neg (fun hc=>h1 (by rw [← htop];exact hc.1))]
   refine z166 hS hG hP 25 (by kernel_rfl) (by kernel_rfl) (by kernel_rfl) (by decide) rfl fun K hK=>?_
   simp only [go_sem,trkB,hc9,hb1]
   refine⟨by kernel_rfl,?_⟩
   refine hK _ _ ?_
   clear hK K
   refine z5 rfl ?_
   repeat (first|refine nx ?_|(refine z3 fun K hK=>?_;simp only [go_sem];apply hK;clear hK K))
   exact⟨trivial,.inl (by rw [he,minRows,List.length_map])⟩
theorem z1085 (n:Net) (x:Missed) (a b:DV) (place m0 most:Int) (hp:0≤place) (hm:0≤m0∧m0≤2 ^ 40) (hn:x.now≤2 ^ 40) (hl:x.clues.length<2 ^ 62) :
  IterE Tryd.prog 102 [] (fun l=>[.d (.yld l),.d (.ptr [.i place,.i m0] 0),.d (.ptr [.i most] 0),.d (.ptr [.ptr [.ptr (huntC n x) 0,a,b] 0] 0)]) (minRows (staysL x place m0 most)):=by
 refine z254 40 Tryd.call102 Tryd.func102 rfl rfl fun l J hG=>?_
 simp only [go_sem,St.startG,Tryd.ntmps102,Tryd.results102,List.map_cons,List.map_nil,List.range_succ,  ]
 repeat (first|refine nx ?_|(refine z3 fun K hK=>?_;simp only [go_sem];apply hK;clear hK K))
 obtain⟨L,hL⟩:∃ L,L=staysL x place m0 most:=⟨_,rfl⟩
 obtain⟨top,htop⟩:∃ top,top=min most x.now:=⟨_,rfl⟩
 rw [← hL]
 have hL0:L=staysF x.clues place top (top - m0 + 1).toNat m0:=by rw [hL,staysL,htop]
 refine z60 (fun (j:Nat)=>[(5,.d (.i (m0 + j)))]) (fun _=>[]) (fun k j=>k=some j∧j≤L.length∧L.drop j=staysF x.clues place top ((top - m0 + 1).toNat - j) (m0 + j)) (fun j=>(top - m0 + 1).toNat + 1 - j) 0 ?_ ⟨rfl,Nat.zero_le _,by simpa using hL0⟩ ?_
 ·simp only [go_sem]
  refine weA ?_ ?_ <;> simp
 ·rintro k j ⟨rfl,hj,hd⟩
  simp only [go_sem]
  have hc9:(huntC n x)[9]?=some (.i x.now):=rfl
  repeat refine nx ?_
  have h74:=z1204 n x place (m0 + j) hp hl
  by_cases h1:m0 + (j:Int)≤min most x.now
  ·have hb1:decide (m0 + (j:Int)≤min most x.now)=true:=by simpa using h1
   have hf1:(top - m0 + 1).toNat - j=((top - m0 + 1).toNat - (j + 1)) + 1:=by omega
   have hw:IntKind.i64.wrap (m0 + (j:Int) + 1)=m0 + ((j + 1:Nat):Int):=by rw [z10 (by omega)];omega
   rw [hf1,staysF] at hd
   by_cases h2:atB x.clues place (m0 + j)=true
   ·rw [if_pos ⟨by omega,h2⟩] at hd
    obtain⟨hg,hd2,hlt⟩:=z354 hd
    refine z64 hG [] 25 (by kernel_rfl) (by kernel_rfl) (by kernel_rfl) (by decide) fun K hK=>?_
    simp only [go_sem,hc9,hb1]
    refine⟨_,.fn (hf:=h74) (hd:=rfl) (hr:=.inl rfl),?_⟩
    simp only [go_sem,hb1,h2]
    refine⟨by kernel_rfl,?_⟩
    refine⟨rfl,j,[.i (m0 + j)],rfl,rfl,rfl,by rw [← hL];exact z329 hg,?_,?_⟩
    ·simp only [go_sem]
     refine hK _ _ ?_
     clear hK K
     refine z9 rfl ?_
     repeat (first|refine nx ?_|(refine z3 fun K hK=>?_;simp only [go_sem,hw];apply hK;clear hK K))
     refine⟨j + 1,?_,⟨rfl,hlt,by rw [hd2];congr 1;omega⟩,by omega⟩
     refine weA ?_ ?_ <;> simp
    ·simp only [go_sem]
     refine hK _ _ ?_
     clear hK K
     refine z5 rfl ?_
     repeat (first|refine nx ?_|(refine z3 fun K hK=>?_;simp only [go_sem];apply hK;clear hK K))
     exact⟨trivial,.inr rfl⟩
   ·rw [if_neg (fun hc=>h2 hc.2)] at hd
    have h2:atB x.clues place (m0 + j)=false:=by simpa using h2
    have he:=z136 hd hj
    refine z64 hG [] 25 (by kernel_rfl) (by kernel_rfl) (by kernel_rfl) (by decide) fun K hK=>?_
    simp only [go_sem,hc9,hb1]
    refine⟨_,.fn (hf:=h74) (hd:=rfl) (hr:=.inl rfl),?_⟩
    simp only [go_sem,hb1,h2]
    refine⟨by kernel_rfl,?_⟩
    refine hK _ _ ?_
    clear hK K
    refine z5 rfl ?_
    repeat (first|refine nx ?_|(refine z3 fun K hK=>?_;simp only [go_sem];apply hK;clear hK K))
    exact⟨trivial,.inl (by rw [he,minRows,List.length_map])⟩
  ·have hb1:decide (m0 + (j:Int)≤min most x.now)=false:=by simpa using h1
   have he:j=L.length:=by
    refine z136 ?_ hj
    rw [hd]
    cases hf:(top - m0 + 1).toNat - j with
    | zero=>rfl
    | succ f=>rw [staysF,if_neg (fun hc=>h1 (by rw [← htop];exact hc.1))]
   refine z64 hG [] 25 (by kernel_rfl) (by kernel_rfl) (by kernel_rfl) (by decide) fun K hK=>?_
   simp only [go_sem,hc9,hb1]
   refine⟨by kernel_rfl,?_⟩
   refine hK _ _ ?_
   clear hK K
   refine z5 rfl ?_
   repeat (first|refine nx ?_|(refine z3 fun K hK=>?_;simp only [go_sem];apply hK;clear hK K))
   exact⟨trivial,.inl (by rw [he,minRows,List.length_map])⟩
end Go.Ab
namespace Go.Ab
open Go.RowKit Go.Proofs
set_option maxHeartbeats 4000000
set_option maxRecDepth 20000
attribute [local irreducible] WalkL Walk
def walksF (cl:List Clue):Nat→Int→List (Int × Bool)
 | 0,_=>[]
 | f + 1,m=>(m,onB8 cl m)::if onB8 cl m=true then walksF cl f (m + 1) else []
def walksL (x:Missed) (leave:Int):List (Int × Bool):=walksF x.clues (x.now - leave).toNat (leave + 1)
def wkRows (l:List (Int × Bool)):List (List DV):=l.map fun m=>[.i m.1,.bool m.2]
theorem z927 {l:List (Int × Bool)} {j:Nat} {m:Int × Bool} (h:l[j]?=some m):(wkRows l)[j]?=some [.i m.1,.bool m.2]:=by simp [wkRows,h]
theorem z1226 (n:Net) (x:Missed) (leave:Int) (hm:0≤leave∧leave≤2 ^ 40) (hn:x.now≤2 ^ 40) (hl:x.clues.length<2 ^ 62) :
  IterB Tryd.prog 103 (fun b=>[.ptr [.i leave] 0,.ptr [.raw b 0] 0]) ((trkB n x).map some) (wkRows (walksL x leave)):=by
 refine z463 40 Tryd.call103 Tryd.func103 rfl rfl fun l J B pb hS hG hP=>?_
 have hw0:IntKind.i64.wrap (leave + 1)=leave + 1 + ((0:Nat):Int):=by rw [z10 (by omega)];omega
 simp only [go_sem,St.start,Tryd.ntmps103]
 repeat (first|refine nx ?_|(refine z3 fun K hK=>?_;simp only [go_sem,hw0];apply hK;clear hK K))
 obtain⟨L,hL⟩:∃ L,L=walksL x leave:=⟨_,rfl⟩
 rw [← hL]
 have hL0:L=walksF x.clues (x.now - leave).toNat (leave + 1):=by rw [hL,walksL]
 refine z60 (fun (j:Nat)=>[(4,.d (.i (leave + 1 + j)))]) (fun _=>[]) (fun k j=>k=some j∧j≤L.length∧L.drop j=walksF x.clues ((x.now - leave).toNat - j) (leave + 1 + j)) (fun j=>(x.now - leave).toNat + 1 - j) 0 ?_ ⟨rfl,Nat.zero_le _,by simpa using hL0⟩ ?_
 ·simp only [go_sem]
  refine weA ?_ ?_ <;> simp
 ·rintro k j ⟨rfl,hj,hd⟩
  have hc9:(huntC n x)[9]?=some (.i x.now):=rfl
  have h77:=z1305 n x (leave + 1 + j) hl
  have tr:trkB n x=[.ptr (huntC n x) 0]:=rfl
  simp only [go_sem]
  repeat refine nx ?_
  refine z140 hS hG hP fun K hK=>?_
  simp only [go_sem,tr,List.map_cons,List.map_nil,hc9]
  refine hK _ _ ?_
  clear hK K
  refine z6 rfl (fun hb=>?_) (fun hb=>?_)
  ·have hb1:leave + 1 + (j:Int)≤x.now:=by simpa using hb
   have hf1:(x.now - leave).toNat - j=((x.now - leave).toNat - (j + 1)) + 1:=by omega
   have hw:IntKind.i64.wrap (leave + 1 + (j:Int) + 1)=leave + 1 + ((j + 1:Nat):Int):=by rw [z10 (by omega)];omega
   rw [hf1,walksF] at hd
   obtain⟨hg,hd2,hlt⟩:=z354 hd
   repeat refine nx ?_
   refine z140 hS hG hP fun K hK=>?_
   simp only [go_sem,tr,List.map_cons,List.map_nil]
   refine⟨_,.lent (hf:=h77) (hd:=rfl) (hr:=rfl),?_⟩
   simp only [go_sem]
   refine hK _ _ ?_
   clear hK K
   repeat refine nx ?_
   refine z140 hS hG hP fun K hK=>?_
   simp only [go_sem,tr,List.map_cons,List.map_nil]
   refine⟨rfl,j,[.i (leave + 1 + j),.bool (onB8 x.clues (leave + 1 + j))],rfl,rfl,by rw [← hL];exact z927 hg,?_,?_⟩
   ·by_cases ho:onB8 x.clues (leave + 1 + j)=true
    ·rw [if_pos ho] at hd2
     simp only [go_sem,ho]
     refine hK _ _ ?_
     clear hK K
     refine z5 rfl ?_
     repeat (first|refine nx ?_|(refine z3 fun K hK=>?_;simp only [go_sem,hw];apply hK;clear hK K))
     refine⟨j + 1,?_,⟨rfl,hlt,by rw [hd2];congr 1;omega⟩,by omega⟩
     refine weA ?_ ?_ <;> simp
    ·rw [if_neg ho] at hd2
     have ho:onB8 x.clues (leave + 1 + j)=false:=by simpa using ho
     have he:=z136 hd2 hlt
     simp only [go_sem,ho]
     refine hK _ _ ?_
     clear hK K
     refine z9 rfl ?_
     repeat (first|refine nx ?_|(refine z3 fun K hK=>?_;simp only [go_sem];apply hK;clear hK K))
     exact⟨trivial,.inl (by rw [he,wkRows,List.length_map])⟩
   ·simp only [go_sem]
    refine hK _ _ ?_
    clear hK K
    refine z9 rfl ?_
    repeat (first|refine nx ?_|(refine z3 fun K hK=>?_;simp only [go_sem];apply hK;clear hK K))
    exact⟨trivial,.inr rfl⟩
  ·have he:j=L.length:=by
    have hb1:¬ leave + 1 + (j:Int)≤x.now:=by simpa using hb
    refine z136 ?_ hj
    rw [hd,show (x.now - leave).toNat - j=0 by omega]
    rfl
   repeat (first|refine nx ?_|(refine z3 fun K hK=>?_;simp only [go_sem];apply hK;clear hK K))
   exact⟨trivial,.inl (by rw [he,wkRows,List.length_map])⟩
end Go.Ab
namespace Go.Ab
open Go.RowKit Go.Proofs
set_option maxHeartbeats 4000000
set_option maxRecDepth 20000
attribute [local irreducible] WalkL Walk
structure Arv where
 pl:Int
 mi:Int
 fp:Int
 fm:Int
 pa:Int
 lv:Int
def Arv.spot (a:Arv):List DV:=[.i a.pl,.i a.mi]
def Arv.leg (a:Arv):List DV:=[.i a.fp,.i a.fm,.i a.pa,.i a.lv]
def keyS (p m:Int):MK:=.s [(.i64,p),(.i64,m)]
def entsA:List Arv→Nat→List (MK × DV × Nat)
 | [],_=>[]
 | a::l,j=>(keyS a.pl a.mi,.agg a.leg,j)::entsA l (j + 1)
def arvRows (A:List Arv):List (List DV):=A.map Arv.spot
def legsB (A:List Arv):Blk:=.mp (some [.i64,.i64]) (entsA A 0) A.length
def trkM (h:DV) (A:List Arv):List Blk:=[.box [.d h,.mp 1,.own 2],legsB A,.arr 114 2 (arvRows A)]
def sameS (a b:Arv):Bool:=b.pl == a.pl && b.mi == a.mi
def arriveA (cl:List Clue) (A:List Arv) (a:Arv):List Arv:=if A.any (sameS a) || !atB cl a.pl a.mi then A else A++[a]
theorem z477 (a:Arv):∀ (l:List Arv) (j:Nat),entsA (l++[a]) j=entsA l j++[(keyS a.pl a.mi,.agg a.leg,j + l.length)]
 | [],j=>by simp [entsA]
 | x::l,j=>by simp [entsA,z477 a l];omega
theorem z190 {a b c d:Int}:keyS a b=keyS c d↔a=c∧b=d:=by simp [keyS]
theorem z478 (a:Arv):∀ (l:List Arv) (j i:Nat),l.any (sameS a)=false→findE (entsA l j) (keyS a.pl a.mi) i=none
 | [],_,_,_=>rfl
 | b::l,j,i,h=>by
  simp only [List.any_cons,Bool.or_eq_false_iff] at h
  rw [entsA,findE,if_neg (by rw [z190];intro hc;simp [sameS,hc.1,hc.2] at h)]
  exact z478 a l _ _ h.2
theorem z476 (a:Arv):∀ (l:List Arv) (j i:Nat),l.any (sameS a)=true→∃ q b s,b ∈ l∧sameS a b=true∧findE (entsA l j) (keyS a.pl a.mi) i=some (q,.agg b.leg,s)
 | [],_,_,h=>by simp at h
 | b::l,j,i,h=>by
  by_cases hb:sameS a b=true
  ·refine⟨i,b,j,by simp,hb,?_⟩
   rw [entsA,findE,if_pos (by rw [z190];simp [sameS] at hb;exact⟨hb.1.symm,hb.2.symm⟩)]
  ·have hb:sameS a b=false:=by simpa using hb
   simp only [List.any_cons,hb,Bool.false_or] at h
   obtain⟨q,c,s,h1,h2,h3⟩:=z476 a l (j + 1) (i + 1) h
   refine⟨q,c,s,by simp [h1],h2,?_⟩
   rw [entsA,findE,if_neg (by rw [z190];intro hc;simp [sameS,hc.1,hc.2] at hb)]
   exact h3
theorem z1327 (T:List DV) (place m0 most:Int):Fn Tryd.prog 84 [.ptr T 0,.agg [.i place,.i m0],.i most] (.fn 102 [.ptr [.i place,.i m0] 0,.ptr [.i most] 0,.ptr [.ptr T 0] 0]):=by
 refine z11 8 Tryd.call84 Tryd.func84 rfl (by decide) fun J=>?_
 simp only [go_sem,St.start,Tryd.ntmps84,Tryd.results84]
 repeat (first|refine nx ?_|(refine z3 fun K hK=>?_;simp only [go_sem];apply hK;clear hK K))
 simp only [go_sem]
theorem z1281 (h:DV) (A:List Arv) (place m0 most:Int):FnG Tryd.prog 84 (trkM h A) [0] [.box 0 0,.d (.agg [.i place,.i m0]),.d (.i most)] (.fn 102 [.box 3 0,.box 4 0,.box 5 0]) (trkM h A++[.box [.d (.i place),.d (.i m0)],.box [.d (.i most)],.box [.box 0 0]]):=by
 simp only [trkM,legsB]
 refine z35 8 Tryd.call84 Tryd.func84 rfl (by decide) [4,5,3] [(0,0)] (by simp only [List.length_cons,List.length_nil];decide) (by kernel_rfl) fun J=>?_
 simp only [go_sem,St.startG,Tryd.ntmps84,Tryd.results84,List.map_cons,List.map_nil,List.range_succ,  ]
 repeat (first|refine nx ?_|(refine z3 fun K hK=>?_;simp only [go_sem];apply hK;clear hK K))
 simp only [go_sem,List.cons_append,List.nil_append]
theorem z1280 (h:DV) (A:List Arv) (leave:Int):FnG Tryd.prog 85 (trkM h A) [0] [.box 0 0,.d (.i leave)] (.fn 103 [.box 3 0,.box 4 0]) (trkM h A++[.box [.d (.i leave)],.box [.box 0 0]]):=by
 simp only [trkM,legsB]
 refine z35 6 Tryd.call85 Tryd.func85 rfl (by decide) [3,2] [(0,0)] (by simp only [List.length_cons,List.length_nil];decide) (by kernel_rfl) fun J=>?_
 simp only [go_sem,St.startG,Tryd.ntmps85,Tryd.results85,List.map_cons,List.map_nil,List.range_succ,  ]
 repeat (first|refine nx ?_|(refine z3 fun K hK=>?_;simp only [go_sem];apply hK;clear hK K))
 simp only [go_sem,List.cons_append,List.nil_append]
theorem z1328 (n:Net) (x:Missed) (A:List Arv) (a:Arv) (hp:0≤a.pl) (hl:x.clues.length<2 ^ 62) (hA:A.length<2 ^ 30) :
  FnG Tryd.prog 83 (trkM (.ptr (huntC n x) 0) A) [0] [.box 0 0,.d (.agg a.spot),.d (.agg a.leg)] (.tup []) (trkM (.ptr (huntC n x) 0) (arriveA x.clues A a)):=by
 have h74:=z1204 n x a.pl a.mi hp hl
 simp only [trkM,legsB,Arv.spot,Arv.leg]
 by_cases hk:A.any (sameS a)=true
 ·obtain⟨q,b,s,_,_,hf⟩:=z476 a A 0 0 hk
  rw [keyS] at hf
  have e:arriveA x.clues A a=A:=by rw [arriveA,hk];rfl
  rw [e]
  refine z35 46 Tryd.call83 Tryd.func83 rfl (by decide) [] [(0,0)] (by simp only [List.length_cons,List.length_nil];decide) (by kernel_rfl) fun J=>?_
  simp only [go_sem,St.startG,Tryd.ntmps83,Tryd.results83,List.map_cons,List.map_nil,List.range_succ,  ]
  repeat (first|refine nx ?_|(refine z3 fun K hK=>?_;simp only [go_sem,hf,Arv.leg];apply hK;clear hK K)|(refine z8 (by kernel_rfl) (by kernel_rfl) fun K hK=>?_;simp only [go_sem,hf,Arv.leg];refine⟨by kernel_rfl,hK _ ?_⟩;clear hK K))
  refine z5 rfl ?_
  repeat (first|refine nx ?_|(refine z3 fun K hK=>?_;simp only [go_sem];apply hK;clear hK K))
  simp only [go_sem]
 ·have hk:A.any (sameS a)=false:=by simpa using hk
  have hf:=z478 a A 0 0 hk
  rw [keyS] at hf
  by_cases ha:atB x.clues a.pl a.mi=true
  ·have e:arriveA x.clues A a=A++[a]:=by rw [arriveA,hk,ha];rfl
   rw [e]
   refine z35 46 Tryd.call83 Tryd.func83 rfl (by decide) [] [(0,0)] (by simp only [List.length_cons,List.length_nil];decide) (by kernel_rfl) fun J=>?_
   simp only [go_sem,St.startG,Tryd.ntmps83,Tryd.results83,List.map_cons,List.map_nil,List.range_succ,  ]
   repeat (first|refine nx ?_|(refine z3 fun K hK=>?_;simp only [go_sem,hf,ha];(repeat (first|(refine⟨_,.lent (hf:=h74) (hd:=rfl) (hr:=rfl),?_⟩;simp only [go_sem,hf,ha])|(refine⟨_,.given (hf:=h74) (hd:=rfl) (ha:=rfl),?_⟩;simp only [go_sem,hf,ha])));apply hK;clear hK K)|(refine z8 (by kernel_rfl) (by kernel_rfl) fun K hK=>?_;simp only [go_sem,hf,ha];(repeat (first|(refine⟨_,.fn (hf:=h74) (hd:=rfl) (hr:=.inl rfl),?_⟩;simp only [go_sem,hf,ha])));refine⟨by kernel_rfl,hK _ ?_⟩;clear hK K))
   refine z9 rfl ?_
   refine z25 ?_
   refine z167 6 (by kernel_rfl) (by kernel_rfl) (by kernel_rfl) (by decide) fun K hK=>?_
   simp only [go_sem,hf]
   refine⟨by kernel_rfl,?_⟩
   refine hK _ _ ?_
   clear hK K
   have hrl:(arvRows A).length≤549755813887:=by rw [arvRows,List.length_map];omega
   have hpush:=z477 a A 0
   refine z273 (by kernel_rfl) (by kernel_rfl) fun K hK=>?_
   simp only [go_sem,hrl]
   refine⟨by kernel_rfl,hK _ ?_⟩
   clear hK K
   repeat (first|refine nx ?_|(refine z3 fun K hK=>?_;simp only [go_sem];apply hK;clear hK K))
   simp only [go_sem,hpush,arvRows,List.map_append,List.map_cons,List.map_nil,Arv.spot,Arv.leg,keyS,List.length_append,List.length_cons,List.length_nil,Nat.zero_add]
  ·have ha:atB x.clues a.pl a.mi=false:=by simpa using ha
   have e:arriveA x.clues A a=A:=by rw [arriveA,hk,ha];rfl
   rw [e]
   refine z35 46 Tryd.call83 Tryd.func83 rfl (by decide) [] [(0,0)] (by simp only [List.length_cons,List.length_nil];decide) (by kernel_rfl) fun J=>?_
   simp only [go_sem,St.startG,Tryd.ntmps83,Tryd.results83,List.map_cons,List.map_nil,List.range_succ,  ]
   repeat (first|refine nx ?_|(refine z3 fun K hK=>?_;simp only [go_sem,hf,ha];(repeat (first|(refine⟨_,.lent (hf:=h74) (hd:=rfl) (hr:=rfl),?_⟩;simp only [go_sem,hf,ha])|(refine⟨_,.given (hf:=h74) (hd:=rfl) (ha:=rfl),?_⟩;simp only [go_sem,hf,ha])));apply hK;clear hK K)|(refine z8 (by kernel_rfl) (by kernel_rfl) fun K hK=>?_;simp only [go_sem,hf,ha];(repeat (first|(refine⟨_,.fn (hf:=h74) (hd:=rfl) (hr:=.inl rfl),?_⟩;simp only [go_sem,hf,ha])));refine⟨by kernel_rfl,hK _ ?_⟩;clear hK K))
   refine z5 rfl ?_
   repeat (first|refine nx ?_|(refine z3 fun K hK=>?_;simp only [go_sem];apply hK;clear hK K))
   simp only [go_sem]
end Go.Ab
namespace Go.Ab
open Go.RowKit Go.Proofs
set_option maxHeartbeats 4000000
set_option maxRecDepth 20000
attribute [local irreducible] WalkL Walk
structure Cnt where
 pl:Int
 mi:Int
 c:Int
def entsL:List Cnt→Nat→List (MK × DV × Nat)
 | [],_=>[]
 | a::l,j=>(keyS a.pl a.mi,.i a.c,j)::entsL l (j + 1)
def leftB (L:List Cnt):Blk:=.mp (some [.i64,.i64]) (entsL L 0) L.length
def cntL:List Cnt→Int→Int→Int
 | [],_,_=>0
 | a::l,p,m=>if a.pl=p∧a.mi=m then a.c else cntL l p m
def bumpL:List Cnt→Int→Int→List Cnt
 | [],p,m=>[⟨p,m,wr (0 + 1)⟩]
 | a::l,p,m=>if a.pl=p∧a.mi=m then ⟨a.pl,a.mi,wr (a.c + 1)⟩::l else a::bumpL l p m
def hasL (l:List Cnt) (p m:Int):Bool:=l.any fun a=>decide (a.pl=p∧a.mi=m)
theorem z262 {p m:Int}:∀ (l:List Cnt) (j i:Nat),hasL l p m=true→∃ q,findE (entsL l j) (keyS p m) i=some (i + q,.i (cntL l p m),j + q) ∧
  setBorn (entsL l j) ((j + q:Nat):Int) (.i (wr (cntL l p m + 1)))=some (entsL (bumpL l p m) j)∧(bumpL l p m).length=l.length
 | [],_,_,h=>by simp [hasL] at h
 | a::l,j,i,h=>by
  by_cases ha:a.pl=p∧a.mi=m
  ·refine⟨0,?_,?_,?_⟩
   ·rw [entsL,findE,if_pos (by rw [z190];exact⟨ha.1.symm,ha.2.symm⟩),cntL,if_pos ha];rfl
   ·rw [entsL,setBorn,if_pos (by simp),bumpL,if_pos ha,cntL,if_pos ha];rfl
   ·rw [bumpL,if_pos ha];rfl
  ·have h':hasL l p m=true:=by simpa [hasL,ha] using h
   obtain⟨q,h1,h2,h3⟩:=z262 l (j + 1) (i + 1) h'
   refine⟨q + 1,?_,?_,?_⟩
   ·rw [entsL,findE,if_neg (by rw [z190];exact fun hc=>ha ⟨hc.1.symm,hc.2.symm⟩),h1,cntL,if_neg ha,show i + 1 + q=i + (q + 1) by omega,show j + 1 + q=j + (q + 1) by omega]
   ·rw [entsL,setBorn,if_neg (by simp;omega),bumpL,if_neg ha,cntL,if_neg ha]
    rw [show ((j + (q + 1):Nat):Int)=((j + 1 + q:Nat):Int) by omega,h2]
    rfl
   ·rw [bumpL,if_neg ha];simp [h3]
theorem z279 {d:DV} {k:MK} {z:DV}:∀ (l:List Cnt) (j:Nat),setBorn (entsL l j++[(k,z,j + l.length)]) ((j + l.length:Nat):Int) d=some (entsL l j++[(k,d,j + l.length)])
 | [],j=>by simp [entsL,setBorn]
 | a::l,j=>by
  rw [entsL,List.cons_append,setBorn,if_neg (by simp only [List.length_cons];omega),List.length_cons]
  have:=z279 (d:=d) (k:=k) (z:=z) l (j + 1)
  rw [show j + 1 + l.length=j + (l.length + 1) by omega] at this
  rw [this]
  rfl
theorem z473 {p m:Int}:∀ (l:List Cnt) (j i:Nat),hasL l p m=false→findE (entsL l j) (keyS p m) i=none∧cntL l p m=0 ∧
  entsL (bumpL l p m) j=entsL l j++[(keyS p m,.i (wr (0 + 1)),j + l.length)]∧(bumpL l p m).length=l.length + 1
 | [],j,_,_=>by simp [entsL,findE,cntL,bumpL]
 | a::l,j,i,h=>by
  have ha:¬ (a.pl=p∧a.mi=m):=fun hc=>by simp [hasL,hc] at h
  have h':hasL l p m=false:=by
   rw [hasL,List.any_cons,Bool.or_eq_false_iff] at h
   exact h.2
  obtain⟨h1,h2,h3,h4⟩:=z473 l (j + 1) (i + 1) h'
  refine⟨?_,?_,?_,?_⟩
  ·rw [entsL,findE,if_neg (by rw [z190];exact fun hc=>ha ⟨hc.1.symm,hc.2.symm⟩),h1]
  ·rw [cntL,if_neg ha,h2]
  ·rw [bumpL,if_neg ha,entsL,h3,entsL,List.length_cons,List.cons_append]
   congr 3
   congr 2
   omega
  ·rw [bumpL,if_neg ha];simp [h4]
theorem z355 {p m:Int}:∀ (l:List Cnt),cntL (bumpL l p m) p m=wr (cntL l p m + 1)
 | []=>by simp [bumpL,cntL]
 | a::l=>by
  by_cases ha:a.pl=p∧a.mi=m
  ·rw [bumpL,if_pos ha,cntL,if_pos ha,cntL,if_pos ha]
  ·rw [bumpL,if_neg ha,cntL,if_neg ha,cntL,if_neg ha,z355 l]
theorem z706 {p m:Int}:∀ (l:List Cnt),hasL (bumpL l p m) p m=true
 | []=>by simp [bumpL,hasL]
 | a::l=>by
  by_cases ha:a.pl=p∧a.mi=m
  ·rw [bumpL,if_pos ha];simp [hasL,ha]
  ·rw [bumpL,if_neg ha]
   have:=z706 (p:=p) (m:=m) l
   simp [hasL] at this ⊢
   exact .inr this
def walkA (cl:List Clue) (lo hi:Int) (mk:Int→Arv):List (Int × Bool)→List Arv→List Arv
 | [],A=>A
 | w::ws,A=>if w.1 > hi then A else walkA cl lo hi mk ws (if w.1 ≥ lo then arriveA cl A (mk w.1) else A)
def pathA (n:Net) (x:Missed) (p m leave:Int) (A:List Arv) (k:Nat):List Arv:=match n.paths[k]? with
 | some y=>if y.frm=p∧y.grade≤x.party.grade then walkA x.clues (wr (leave + (spanW y x.party).lo)) (wr (leave + (spanW y x.party).hi)) (fun t=>⟨y.to,t,p,m,k,leave⟩) (walksL x leave) A else A
 | none=>A
def pathsA (n:Net) (x:Missed) (p m leave:Int) (k:Nat) (A:List Arv):List Arv:=(List.range k).foldl (pathA n x p m leave) A
def leaveA (n:Net) (x:Missed) (p m:Int) (a:List Arv × List Cnt) (leave:Int):List Arv × List Cnt :=
 if cntL (bumpL a.2 p leave) p leave > 1 then (a.1,bumpL a.2 p leave) else (pathsA n x p m leave n.paths.length a.1,bumpL a.2 p leave)
def spotA (n:Net) (x:Missed) (s:Arv) (a:List Arv × List Cnt):List Arv × List Cnt:=(staysL x s.pl s.mi (wr (s.mi + x.rest))).foldl (leaveA n x s.pl s.mi) a
def followF (n:Net) (x:Missed):Nat→Nat→List Arv × List Cnt→List Arv × List Cnt
 | 0,_,a=>a
 | f + 1,i,a=>match a.1[i]? with
  | some s=>followF n x f (i + 1) (spotA n x s a)
  | none=>a
def startA (x:Missed):List Arv:=arriveA x.clues [] ⟨x.place,x.start,0,0,-1,0⟩
end Go.Ab
namespace Go.Ab
open Go.RowKit Go.Proofs
set_option maxHeartbeats 16000000
set_option maxRecDepth 20000
attribute [local irreducible] WalkL Walk
structure Hunted (n:Net) (x:Missed):Prop where
 net:n.Good
 party:x.party.Good
 place:0≤x.place∧x.place<n.places
 start:0≤x.start∧x.start≤x.now
 now:x.now≤2880
 rest:0≤x.rest∧x.rest≤600
 clues:x.clues.length<2 ^ 30
def goodA (n:Net) (x:Missed) (A:List Arv):Prop:=(∀ a ∈ A,(0≤a.pl∧a.pl<n.places)∧x.start≤a.mi∧a.mi≤x.now)∧(A.map fun a=>(a.pl,a.mi)).Nodup
def boundN (n:Net) (x:Missed):Nat:=n.places.toNat * (x.now - x.start + 1).toNat
theorem z179 {n:Net} {x:Missed} {A:List Arv} (h:goodA n x A):A.length≤boundN n x:=by
 have h1:(A.map fun a=>(a.pl,a.mi)).length≤((List.range n.places.toNat).flatMap fun (i:Nat)=>(List.range (x.now - x.start + 1).toNat).map fun (j:Nat)=>((i:Int),x.start + (j:Int))).length:=by
  refine List.Nodup.length_le_of_subset h.2 fun q hq=>?_
  obtain⟨a,ha,rfl⟩:=List.mem_map.1 hq
  obtain⟨⟨h1,h2⟩,h3,h4⟩:=h.1 a ha
  refine List.mem_flatMap.2 ⟨a.pl.toNat,List.mem_range.2 (by omega),List.mem_map.2 ⟨(a.mi - x.start).toNat,List.mem_range.2 (by omega),?_⟩⟩
  simp;omega
 simp only [List.length_map,List.length_flatMap,List.length_range] at h1
 have:(List.map (fun _=>(x.now - x.start + 1).toNat) (List.range n.places.toNat)).sum=n.places.toNat * (x.now - x.start + 1).toNat:=by
  rw [List.map_const',List.sum_replicate_nat,List.length_range]
 rw [boundN];omega
theorem z358 {n:Net} {x:Missed} (h:Hunted n x):boundN n x≤40000:=by
 have h1:=h.net.places
 have h2:=h.start
 have h3:=h.now
 rw [boundN]
 have a1:n.places.toNat≤12:=by omega
 have a2:(x.now - x.start + 1).toNat≤2881:=by omega
 have:=Nat.mul_le_mul a1 a2
 omega
theorem z68 {n:Net} {x:Missed} {A:List Arv} {a:Arv} (h:goodA n x A) (ha:(0≤a.pl∧a.pl<n.places)∧x.start≤a.mi∧a.mi≤x.now):goodA n x (arriveA x.clues A a):=by
 rw [arriveA]
 split
 ·exact h
 ·rename_i hc
  have hc:A.any (sameS a)=false:=by
   rw [Bool.or_eq_true] at hc
   simpa using fun hh=>hc (.inl hh)
  refine⟨fun b hb=>?_,?_⟩
  ·rcases List.mem_append.1 hb with hb | hb
   ·exact h.1 b hb
   ·simp at hb;subst hb;exact ha
  ·rw [List.map_append,List.nodup_append]
   refine⟨h.2,by simp,fun u hu v hv e=>?_⟩
   simp at hv
   subst hv;subst e
   obtain⟨b,hb,he⟩:=List.mem_map.1 hu
   have:=List.any_eq_false.1 hc b hb
   simp [sameS] at this
   simp at he
   exact this he.1 he.2
theorem z164 {cl:List Clue}:∀ {f:Nat} {m:Int} {w:Int × Bool},w ∈ walksF cl f m→m≤w.1∧w.1<m + f
 | 0,m,w,h=>by simp [walksF] at h
 | f + 1,m,w,h=>by
  rw [walksF] at h
  rcases List.mem_cons.1 h with rfl | h
  ·exact⟨Int.le_refl _,by simp;omega⟩
  ·split at h
   ·have:=z164 h;omega
   ·simp at h
theorem z268 {x:Missed} {leave:Int} {w:Int × Bool} (h:w ∈ walksL x leave):leave + 1≤w.1∧w.1≤x.now:=by
 have:=z164 h
 omega
theorem z277 {cl:List Clue} {p top:Int}:∀ {f:Nat} {m w:Int},w ∈ staysF cl p top f m→m≤w∧w≤top
 | 0,m,w,h=>by simp [staysF] at h
 | f + 1,m,w,h=>by
  rw [staysF] at h
  split at h
  ·rename_i hc
   rcases List.mem_cons.1 h with rfl | h
   ·exact⟨Int.le_refl _,hc.1⟩
   ·have:=z277 h;omega
  ·simp at h
theorem z276 {x:Missed} {p m most w:Int} (h:w ∈ staysL x p m most):m≤w∧w≤most∧w≤x.now:=by
 have:=z277 h
 omega
end Go.Ab
namespace Go.Ab
open Go.RowKit Go.Proofs
set_option maxHeartbeats 16000000
set_option maxRecDepth 20000
attribute [local irreducible] WalkL Walk
def trkL (h:DV) (A:List Arv):List Blk:=[.box [.d h,.mp 1,.own 2],.mp (some [.i64,.i64]) (entsA A 0) A.length,.arr 114 2 (arvRows A)]
theorem z360 (A:List Arv):(arvRows A).length=A.length:=by simp [arvRows]
theorem z361 {A:List Arv} {i:Nat} {s:Arv} (h:A[i]?=some s):(arvRows A)[i]?=some [.i s.pl,.i s.mi]:=by simp [arvRows,h,Arv.spot]
theorem z1219 (es:List (MK × DV × Nat)):mkE (es.map fun e=>(e.1,e.2.2)) (es.map fun e=>e.2.1)=es:=by
 induction es with
 | nil=>rfl
 | cons e es ih=>simp only [mkE,List.map_cons,List.zipWith_cons_cons] at ih ⊢;rw [ih]
theorem z440 (n:Net) (p:Party) {k:Nat} {y:Path} (hy:n.paths[k]?=some y):∃ ks vs c,timesD n p=.mp none ks vs c ∧
  ((y.grade≤p.grade∧∃ q b,findE (mkE ks vs) (.i k) 0=some (q,.agg (spanW y p).row,b))∨(¬ y.grade≤p.grade∧findE (mkE ks vs) (.i k) 0=none)):=by
 refine⟨_,_,_,rfl,?_⟩
 rw [z1219]
 have hlt:=(List.getElem?_eq_some_iff.1 hy).1
 by_cases hg:y.grade≤p.grade
 ·obtain⟨q,b,h⟩:=z474 p (w:=(k,y)) (canL n p) 0 0 (z740 hy hg hlt) (fun v hv e=>by
   obtain⟨_,h2,_⟩:=z192 hv
   have e:v.1=k:=e
   rw [e,hy] at h2
   cases v
   simp at e h2
   rw [e,h2])
  exact .inl ⟨hg,q,b,h⟩
 ·refine .inr ⟨hg,z263 p _ 0 0 fun w hw e=>hg ?_⟩
  obtain⟨_,h2,h3⟩:=z192 hw
  have:w.1=k:=by omega
  rw [this,hy] at h2
  cases h2
  exact h3
theorem z351 {k:MK} {d:DV} {b:Nat}:∀ (es:List (MK × DV × Nat)) (i:Nat),findE es k i=none→findE (es++[(k,d,b)]) k i=some (i + es.length,d,b)
 | [],i,_=>by simp [findE]
 | e::es,i,h=>by
  rw [findE] at h
  split at h
  ·cases h
  ·rename_i hk
   rw [List.cons_append,findE,if_neg hk,z351 es (i + 1) h]
   congr 2
   simp;omega
theorem z894 (cl:List Clue) (A:List Arv) (a:Arv):A.length≤(arriveA cl A a).length:=by
 rw [arriveA];split <;> simp
theorem z579 (cl:List Clue) (lo hi:Int) (mk:Int→Arv):∀ (ws:List (Int × Bool)) (A:List Arv),A.length≤(walkA cl lo hi mk ws A).length
 | [],A=>Nat.le_refl _
 | w::ws,A=>by
  rw [walkA];split
  ·exact Nat.le_refl _
  ·refine Nat.le_trans ?_ (z579 cl lo hi mk ws _)
   split
   ·exact z894 _ _ _
   ·exact Nat.le_refl _
theorem z1062 (n:Net) (x:Missed) (p m leave:Int) (A:List Arv) (k:Nat):A.length≤(pathA n x p m leave A k).length:=by
 rw [pathA];split
 ·split
  ·exact z579 _ _ _ _ _ _
  ·exact Nat.le_refl _
 ·exact Nat.le_refl _
theorem z723 {α β:Type} (f:List α→β→List α) (h:∀ a b,a.length≤(f a b).length):∀ (l:List β) (a:List α),a.length≤(l.foldl f a).length
 | [],a=>Nat.le_refl _
 | b::l,a=>Nat.le_trans (h a b) (z723 f h l _)
theorem z999 (n:Net) (x:Missed) (p m:Int) (a:List Arv × List Cnt) (lv:Int):a.1.length≤(leaveA n x p m a lv).1.length:=by
 rw [leaveA];split
 ·exact Nat.le_refl _
 ·exact z723 _ (fun A k=>z1062 n x p m lv A k) _ _
theorem z470 (n:Net) (x:Missed) (p m:Int):∀ (l:List Int) (a:List Arv × List Cnt),a.1.length≤(l.foldl (leaveA n x p m) a).1.length
 | [],a=>Nat.le_refl _
 | b::l,a=>Nat.le_trans (z999 n x p m a b) (z470 n x p m l _)
theorem z1046 (n:Net) (x:Missed) (s:Arv) (a:List Arv × List Cnt):a.1.length≤(spotA n x s a).1.length:=z470 _ _ _ _ _ _
theorem z1335 (n:Net) (x:Missed) (hx:Hunted n x):FnG Tryd.prog 49 [] [] [.d (.ptr (huntC n x) 0)] (.box 0 0) (trkM (.ptr (huntC n x) 0) (followF n x (boundN n x + 1) 0 (startA x,[])).1):=by
 have c7:(huntC n x)[7]?=some (.i x.place):=rfl
 have c8:(huntC n x)[8]?=some (.i x.start):=rfl
 have c10:(huntC n x)[10]?=some (.i x.rest):=rfl
 have c1:(huntC n x)[1]?=some (.sl (n.paths.map Path.row)):=rfl
 have h63:FnG Tryd.prog 83 [.box [.d (.ptr (huntC n x) 0),.mp 1,.own 2],.mp (some [.i64,.i64]) [] 0,.arr 114 2 []] [0] [.box 0 0,.d (.agg [.i x.place,.i x.start]),.d (.agg [.i 0,.i 0,.i (-1),.i 0])] (.tup [])
   [.box [.d (.ptr (huntC n x) 0),.mp 1,.own 2],.mp (some [.i64,.i64]) (entsA (startA x) 0) (startA x).length,.arr 114 2 (arvRows (startA x))] :=
  z1328 n x [] ⟨x.place,x.start,0,0,-1,0⟩ hx.place.1 (by have:=hx.clues;omega) (by simp)
 have hN:=z358 hx
 have hst:=hx.start
 have hno:=hx.now
 have hre:=hx.rest
 have hcl:=hx.clues
 have hpl:=hx.net.paths
 refine z35 160 Tryd.call49 Tryd.func49 rfl (by decide) [16,14,150] [] (by simp only [List.length_cons,List.length_nil];decide) (by kernel_rfl) fun J=>?_
 simp only [go_sem,St.startG,Tryd.ntmps49,Tryd.results49,List.map_cons,List.map_nil,List.range_succ,  ]
 repeat (first|refine nx ?_|(refine z3 fun K hK=>?_;simp only [go_sem];apply hK;clear hK K))
 refine z439 [] [] [(16,some (.box [.d (.ptr (huntC n x) 0),.mp 14,.own 150])),(150,some (.arr 114 2 []))] ?_ ?_
 ·simp only [go_sem]
  refine z56 [150] ?_ ?_ rfl rfl <;> simp [lessT,lessM,lessB,AV.less]
 simp only [go_sem]
 refine z167 13 (by kernel_rfl) (by kernel_rfl) (by kernel_rfl) (by decide) fun K hK=>?_
 simp only [go_sem,c7,c8]
 refine⟨by kernel_rfl,?_⟩
 refine⟨_,.own (ns:=[16,14,150]) (news:=[]) (bads:=[14,150]) (rd:=[]) (hf:=h63) (hnd:=by decide) (hl0:=rfl) (hl1:=rfl) (hm:=by repeat (first|exact trivial|refine And.intro ?_ ?_|rfl)) (hnew:=rfl) (hla:=rfl) (ha:=z59 (by repeat (first|exact trivial|refine And.intro ?_ ?_|exact z75 rfl|exact z50 rfl rfl))) (hrd:=rfl) (hsh:=z169 _) (hb:=rfl) (hfl:=.inl rfl),?_⟩
 simp only [go_sem,List.map_cons,List.map_nil]
 refine hK _ _ ?_
 clear hK K
 repeat (first|refine nx ?_|(refine z3 fun K hK=>?_;simp only [go_sem];apply hK;clear hK K))
 obtain⟨R,hR⟩:∃ R,R=followF n x (boundN n x + 1) 0 (startA x,[]):=⟨_,rfl⟩
 rw [← hR]
 refine z13 (fun (a:Nat × List Arv × List Cnt)=>[(5,.d (.i a.1))]) (fun a=>[(14,some (.mp (some [.i64,.i64]) (entsA a.2.1 0) a.2.1.length)),(150,some (.arr 114 2 (arvRows a.2.1))),(31,some (.mp (some [.i64,.i64]) (entsL a.2.2 0) a.2.2.length))])
  (fun a=>a.1≤a.2.1.length∧goodA n x a.2.1∧R=followF n x (boundN n x + 1 - a.1) a.1 a.2) (fun a=>boundN n x + 1 - a.1) (0,startA x,[]) ?_ ⟨Nat.zero_le _,?_,hR⟩ ?_
 ·simp only [go_sem,entsL,List.length_nil]
  refine weA ?_ ?_ <;> simp
 ·exact z68 ⟨fun a ha=>(by simp at ha),by simp⟩ ⟨hx.place,Int.le_refl _,hst.2⟩
 ·rintro⟨i,A,L⟩ ⟨hi,hgA,hRi⟩
  dsimp only at hi hgA hRi
  have hAl:=z179 hgA
  have hrl:=z360 A
  simp only [go_sem]
  repeat (first|refine nx ?_|(refine z3 fun K hK=>?_;simp only [go_sem,hrl];apply hK;clear hK K))
  refine z6 rfl (fun hb=>?_) (fun hb=>?_)
  ·have hlt:i<A.length:=by simpa using hb
   have hw:IntKind.i64.wrap ((i:Int) + 1)=((i + 1:Nat):Int):=by rw [z10 (by omega)];simp
   obtain⟨s,hs⟩:∃ s,A[i]?=some s:=⟨_,List.getElem?_eq_getElem hlt⟩
   have hrow:=z361 hs
   have hil:i<(arvRows A).length:=by omega
   have hgs:=hgA.1 s (List.mem_of_getElem? hs)
   have h64:FnG Tryd.prog 84 [.box [.d (.ptr (huntC n x) 0),.mp 1,.own 2],.mp (some [.i64,.i64]) (entsA A 0) A.length,.arr 114 2 (arvRows A)] [0] [.box 0 0,.d (.agg [.i s.pl,.i s.mi]),.d (.i (wr (s.mi + x.rest)))] (.fn 102 [.box 3 0,.box 4 0,.box 5 0])
    [.box [.d (.ptr (huntC n x) 0),.mp 1,.own 2],.mp (some [.i64,.i64]) (entsA A 0) A.length,.arr 114 2 (arvRows A),.box [.d (.i s.pl),.d (.i s.mi)],.box [.d (.i (wr (s.mi + x.rest)))],.box [.box 0 0]]:=z1281 _ A s.pl s.mi _
   repeat (first|refine nx ?_|(refine z3 fun K hK=>?_;simp only [go_sem,hrow,hil];apply hK;clear hK K))
   refine z167 10 (by kernel_rfl) (by kernel_rfl) (by kernel_rfl) (by decide) fun K hK=>?_
   simp only [go_sem,c10]
   refine⟨by kernel_rfl,?_⟩
   refine⟨_,.own (ns:=[16,14,150]) (news:=[151,152,153]) (bads:=[14,150]) (rd:=[]) (hf:=h64) (hnd:=by decide) (hl0:=rfl) (hl1:=rfl) (hm:=by repeat (first|exact trivial|refine And.intro ?_ ?_|rfl)) (hnew:=rfl) (hla:=rfl) (ha:=z59 (by repeat (first|exact trivial|refine And.intro ?_ ?_|exact z75 rfl|exact z50 rfl rfl))) (hrd:=rfl) (hsh:=z169 _) (hb:=rfl) (hfl:=.inl rfl),?_⟩
   simp only [go_sem,List.map_cons,List.map_nil]
   refine hK _ _ ?_
   clear hK K
   refine z33 ?_
   have hsp:0≤s.pl:=hgs.1.1
   obtain⟨Ls,hLs⟩:∃ Ls,Ls=staysL x s.pl s.mi (wr (s.mi + x.rest)):=⟨_,rfl⟩
   have hit:=z1227 n x s.pl s.mi (wr (s.mi + x.rest)) hsp (by omega) (by omega) (by omega)
   rw [← hLs] at hit
   refine z211 (fun _ h=>by cases h) 16 16 ((trkB n x).map some) [151,152,153] rfl hit (fun b=>rfl) (by intro row hr;obtain⟨w,_,rfl⟩:=List.mem_map.1 hr;rfl)
    (fun _=>[(58,.undef)]) (fun (a:List Arv × List Cnt)=>[(151,none),(152,none),(153,none),(14,some (.mp (some [.i64,.i64]) (entsA a.1 0) a.1.length)),(150,some (.arr 114 2 (arvRows a.1))),(31,some (.mp (some [.i64,.i64]) (entsL a.2 0) a.2.length))])
    (fun i a=>a=(Ls.take i).foldl (leaveA n x s.pl s.mi) (A,L)∧goodA n x a.1) (fun _ _=>False) (A,L) ?_ ?_ ⟨by simp,hgA⟩ ?_ ?_ ?_ (fun _ _ h=>h.elim)
   ·exact⟨rfl,rfl,trivial⟩
   ·simp only [go_sem]
    refine weA ?_ ?_ <;> simp
   ·intro a
    simp only [go_sem]
    exact⟨rfl,rfl,trivial⟩
   ·rintro j ⟨A1,L1⟩ row hj ⟨hA1,hgA1⟩ l m
    dsimp only at hA1 hgA1
    obtain⟨lv,hlv,rfl⟩:∃ lv,Ls[j]?=some lv∧row=[.i lv]:=by
     simp only [minRows,List.getElem?_map,Option.map_eq_some_iff] at hj
     obtain⟨lv,h1,h2⟩:=hj
     exact⟨lv,h1,h2.symm⟩
    have hlr:=z276 (hLs ▸ List.mem_of_getElem? hlv)
    have hnext:(Ls.take (j + 1)).foldl (leaveA n x s.pl s.mi) (A,L)=leaveA n x s.pl s.mi (A1,L1) lv:=by
     rw [List.take_add_one,hlv,List.foldl_append,← hA1];rfl
    simp only [go_sem]
    repeat (first|refine nx ?_|(refine z3 fun K hK=>?_;simp only [go_sem];apply hK;clear hK K))
    intro J2 hJ2
    refine z33 ?_
    obtain⟨c,hc⟩:∃ c,c=wr (cntL L1 s.pl lv + 1):=⟨_,rfl⟩
    obtain⟨L2,hL2⟩:∃ L2,L2=bumpL L1 s.pl lv:=⟨_,rfl⟩
    have hcb:cntL L2 s.pl lv=c:=by rw [hL2,hc,z355]
    obtain⟨q2,hq2,_⟩:=z262 (p:=s.pl) (m:=lv) L2 0 0 (by rw [hL2];exact z706 L1)
    rw [keyS,hcb,Nat.zero_add] at hq2
    have hc':IntKind.i64.wrap (cntL L1 s.pl lv + 1)=c:=hc.symm
    have hlv:leaveA n x s.pl s.mi (A1,L1) lv=if c > 1 then (A1,L2) else (pathsA n x s.pl s.mi lv n.paths.length A1,L2):=by
     rw [leaveA];dsimp only;rw [← hL2,hcb]
    repeat refine z25 ?_
    refine z18 [] [(31,some (.mp (some [.i64,.i64]) (entsL L2 0) L2.length))] ?_ ?_
    ·by_cases hin:hasL L1 s.pl lv=true
     ·obtain⟨q1,hq1,hb1,hl1⟩:=z262 (p:=s.pl) (m:=lv) L1 0 0 hin
      rw [keyS,Nat.zero_add] at hq1
      rw [Nat.zero_add,← hc,← hL2] at hb1
      rw [← hL2] at hl1
      refine z272 (fun b=>[(60,bif b 0 then .undef else .mp 31),(61,bif b 1 then .undef else .box 6 0),(62,bif b 2 then .undef else .d (.i s.pl)),(63,bif b 3 then .undef else .d (.i lv)),(64,bif b 4 then .undef else .agg [.d (.i s.pl),.d (.i lv)]),
       (65,bif b 5 then .undef else .d (.i (cntL L1 s.pl lv))),(66,bif b 6 then .undef else .d (.i c)),(67,bif b 7 then .undef else .tup [.d (.i (cntL L1 s.pl lv)),.d (.i ((q1:Nat):Int))]),(68,bif b 8 then .undef else .d (.i ((q1:Nat):Int)))])
       (fun _=>[]) 9 (by kernel_rfl) (by kernel_rfl) (by kernel_rfl) (by decide) ?_ ?_ (Weak.refl _) ?_
      ·simp only [go_sem]
      ·refine⟨?_,?_,?_,?_,?_,?_,?_,?_,?_,trivial⟩
       all_goals
        intro b hbm hdm _
        simp only [depsM,Region.binds,true_and,and_true,Nat.zero_add,Nat.reduceAdd,reduceCtorEq,forall_const] at hdm
        refine⟨rfl,rfl,?_⟩
        cases hb7:b 7
        all_goals
         first | (exfalso;rw [hb7] at hbm;exact Bool.noConfusion hbm) | (exfalso;rw [hb7] at hdm;simp at hdm;done) | simp only [go_sem,hbm,hdm,hb7,hq1,hc']
      ·intro K hK
       simp only [go_sem,hb1]
       refine hK _ _ ?_
       clear hK K
       refine z7 ?_
       refine z4 ?_
       refine⟨rfl,?_⟩
       simp only [go_sem,hl1]
       refine weA ?_ ?_ <;> simp
     ·have hin:hasL L1 s.pl lv=false:=by simpa using hin
      obtain⟨hq1,hcz,hb1,hl1⟩:=z473 (p:=s.pl) (m:=lv) L1 0 0 hin
      have hsb:=z279 (d:=.i c) (k:=keyS s.pl lv) (z:=.i 0) L1 0
      have hc0:IntKind.i64.wrap (0 + 1)=c:=by rw [hc,hcz]
      rw [← hL2,show wr (0 + 1)=c from hc0] at hb1
      rw [← hb1] at hsb
      rw [← hL2] at hl1
      rw [keyS] at hq1 hsb
      simp only [Nat.zero_add] at hsb
      have hq1p:=z351 (d:=.i 0) (b:=L1.length) _ 0 hq1
      rw [Nat.zero_add] at hq1p
      refine z272 (fun b=>[(60,bif b 0 then .undef else .mp 31),(61,bif b 1 then .undef else .box 6 0),(62,bif b 2 then .undef else .d (.i s.pl)),(63,bif b 3 then .undef else .d (.i lv)),(64,bif b 4 then .undef else .agg [.d (.i s.pl),.d (.i lv)]),
       (65,bif b 5 then .undef else .d (.i 0)),(66,bif b 6 then .undef else .d (.i c)),(67,bif b 7 then .undef else .tup [.d (.i 0),.d (.i ((L1.length:Nat):Int))]),(68,bif b 8 then .undef else .d (.i ((L1.length:Nat):Int)))])
       (fun b=>[(31,bif b 7 then some (.mp (some [.i64,.i64]) (entsL L1 0) L1.length) else some (.mp (some [.i64,.i64]) (entsL L1 0++[(.s [(.i64,s.pl),(.i64,lv)],.i 0,L1.length)]) (L1.length + 1)))]) 9 (by kernel_rfl) (by kernel_rfl) (by kernel_rfl) (by decide) ?_ ?_ (Weak.refl _) ?_
      ·simp only [go_sem]
      ·refine⟨?_,?_,?_,?_,?_,?_,?_,?_,?_,trivial⟩
       all_goals
        intro b hbm hdm _
        simp only [depsM,Region.binds,true_and,and_true,Nat.zero_add,Nat.reduceAdd,reduceCtorEq,forall_const] at hdm
        refine⟨rfl,rfl,?_⟩
        cases hb7:b 7
        all_goals
         first | (exfalso;rw [hb7] at hbm;exact Bool.noConfusion hbm) | (exfalso;rw [hb7] at hdm;simp at hdm;done) | simp only [go_sem,hbm,hdm,hb7,hq1,hq1p,hc0]
      ·intro K hK
       simp only [go_sem,hsb]
       refine hK _ _ ?_
       clear hK K
       refine z7 ?_
       refine z4 ?_
       refine⟨rfl,?_⟩
       simp only [go_sem,hl1]
       refine weA ?_ ?_ <;> simp
    simp only [go_sem]
    repeat (first|refine nx ?_|(refine z3 fun K hK=>?_;simp only [go_sem,hq2];apply hK;clear hK K))
    refine z6 rfl (fun hcc=>?_) (fun hcc=>?_)
    ·have hcc':c > 1:=by simpa using hcc
     rw [if_pos hcc'] at hlv
     repeat (first|refine nx ?_|(refine z3 fun K hK=>?_;simp only [go_sem];apply hK;clear hK K))
     refine⟨rfl,(A1,L2),?_,by rw [hnext,hlv],hgA1⟩
     simp only [go_sem]
     refine weA ?_ ?_ <;> simp
    ·have hcc':¬ c > 1:=by simpa using hcc
     rw [if_neg hcc'] at hlv
     repeat (first|refine nx ?_|(refine z3 fun K hK=>?_;simp only [go_sem,c1];apply hK;clear hK K))
     refine z13 (fun (a:Nat × List Arv)=>[(83,.d (.i a.1))]) (fun a=>[(14,some (.mp (some [.i64,.i64]) (entsA a.2 0) a.2.length)),(150,some (.arr 114 2 (arvRows a.2)))])
      (fun a=>a.1≤n.paths.length∧goodA n x a.2∧a.2=pathsA n x s.pl s.mi lv a.1 A1) (fun a=>n.paths.length - a.1) (0,A1) ?_ ⟨Nat.zero_le _,hgA1,rfl⟩ ?_
     ·simp only [go_sem]
      refine weA ?_ ?_ <;> simp
     ·rintro⟨k,A2⟩ ⟨hk,hgA2,hA2⟩
      dsimp only at hk hgA2 hA2
      simp only [go_sem]
      repeat (first|refine nx ?_|(refine z3 fun K hK=>?_;simp only [go_sem];apply hK;clear hK K))
      refine z6 rfl (fun hkb=>?_) (fun hkb=>?_)
      ·have hkl:k<n.paths.length:=by simpa using hkb
       have hkw:IntKind.i64.wrap ((k:Int) + 1)=((k + 1:Nat):Int):=by rw [z10 (by omega)];simp
       obtain⟨y,hy⟩:∃ y,n.paths[k]?=some y:=⟨_,List.getElem?_eq_getElem hkl⟩
       obtain⟨ks,vs,cc,hT,hlook⟩:=z440 n x.party hy
       have c2:(huntC n x)[2]?=some (.mp none ks vs cc):=by rw [← hT];rfl
       have hyg:=hx.net.path y (List.mem_of_getElem? hy)
       have hpk:pathsA n x s.pl s.mi lv (k + 1) A1=pathA n x s.pl s.mi lv A2 k:=by rw [pathsA,List.range_succ,List.foldl_append,hA2];rfl
       rw [pathA,hy] at hpk
       dsimp only at hpk
       rcases hlook with ⟨hg,q,b,hf⟩ | ⟨hg,hf⟩
       ·repeat (first|refine nx ?_|(refine z3 fun K hK=>?_;simp only [go_sem,hy,List.getElem?_map,Path.row];apply hK;clear hK K))
        refine z8 (by kernel_rfl) (by kernel_rfl) fun K hK=>?_
        simp only [go_sem,c2,hf,Span.row]
        refine⟨by kernel_rfl,hK _ ?_⟩
        clear hK K
        by_cases hfr:y.frm=s.pl
        ·have hne:(y.frm != s.pl)=false:=by simp [hfr]
         rw [if_pos ⟨hfr,hg⟩] at hpk
         have h65:FnG Tryd.prog 85 [.box [.d (.ptr (huntC n x) 0),.mp 1,.own 2],.mp (some [.i64,.i64]) (entsA A2 0) A2.length,.arr 114 2 (arvRows A2)] [0] [.box 0 0,.d (.i lv)] (.fn 103 [.box 3 0,.box 4 0])
          [.box [.d (.ptr (huntC n x) 0),.mp 1,.own 2],.mp (some [.i64,.i64]) (entsA A2 0) A2.length,.arr 114 2 (arvRows A2),.box [.d (.i lv)],.box [.box 0 0]]:=z1280 _ A2 lv
         obtain⟨Ws,hWs⟩:∃ Ws,Ws=walksL x lv:=⟨_,rfl⟩
         have hit2:=z1226 n x lv (by omega) (by omega) (by omega)
         rw [← hWs] at hit2 hpk
         obtain⟨lo,hlo⟩:∃ lo,lo=wr (lv + (spanW y x.party).lo):=⟨_,rfl⟩
         obtain⟨hi,hhi⟩:∃ hi,hi=wr (lv + (spanW y x.party).hi):=⟨_,rfl⟩
         rw [← hlo,← hhi] at hpk
         have hlo':IntKind.i64.wrap (lv + (spanW y x.party).lo)=lo:=hlo.symm
         have hhi':IntKind.i64.wrap (lv + (spanW y x.party).hi)=hi:=hhi.symm
         repeat (first|refine nx ?_|(refine z3 fun K hK=>?_;simp only [go_sem,hne];apply hK;clear hK K))
         refine z5 rfl ?_
         repeat (first|refine z25 ?_|refine z36 ?_|refine z7 ?_|refine z4 ?_)
         refine z3 fun K hK=>?_
         simp only [go_sem]
         refine⟨_,.own (ns:=[16,14,150]) (news:=[154,155]) (bads:=[14,150]) (rd:=[]) (hf:=h65) (hnd:=by decide) (hl0:=rfl) (hl1:=rfl) (hm:=by repeat (first|exact trivial|refine And.intro ?_ ?_|rfl)) (hnew:=rfl) (hla:=rfl) (ha:=z59 (by repeat (first|exact trivial|refine And.intro ?_ ?_|exact z75 rfl|exact z50 rfl rfl))) (hrd:=rfl) (hsh:=z169 _) (hb:=rfl) (hfl:=.inl rfl),?_⟩
         simp only [go_sem,List.map_cons,List.map_nil]
         apply hK
         clear hK K
         repeat (first|refine z25 ?_|refine z36 ?_|refine z7 ?_|refine z4 ?_)
         refine z33 ?_
         have fin:∀ A3,walkA x.clues lo hi (fun t=>⟨y.to,t,s.pl,s.mi,k,lv⟩) Ws A2=A3→pathsA n x s.pl s.mi lv (k + 1) A1=A3:=fun A3 h=>by rw [hpk,h]
         refine z211 (fun _ h=>by cases h;exact hJ2) 16 16 ((trkB n x).map some) [154,155] rfl hit2 (fun b=>rfl) (by intro row hr;obtain⟨w,_,rfl⟩:=List.mem_map.1 hr;rfl)
          (fun _=>[(109,.undef)]) (fun (a:List Arv)=>[(154,none),(155,none),(14,some (.mp (some [.i64,.i64]) (entsA a 0) a.length)),(150,some (.arr 114 2 (arvRows a)))])
          (fun i a=>walkA x.clues lo hi (fun t=>⟨y.to,t,s.pl,s.mi,k,lv⟩) Ws A2=walkA x.clues lo hi (fun t=>⟨y.to,t,s.pl,s.mi,k,lv⟩) (Ws.drop i) a∧goodA n x a)
          (fun e a=>e=.exit 6∧walkA x.clues lo hi (fun t=>⟨y.to,t,s.pl,s.mi,k,lv⟩) Ws A2=a∧goodA n x a) A2 ?_ ?_ ⟨rfl,hgA2⟩ ?_ ?_ ?_ ?_
         ·exact⟨rfl,rfl,trivial⟩
         ·simp only [go_sem]
          refine weA ?_ ?_ <;> simp
         ·intro a
          simp only [go_sem]
          exact⟨rfl,rfl,trivial⟩
         ·rintro i2 A3 row hj2 ⟨hA3,hgA3⟩ l2 m2
          obtain⟨w,hw2,rfl⟩:∃ w,Ws[i2]?=some w∧row=[.i w.1,.bool w.2]:=by
           simp only [wkRows,List.getElem?_map,Option.map_eq_some_iff] at hj2
           obtain⟨w,h1,h2⟩:=hj2
           exact⟨w,h1,h2.symm⟩
          have hwr:=z268 (hWs ▸ List.mem_of_getElem? hw2)
          rw [z58 hw2,walkA] at hA3
          have hA3l:=z179 hgA3
          simp only [go_sem]
          repeat (first|refine nx ?_|(refine z3 fun K hK=>?_;simp only [go_sem];apply hK;clear hK K))
          intro J3 hJ3
          refine z33 ?_
          repeat (first|refine nx ?_|(refine z3 fun K hK=>?_;simp only [go_sem,hhi'];apply hK;clear hK K))
          refine z6 rfl (fun hc1=>?_) (fun hc1=>?_)
          ·have hc1':w.1 > hi:=by simpa using hc1
           rw [if_pos hc1'] at hA3
           repeat (first|refine nx ?_|(refine z3 fun K hK=>?_;simp only [go_sem];apply hK;clear hK K))
           refine⟨rfl,rfl,A3,?_,rfl,hA3,hgA3⟩
           simp only [go_sem]
           refine weA ?_ ?_ <;> simp
          ·have hc1':¬ w.1 > hi:=by simpa using hc1
           rw [if_neg hc1'] at hA3
           repeat (first|refine nx ?_|(refine z3 fun K hK=>?_;simp only [go_sem,hlo'];apply hK;clear hK K))
           refine z6 rfl (fun hc2=>?_) (fun hc2=>?_)
           ·have hc2':w.1 ≥ lo:=by simpa using hc2
            rw [if_pos hc2'] at hA3
            have h63':FnG Tryd.prog 83 [.box [.d (.ptr (huntC n x) 0),.mp 1,.own 2],.mp (some [.i64,.i64]) (entsA A3 0) A3.length,.arr 114 2 (arvRows A3)] [0] [.box 0 0,.d (.agg [.i y.to,.i w.1]),.d (.agg [.i s.pl,.i s.mi,.i k,.i lv])] (.tup [])
             [.box [.d (.ptr (huntC n x) 0),.mp 1,.own 2],.mp (some [.i64,.i64]) (entsA (arriveA x.clues A3 ⟨y.to,w.1,s.pl,s.mi,k,lv⟩) 0) (arriveA x.clues A3 ⟨y.to,w.1,s.pl,s.mi,k,lv⟩).length,.arr 114 2 (arvRows (arriveA x.clues A3 ⟨y.to,w.1,s.pl,s.mi,k,lv⟩))] :=
             z1328 n x A3 ⟨y.to,w.1,s.pl,s.mi,k,lv⟩ hyg.to.1 (by omega) (by omega)
            repeat (first|refine z25 ?_|refine z36 ?_)
            refine z3 fun K hK=>?_
            simp only [go_sem]
            refine⟨_,.own (ns:=[16,14,150]) (news:=[]) (bads:=[14,150]) (rd:=[]) (hf:=h63') (hnd:=by decide) (hl0:=rfl) (hl1:=rfl) (hm:=by repeat (first|exact trivial|refine And.intro ?_ ?_|rfl)) (hnew:=rfl) (hla:=rfl) (ha:=z59 (by repeat (first|exact trivial|refine And.intro ?_ ?_|exact z75 rfl|exact z50 rfl rfl))) (hrd:=rfl) (hsh:=z169 _) (hb:=rfl) (hfl:=.inl rfl),?_⟩
            simp only [go_sem,List.map_cons,List.map_nil]
            apply hK
            clear hK K
            repeat (first|refine nx ?_|(refine z3 fun K hK=>?_;simp only [go_sem];apply hK;clear hK K))
            refine⟨rfl,arriveA x.clues A3 ⟨y.to,w.1,s.pl,s.mi,k,lv⟩,?_,hA3,z68 hgA3 ⟨hyg.to,by dsimp only;omega⟩⟩
            simp only [go_sem]
            refine weA ?_ ?_ <;> simp
           ·have hc2':¬ w.1 ≥ lo:=by simpa using hc2
            rw [if_neg hc2'] at hA3
            repeat (first|refine nx ?_|(refine z3 fun K hK=>?_;simp only [go_sem];apply hK;clear hK K))
            refine⟨rfl,A3,?_,hA3,hgA3⟩
            simp only [go_sem]
            refine weA ?_ ?_ <;> simp
         ·rintro A3 ⟨hA3,hgA3⟩
          rw [wkRows,List.length_map,List.drop_length,walkA] at hA3
          simp only [go_sem]
          repeat (first|refine nx ?_|(refine z3 fun K hK=>?_;simp only [go_sem,hkw];apply hK;clear hK K))
          refine⟨rfl,(k + 1,A3),?_,⟨hkl,hgA3,(fin A3 hA3).symm⟩,by dsimp only;omega⟩
          simp only [go_sem]
          refine weA ?_ ?_ <;> simp
         ·rintro e A3 ⟨rfl,hA3,hgA3⟩ _
          refine z62 ?_
          refine z4 ?_
          simp only [go_sem]
          repeat (first|refine nx ?_|(refine z3 fun K hK=>?_;simp only [go_sem,hkw];apply hK;clear hK K))
          refine⟨rfl,(k + 1,A3),?_,⟨hkl,hgA3,(fin A3 hA3).symm⟩,by dsimp only;omega⟩
          simp only [go_sem]
          refine weA ?_ ?_ <;> simp
        ·have hne:(y.frm != s.pl)=true:=by simpa using hfr
         rw [if_neg (fun hc=>hfr hc.1)] at hpk
         repeat (first|refine nx ?_|(refine z3 fun K hK=>?_;simp only [go_sem,hne];apply hK;clear hK K))
         refine z9 rfl ?_
         repeat (first|refine nx ?_|(refine z3 fun K hK=>?_;simp only [go_sem,hkw];apply hK;clear hK K))
         refine⟨rfl,(k + 1,A2),?_,⟨hkl,hgA2,hpk.symm⟩,by dsimp only;omega⟩
         simp only [go_sem]
         refine weA ?_ ?_ <;> simp
       ·rw [if_neg (fun hc=>hg hc.2)] at hpk
        repeat (first|refine nx ?_|(refine z3 fun K hK=>?_;simp only [go_sem,hy,List.getElem?_map,Path.row];apply hK;clear hK K))
        refine z8 (by kernel_rfl) (by kernel_rfl) fun K hK=>?_
        simp only [go_sem,c2,hf]
        refine⟨by kernel_rfl,hK _ ?_⟩
        clear hK K
        by_cases hfr:y.frm=s.pl
        all_goals
         first | (have hne:(y.frm != s.pl)=false:=by simp [hfr]) | (have hne:(y.frm != s.pl)=true:=by simpa using hfr)
         repeat (first|refine nx ?_|(refine z3 fun K hK=>?_;simp only [go_sem,hne];apply hK;clear hK K))
         refine z9 rfl ?_
         repeat (first|refine nx ?_|(refine z3 fun K hK=>?_;simp only [go_sem,hkw];apply hK;clear hK K))
         refine⟨rfl,(k + 1,A2),?_,⟨hkl,hgA2,hpk.symm⟩,by dsimp only;omega⟩
         simp only [go_sem]
         refine weA ?_ ?_ <;> simp
      ·have he:k=n.paths.length:=by (have:¬ k<n.paths.length:=by simpa using hkb);omega
       subst he
       repeat (first|refine nx ?_|(refine z3 fun K hK=>?_;simp only [go_sem];apply hK;clear hK K))
       refine⟨rfl,(A2,L2),?_,by rw [hnext,hlv,hA2],hgA2⟩
       simp only [go_sem]
       refine weA ?_ ?_ <;> simp
   ·rintro⟨A1,L1⟩ ⟨hA1,hgA1⟩
    rw [minRows,List.length_map,List.take_length,hLs] at hA1
    have hA1:(A1,L1)=spotA n x s (A,L):=hA1
    have hln:A.length≤A1.length:=by
     have:=z1046 n x s (A,L)
     rw [← hA1] at this
     exact this
    rw [show boundN n x + 1 - i=(boundN n x - i) + 1 by omega,followF] at hRi
    dsimp only at hRi
    rw [hs] at hRi
    dsimp only at hRi
    rw [← hA1] at hRi
    simp only [go_sem]
    repeat (first|refine nx ?_|(refine z3 fun K hK=>?_;simp only [go_sem,hw];apply hK;clear hK K))
    refine⟨rfl,(i + 1,A1,L1),?_,⟨?_,hgA1,?_⟩,by dsimp only;omega⟩
    ·simp only [go_sem]
     refine weA ?_ ?_ <;> simp
    ·dsimp only at hgA1 ⊢;omega
    ·dsimp only
     rw [show boundN n x + 1 - (i + 1)=boundN n x - i by omega]
     exact hRi
  ·have he:i=A.length:=by (have:¬ i<A.length:=by simpa using hb);omega
   have hRe:R=(A,L):=by
    rw [hRi]
    cases hf:boundN n x + 1 - i with
    | zero=>rfl
    | succ f=>rw [followF];dsimp only;rw [List.getElem?_eq_none (by omega)]
   rw [hRe]
   repeat (first|refine nx ?_|(refine z3 fun K hK=>?_;simp only [go_sem];apply hK;clear hK K))
   simp only [go_sem,trkM,legsB]
end Go.Ab
namespace Go.Ab
open Go.RowKit Go.Proofs
set_option maxHeartbeats 16000000
set_option maxRecDepth 20000
attribute [local irreducible] WalkL Walk
structure EndT where
 pl:Int
 mi:Int
 pa:Int
 lv:Int
def EndT.row (e:EndT):List DV:=[.i e.pl,.i e.mi,.i e.pa,.i e.lv]
def endRows (l:List EndT):List (List DV):=l.map fun e=>[.agg e.row]
def seenF (l:List Clue):Int:=l.foldl (fun a c=>if c.seen then max a c.minute else a) 0
def endIn (x:Missed) (s:Arv) (m:Int):Option EndT:=if m=x.now then some ⟨s.pl,s.mi,-1,x.now⟩ else none
def endOn (n:Net) (x:Missed) (s:Arv) (lv:Int) (k:Nat):Option EndT:=match n.paths[k]? with
 | some y=>if y.grade≤x.party.grade∧y.frm=s.pl then some ⟨s.pl,s.mi,k,lv⟩ else none
 | none=>none
def endLv (n:Net) (x:Missed) (s:Arv) (lv:Int):List EndT:=if lv=x.now∨lv<seenF x.clues then [] else (List.range n.paths.length).filterMap (endOn n x s lv)
def endOf8 (n:Net) (x:Missed) (s:Arv):List EndT:=(staysL x s.pl s.mi x.now).filterMap (endIn x s)++(staysL x s.pl s.mi (wr (s.mi + x.rest))).flatMap (endLv n x s)
def endsL (n:Net) (x:Missed) (A:List Arv):List EndT:=A.flatMap (endOf8 n x)
theorem z480 {I X Y:List EndT} {e:EndT} (h:I=X++e::Y):(endRows I)[X.length]?=some [.agg e.row]:=by
 rw [h];simp [endRows]
theorem z1200 (n:Net) (x:Missed) (hx:Hunted n x) (A:List Arv) (b:DV) (hgA:goodA n x A) :
  IterE Tryd.prog 50 [] (fun l=>[.d (.ptr [.ptr (huntC n x) 0,b,.sl (arvRows A)] 0),.d (.yld l)]) (endRows (endsL n x A)):=by
 have c11:(huntC n x)[11]?=some (.sl (x.clues.map Clue.row)):=rfl
 have c9:(huntC n x)[9]?=some (.i x.now):=rfl
 have c10:(huntC n x)[10]?=some (.i x.rest):=rfl
 have c1:(huntC n x)[1]?=some (.sl (n.paths.map Path.row)):=rfl
 have hst:=hx.start
 have hno:=hx.now
 have hre:=hx.rest
 have hcl:=hx.clues
 have hpl:=hx.net.paths
 have hAl:=z179 hgA
 have hN:=z358 hx
 obtain⟨H,hH⟩:∃ H,H=huntC n x:=⟨_,rfl⟩
 refine z254 160 Tryd.call50 Tryd.func50 rfl rfl fun l J hG=>?_
 simp only [go_sem,St.startG,Tryd.ntmps50,Tryd.results50,List.map_cons,List.map_nil,List.range_succ,  ]
 repeat (first|refine nx ?_|(refine z3 fun K hK=>?_;simp only [go_sem,c11];apply hK;clear hK K))
 refine z13 (fun (i:Nat)=>[(24,.d (.i i))]) (fun i=>[(4,some (.box [.d (.i (seenF (x.clues.take i)))]))]) (fun i=>i≤x.clues.length) (fun i=>x.clues.length - i) 0 ?_ (Nat.zero_le _) ?_
 ·simp only [go_sem,seenF,List.take_zero,List.foldl_nil]
  refine weA ?_ ?_ <;> simp
 ·intro i hi
  simp only [go_sem]
  repeat (first|refine nx ?_|(refine z3 fun K hK=>?_;simp only [go_sem];apply hK;clear hK K))
  refine z6 rfl (fun hb=>?_) (fun hb=>?_)
  ·have hlt:i<x.clues.length:=by simpa using hb
   have hw:IntKind.i64.wrap ((i:Int) + 1)=((i + 1:Nat):Int):=by rw [z10 (by omega)];simp
   obtain⟨c,hc⟩:∃ c,x.clues[i]?=some c:=⟨_,List.getElem?_eq_getElem hlt⟩
   have hs1:seenF (x.clues.take (i + 1))=if c.seen then max (seenF (x.clues.take i)) c.minute else seenF (x.clues.take i):=by
    rw [seenF,z37 _ _ _ _ _ hc];rfl
   repeat (first|refine nx ?_|(refine z3 fun K hK=>?_;simp only [go_sem,hc,List.getElem?_map,Clue.row];apply hK;clear hK K))
   cases hcs:c.seen
   ·rw [hcs] at hs1
    refine z5 rfl ?_
    repeat (first|refine nx ?_|(refine z3 fun K hK=>?_;simp only [go_sem,hw];apply hK;clear hK K))
    refine⟨rfl,i + 1,?_,hlt,by omega⟩
    simp only [go_sem,hs1,Bool.false_eq_true,if_false]
    refine weA ?_ ?_ <;> simp
   ·rw [hcs] at hs1
    refine z9 rfl ?_
    repeat (first|refine nx ?_|(refine z3 fun K hK=>?_;simp only [go_sem,hw];apply hK;clear hK K))
    refine⟨rfl,i + 1,?_,hlt,by omega⟩
    simp only [go_sem,hs1,if_true]
    refine weA ?_ ?_ <;> simp
  ·have he:i=x.clues.length:=by (have:¬ i<x.clues.length:=by simpa using hb);omega
   subst he
   rw [List.take_length]
   have hrl:=z360 A
   repeat (first|refine nx ?_|(refine z3 fun K hK=>?_;simp only [go_sem,hrl];apply hK;clear hK K))
   obtain⟨I,hI⟩:∃ I,I=endsL n x A:=⟨_,rfl⟩
   rw [← hI] at hG ⊢
   refine z60 (fun (i:Nat)=>[(40,.d (.i i))]) (fun _=>[]) (fun k i=>i≤A.length∧∃ X,k=some X.length∧I=X++(A.drop i).flatMap (endOf8 n x)) (fun i=>A.length - i) 0 ?_ ⟨Nat.zero_le _,[],rfl,by rw [hI];rfl⟩ ?_
   ·simp only [go_sem]
    refine weA ?_ ?_ <;> simp
   ·rintro k i ⟨hi,X,rfl,hX⟩
    simp only [go_sem]
    repeat (first|refine nx ?_|(refine z3 fun K hK=>?_;simp only [go_sem];apply hK;clear hK K))
    refine z6 rfl (fun hb=>?_) (fun hb=>?_)
    ·have hlt:i<A.length:=by simpa using hb
     have hw:IntKind.i64.wrap ((i:Int) + 1)=((i + 1:Nat):Int):=by rw [z10 (by omega)];simp
     obtain⟨s,hs⟩:∃ s,A[i]?=some s:=⟨_,List.getElem?_eq_getElem hlt⟩
     have hrow:=z361 hs
     have hgs:=hgA.1 s (List.mem_of_getElem? hs)
     rw [z58 hs,List.flatMap_cons,endOf8] at hX
     have h64a:=z1327 [.ptr (huntC n x) 0,b,.sl (arvRows A)] s.pl s.mi x.now
     have h64b:=z1327 [.ptr (huntC n x) 0,b,.sl (arvRows A)] s.pl s.mi (wr (s.mi + x.rest))
     have hit1:=z1085 n x b (.sl (arvRows A)) s.pl s.mi x.now hgs.1.1 (by omega) (by omega) (by omega)
     have hit2:=z1085 n x b (.sl (arvRows A)) s.pl s.mi (wr (s.mi + x.rest)) hgs.1.1 (by omega) (by omega) (by omega)
     obtain⟨L1,hL1⟩:∃ L,L=staysL x s.pl s.mi x.now:=⟨_,rfl⟩
     obtain⟨L2,hL2⟩:∃ L,L=staysL x s.pl s.mi (wr (s.mi + x.rest)):=⟨_,rfl⟩
     rw [← hL1] at hit1 hX
     rw [← hL2] at hit2 hX
     obtain⟨Z,hZ⟩:∃ Z,Z=(A.drop (i + 1)).flatMap (endOf8 n x):=⟨_,rfl⟩
     rw [← hZ] at hX
     repeat (first|refine nx ?_|(refine z3 fun K hK=>?_;simp only [go_sem,hrow];apply hK;clear hK K))
     refine z8 (by kernel_rfl) (by kernel_rfl) fun K hK=>?_
     simp only [go_sem,c9]
     refine⟨_,.fn (hf:=h64a) (hd:=rfl) (hr:=.inr rfl),?_⟩
     simp only [go_sem]
     refine⟨by kernel_rfl,hK _ ?_⟩
     clear hK K
     refine z33 ?_
     refine z121 rfl hit1 (by intro row hr;obtain⟨w,_,rfl⟩:=List.mem_map.1 hr;rfl) (fun (_:Unit)=>[]) (fun _=>[]) (fun k' j _=>∃ Y,k'=some Y.length∧I=Y++((L1.drop j).filterMap (endIn x s)++(L2.flatMap (endLv n x s)++Z)))
      (fun e k' _=>e=.ret∧k'=none) () ?_ ⟨X,rfl,by simpa using hX⟩ ?_ ?_ ?_
     ·simp only [go_sem]
      refine weA ?_ ?_ <;> simp
     ·rintro X0 W0 k' j _ row hj ⟨Y,rfl,hY⟩ l1 m1
      obtain⟨m,hm,rfl⟩:∃ m,L1[j]?=some m∧row=[.i m]:=by
       simp only [minRows,List.getElem?_map,Option.map_eq_some_iff] at hj
       obtain⟨lv,h1,h2⟩:=hj
       exact⟨lv,h1,h2.symm⟩
      have hG1:=z258 hG X0 W0
      rw [z58 hm,List.filterMap_cons] at hY
      simp only [go_sem]
      repeat (first|refine nx ?_|(refine z3 fun K hK=>?_;simp only [go_sem];apply hK;clear hK K))
      by_cases hmn:m=x.now
      ·have hme:(m == x.now)=true:=by simpa using hmn
       have hei:endIn x s m=some ⟨s.pl,s.mi,-1,x.now⟩:=by rw [endIn,if_pos hmn]
       rw [hei] at hY
       dsimp only at hY
       rw [List.cons_append] at hY
       refine z64 hG1 [] 22 (by kernel_rfl) (by kernel_rfl) (by kernel_rfl) (by decide) fun K hK=>?_
       simp only [go_sem,c9,hme]
       refine⟨by kernel_rfl,?_⟩
       refine⟨rfl,Y.length,_,rfl,rfl,rfl,z480 hY,?_,?_⟩
       ·simp only [go_sem]
        refine hK _ _ ?_
        clear hK K
        refine z5 rfl ?_
        repeat (first|refine nx ?_|(refine z3 fun K hK=>?_;simp only [go_sem];apply hK;clear hK K))
        refine⟨(),?_,Y++[⟨s.pl,s.mi,-1,x.now⟩],by simp,by rw [hY];simp⟩
        simp only [go_sem]
        refine weA ?_ ?_ <;> simp
       ·simp only [go_sem]
        refine hK _ _ ?_
        clear hK K
        refine z9 rfl ?_
        repeat (first|refine nx ?_|(refine z3 fun K hK=>?_;simp only [go_sem];apply hK;clear hK K))
        refine⟨rfl,(),?_,rfl,rfl⟩
        simp only [go_sem]
        refine weA ?_ ?_ <;> simp
      ·have hme:(m == x.now)=false:=by simpa using hmn
       have hei:endIn x s m=none:=by rw [endIn,if_neg hmn]
       rw [hei] at hY
       dsimp only at hY
       refine z64 hG1 [] 22 (by kernel_rfl) (by kernel_rfl) (by kernel_rfl) (by decide) fun K hK=>?_
       simp only [go_sem,c9,hme]
       refine⟨by kernel_rfl,?_⟩
       refine hK _ _ ?_
       clear hK K
       refine z5 rfl ?_
       repeat (first|refine nx ?_|(refine z3 fun K hK=>?_;simp only [go_sem];apply hK;clear hK K))
       refine⟨(),?_,Y,rfl,hY⟩
       simp only [go_sem]
       refine weA ?_ ?_ <;> simp
     ·rintro k' _ ⟨Y,rfl,hY⟩
      rw [minRows,List.length_map,List.drop_length,List.filterMap_nil,List.nil_append] at hY
      simp only [go_sem]
      repeat (first|refine nx ?_|(refine z3 fun K hK=>?_;simp only [go_sem];apply hK;clear hK K))
      refine z8 (by kernel_rfl) (by kernel_rfl) fun K hK=>?_
      simp only [go_sem,c10]
      refine⟨_,.fn (hf:=h64b) (hd:=rfl) (hr:=.inr rfl),?_⟩
      simp only [go_sem]
      refine⟨by kernel_rfl,hK _ ?_⟩
      clear hK K
      refine z33 ?_
      refine z121 rfl hit2 (by intro row hr;obtain⟨w,_,rfl⟩:=List.mem_map.1 hr;rfl) (fun (_:Unit)=>[]) (fun _=>[]) (fun k' j _=>∃ Y,k'=some Y.length∧I=Y++((L2.drop j).flatMap (endLv n x s)++Z))
       (fun e k' _=>e=.ret∧k'=none) () ?_ ⟨Y,rfl,by simpa using hY⟩ ?_ ?_ ?_
      ·simp only [go_sem]
       refine weA ?_ ?_ <;> simp
      ·rintro X0 W0 k' j _ row hj ⟨Y,rfl,hY⟩ l1 m1
       obtain⟨lv,hlv,rfl⟩:∃ m,L2[j]?=some m∧row=[.i m]:=by
        simp only [minRows,List.getElem?_map,Option.map_eq_some_iff] at hj
        obtain⟨lv,h1,h2⟩:=hj
        exact⟨lv,h1,h2.symm⟩
       have hG1:=z258 hG X0 W0
       rw [z58 hlv,List.flatMap_cons] at hY
       simp only [go_sem]
       repeat (first|refine nx ?_|(refine z3 fun K hK=>?_;simp only [go_sem];apply hK;clear hK K))
       by_cases hmn:lv=x.now
       ·have hme:(lv == x.now)=true:=by simpa using hmn
        rw [endLv,if_pos (.inl hmn),List.nil_append] at hY
        repeat (first|refine nx ?_|(refine z3 fun K hK=>?_;simp only [go_sem,c9,hme];apply hK;clear hK K))
        refine z9 rfl ?_
        repeat (first|refine nx ?_|(refine z3 fun K hK=>?_;simp only [go_sem];apply hK;clear hK K))
        refine⟨(),?_,Y,rfl,hY⟩
        simp only [go_sem]
        refine weA ?_ ?_ <;> simp
       ·have hme:(lv == x.now)=false:=by simpa using hmn
        by_cases hls:lv<seenF x.clues
        ·have hle:decide (lv<seenF x.clues)=true:=by simpa using hls
         rw [endLv,if_pos (.inr hls),List.nil_append] at hY
         repeat (first|refine nx ?_|(refine z3 fun K hK=>?_;simp only [go_sem,c9,hme,hle];apply hK;clear hK K))
         refine z9 rfl ?_
         repeat (first|refine nx ?_|(refine z3 fun K hK=>?_;simp only [go_sem];apply hK;clear hK K))
         refine⟨(),?_,Y,rfl,hY⟩
         simp only [go_sem]
         refine weA ?_ ?_ <;> simp
        ·have hle:decide (lv<seenF x.clues)=false:=by simpa using hls
         rw [endLv,if_neg (fun hc=>hc.elim hmn hls)] at hY
         repeat (first|refine nx ?_|(refine z3 fun K hK=>?_;simp only [go_sem,c9,hme,hle];apply hK;clear hK K))
         refine z5 rfl ?_
         repeat (first|refine nx ?_|(refine z3 fun K hK=>?_;simp only [go_sem,c1];apply hK;clear hK K))
         obtain⟨V,hV⟩:∃ V,V=(L2.drop (j + 1)).flatMap (endLv n x s)++Z:=⟨_,rfl⟩
         rw [List.append_assoc,← hV] at hY
         refine z60 (fun (q:Nat)=>[(121,.d (.i q))]) (fun _=>[]) (fun k q=>q≤n.paths.length∧∃ Y,k=some Y.length∧I=Y++((List.range' q (n.paths.length - q)).filterMap (endOn n x s lv)++V)) (fun q=>n.paths.length - q) 0 ?_ ⟨Nat.zero_le _,Y,rfl,by rw [Nat.sub_zero,← List.range_eq_range'];exact hY⟩ ?_
         ·try simp only [go_sem]
          refine weA ?_ ?_ <;> simp
         ·rintro k q ⟨hq,Y,rfl,hY⟩
          simp only [go_sem]
          repeat (first|refine nx ?_|(refine z3 fun K hK=>?_;simp only [go_sem];apply hK;clear hK K))
          refine z6 rfl (fun hkb=>?_) (fun hkb=>?_)
          ·have hkl:q<n.paths.length:=by simpa using hkb
           have hkw:IntKind.i64.wrap ((q:Int) + 1)=((q + 1:Nat):Int):=by rw [z10 (by omega)];simp
           obtain⟨y,hy⟩:∃ y,n.paths[q]?=some y:=⟨_,List.getElem?_eq_getElem hkl⟩
           obtain⟨ks,vs,cc,hT,hlook⟩:=z440 n x.party hy
           have c2:(huntC n x)[2]?=some (.mp none ks vs cc):=by rw [← hT];rfl
           rw [show n.paths.length - q=(n.paths.length - (q + 1)) + 1 by omega,List.range'_succ,List.filterMap_cons] at hY
           rcases hlook with ⟨hg,fq,fb,hf⟩ | ⟨hg,hf⟩
           ·by_cases hfr:y.frm=s.pl
            ·have hne:(y.frm == s.pl)=true:=by simpa using hfr
             have heo:endOn n x s lv q=some ⟨s.pl,s.mi,q,lv⟩:=by rw [endOn,hy];dsimp only;rw [if_pos ⟨hg,hfr⟩]
             rw [heo] at hY
             dsimp only at hY
             rw [List.cons_append] at hY
             repeat (first|refine nx ?_|(refine z3 fun K hK=>?_;simp only [go_sem,hy,List.getElem?_map,Path.row,c2,hf,Span.row];apply hK;clear hK K))
             refine z141 hG1 [] fun K hK=>?_
             simp only [go_sem,hne]
             refine⟨rfl,Y.length,_,rfl,rfl,rfl,z480 hY,?_,?_⟩
             ·simp only [go_sem]
              refine hK _ _ ?_
              clear hK K
              refine z5 rfl ?_
              repeat (first|refine nx ?_|(refine z3 fun K hK=>?_;simp only [go_sem,hkw];apply hK;clear hK K))
              refine⟨q + 1,?_,⟨hkl,Y++[⟨s.pl,s.mi,q,lv⟩],by simp,by rw [hY];simp⟩,by omega⟩
              try simp only [go_sem]
              refine weA ?_ ?_ <;> simp
             ·simp only [go_sem]
              refine hK _ _ ?_
              clear hK K
              refine z9 rfl ?_
              repeat (first|refine nx ?_|(refine z3 fun K hK=>?_;simp only [go_sem];apply hK;clear hK K))
              refine⟨rfl,(),?_,rfl,rfl⟩
              try simp only [go_sem]
              refine weA ?_ ?_ <;> simp
            ·have hne:(y.frm == s.pl)=false:=by simpa using hfr
             have heo:endOn n x s lv q=none:=by rw [endOn,hy];dsimp only;rw [if_neg (fun hc=>hfr hc.2)]
             rw [heo] at hY
             dsimp only at hY
             repeat (first|refine nx ?_|(refine z3 fun K hK=>?_;simp only [go_sem,hy,List.getElem?_map,Path.row,c2,hf,Span.row];apply hK;clear hK K))
             refine z141 hG1 [] fun K hK=>?_
             simp only [go_sem,hne]
             refine hK _ _ ?_
             clear hK K
             refine z5 rfl ?_
             repeat (first|refine nx ?_|(refine z3 fun K hK=>?_;simp only [go_sem,hkw];apply hK;clear hK K))
             refine⟨q + 1,?_,⟨hkl,Y,rfl,hY⟩,by omega⟩
             try simp only [go_sem]
             refine weA ?_ ?_ <;> simp
           ·have heo:endOn n x s lv q=none:=by rw [endOn,hy];dsimp only;rw [if_neg (fun hc=>hg hc.1)]
            rw [heo] at hY
            dsimp only at hY
            repeat (first|refine nx ?_|(refine z3 fun K hK=>?_;simp only [go_sem,hy,List.getElem?_map,Path.row,c2,hf];apply hK;clear hK K))
            refine z5 rfl ?_
            repeat (first|refine nx ?_|(refine z3 fun K hK=>?_;simp only [go_sem,hkw];apply hK;clear hK K))
            refine⟨q + 1,?_,⟨hkl,Y,rfl,hY⟩,by omega⟩
            try simp only [go_sem]
            refine weA ?_ ?_ <;> simp
          ·have he:q=n.paths.length:=by (have:¬ q<n.paths.length:=by simpa using hkb);omega
           subst he
           rw [Nat.sub_self,List.range'_zero,List.filterMap_nil,List.nil_append] at hY
           repeat (first|refine nx ?_|(refine z3 fun K hK=>?_;simp only [go_sem];apply hK;clear hK K))
           refine⟨(),?_,Y,rfl,by rw [hY,hV]⟩
           try simp only [go_sem]
           refine weA ?_ ?_ <;> simp
      ·rintro k' _ ⟨Y,rfl,hY⟩
       rw [minRows,List.length_map,List.drop_length,List.flatMap_nil,List.nil_append] at hY
       simp only [go_sem]
       repeat (first|refine nx ?_|(refine z3 fun K hK=>?_;simp only [go_sem,hw];apply hK;clear hK K))
       refine⟨i + 1,?_,⟨hlt,Y,rfl,by rw [hY,hZ]⟩,by omega⟩
       try simp only [go_sem]
       refine weA ?_ ?_ <;> simp
      ·rintro e k' _ ⟨rfl,rfl⟩ _
       repeat (first|refine z110 ?_|refine z129 ?_)
       exact⟨trivial,.inr rfl⟩
     ·rintro e k' _ ⟨rfl,rfl⟩ _
      repeat (first|refine z110 ?_|refine z129 ?_)
      exact⟨trivial,.inr rfl⟩
    ·have he:i=A.length:=by (have:¬ i<A.length:=by simpa using hb);omega
     subst he
     rw [List.drop_length,List.flatMap_nil,List.append_nil] at hX
     repeat (first|refine nx ?_|(refine z3 fun K hK=>?_;simp only [go_sem];apply hK;clear hK K))
     exact⟨trivial,.inl (by rw [hX,endRows,List.length_map])⟩
end Go.Ab
namespace Go.Ab
open Go.RowKit Go.Proofs
set_option maxHeartbeats 16000000
set_option maxRecDepth 20000
attribute [local irreducible] WalkL Walk
def posL (l:List Int):List Int:=selL (fun i=>decide (getI l i > 0)) l.length
theorem z1131 {q:Nat→Bool} {k:Nat} (h:selL q k=[]) {i:Nat} (hi:i<k):q i=false:=by
 cases hq:q i
 ·rfl
 ·exfalso
  have:(i:Int) ∈ selL q k:=List.mem_map.2 ⟨i,List.mem_filter.2 ⟨List.mem_range.2 hi,hq⟩,rfl⟩
  rw [h] at this
  simp at this
theorem z1203 (l:List Int) (hl:l.length<2 ^ 30) (hp:posL l=[]):Fn Tryd.prog 51 [.sl (intRows l)] .nilsl:=by
 have hrl:=z16 l
 refine z1183 20 Tryd.call51 Tryd.func51 rfl (by decide) fun J=>?_
 simp only [go_sem,St.start,Tryd.ntmps51,Tryd.results51]
 repeat (first|refine nx ?_|(refine z3 fun K hK=>?_;simp only [go_sem,hrl];apply hK;clear hK K))
 refine z13 (fun (i:Nat)=>[(7,.d (.i i)),(2,.nil)]) (fun _=>[]) (fun i=>i≤l.length) (fun i=>l.length - i) 0 ?_ (Nat.zero_le _) ?_
 ·simp only [go_sem]
  refine weA ?_ ?_ <;> simp
 ·intro i hi
  simp only [go_sem]
  repeat (first|refine nx ?_|(refine z3 fun K hK=>?_;simp only [go_sem];apply hK;clear hK K))
  refine z6 rfl (fun hb=>?_) (fun hb=>?_)
  ·have hlt:i<l.length:=by simpa using hb
   have hw:IntKind.i64.wrap ((i:Int) + 1)=((i + 1:Nat):Int):=by rw [z10 (by omega)];simp
   have hg:(intRows l)[i]?=some [.i (getI l i)]:=by simpa using z80 (l:=l) (i:=(i:Int)) (by omega) (by simpa using hlt)
   have hil:i<(intRows l).length:=by omega
   have hq:=z1131 hp hlt
   repeat (first|refine nx ?_|(refine z3 fun K hK=>?_;simp only [go_sem,hg,hil,hq];apply hK;clear hK K))
   refine z5 rfl ?_
   repeat (first|refine nx ?_|(refine z3 fun K hK=>?_;simp only [go_sem,hw];apply hK;clear hK K))
   refine⟨rfl,i + 1,?_,hlt,by omega⟩
   try simp only [go_sem]
   refine weA ?_ ?_ <;> simp
  ·have he:i=l.length:=by (have:¬ i<l.length:=by simpa using hb);omega
   subst he
   repeat (first|refine nx ?_|(refine z3 fun K hK=>?_;simp only [go_sem];apply hK;clear hK K))
   simp only [go_sem,retN]
theorem z1202 (l:List Int) (hl:l.length<2 ^ 30):FnS Tryd.prog 51 [.sl (intRows l)] 3 1 (intRows (posL l)):=by
 have hrl:=z16 l
 refine z297 24 Tryd.call51 Tryd.func51 rfl (by decide) fun J=>?_
 simp only [go_sem,St.start,Tryd.ntmps51,Tryd.results51,]
 repeat (first|refine nx ?_|(refine z3 fun K hK=>?_;simp only [go_sem,hrl];apply hK;clear hK K))
 refine z13 (fun (i:Nat)=>[(7,.d (.i i)),(2,.own 22)]) (fun i=>[(22,some (.arr 3 1 (intRows (selL (fun j=>decide (getI l j > 0)) i))))]) (fun i=>i≤l.length) (fun i=>l.length - i) 0 ?_ (Nat.zero_le _) ?_
 ·simp only [go_sem]
  refine z56 [22] ?_ ?_ ?_ ?_
  ·simp [lessT,z79,AV.less]
  ·simp [lessM,lessB,lessT,z79,AV.less,selL,intRows]
  ·first | rfl | simp [liveB,AV.refs,AV.refs.AV.refss,selL,intRows]
  ·first | rfl | simp [liveM,liveB,AV.refs,AV.refs.AV.refss,selL,intRows]
 ·intro i hi
  have hsl:=z1132 (fun j=>decide (getI l j > 0)) i
  have hs1:=z1048 (fun j=>decide (getI l j > 0)) i
  have hr39:(intRows (selL (fun j=>decide (getI l j > 0)) i)).length≤549755813887:=by rw [z16];omega
  simp only [go_sem]
  repeat (first|refine nx ?_|(refine z3 fun K hK=>?_;simp only [go_sem];apply hK;clear hK K))
  refine z6 rfl (fun hb=>?_) (fun hb=>?_)
  ·have hlt:i<l.length:=by simpa using hb
   have hw:IntKind.i64.wrap ((i:Int) + 1)=((i + 1:Nat):Int):=by rw [z10 (by omega)];simp
   have hg:(intRows l)[i]?=some [.i (getI l i)]:=by simpa using z80 (l:=l) (i:=(i:Int)) (by omega) (by simpa using hlt)
   have hil:i<(intRows l).length:=by omega
   by_cases hq:getI l i > 0
   ·have hq:decide (getI l i > 0)=true:=decide_eq_true hq
    rw [hq,if_pos rfl] at hs1
    repeat (first|refine nx ?_|(refine z3 fun K hK=>?_;simp only [go_sem,hg,hil,hq];apply hK;clear hK K))
    refine z9 rfl ?_
    repeat (first|refine nx ?_|(refine z3 fun K hK=>?_;simp only [go_sem,hr39,hw];apply hK;clear hK K))
    refine⟨rfl,i + 1,?_,hlt,by omega⟩
    try simp only [go_sem,hs1,intRows,List.map_append,List.map_cons,List.map_nil]
    refine weA ?_ ?_ <;> simp
   ·have hq:decide (getI l i > 0)=false:=decide_eq_false hq
    rw [hq] at hs1
    simp only [Bool.false_eq_true,if_false,List.append_nil] at hs1
    repeat (first|refine nx ?_|(refine z3 fun K hK=>?_;simp only [go_sem,hg,hil,hq];apply hK;clear hK K))
    refine z5 rfl ?_
    repeat (first|refine nx ?_|(refine z3 fun K hK=>?_;simp only [go_sem,hw];apply hK;clear hK K))
    refine⟨rfl,i + 1,?_,hlt,by omega⟩
    try simp only [go_sem,hs1]
    refine weA ?_ ?_ <;> simp
  ·have he:i=l.length:=by (have:¬ i<l.length:=by simpa using hb);omega
   subst he
   repeat (first|refine nx ?_|(refine z3 fun K hK=>?_;simp only [go_sem];apply hK;clear hK K))
   simp only [go_sem,posL]
end Go.Ab
namespace Go.Ab
open Go.RowKit Go.Proofs
set_option maxHeartbeats 16000000
set_option maxRecDepth 20000
attribute [local irreducible] WalkL Walk
def bump1 (l:List Int) (i:Int):List Int:=l.set i.toNat (wr (getI l i + 1))
def tally (a:List Int × List Int) (e:EndT):List Int × List Int:=if e.pa<0 then (bump1 a.1 e.pl,a.2) else (a.1,bump1 a.2 e.pa)
def tallyE (n:Net) (E:List EndT):List Int × List Int:=E.foldl tally (List.replicate n.places.toNat 0,List.replicate n.paths.length 0)
def huntedA (n:Net) (x:Missed):List Arv:=(followF n x (boundN n x + 1) 0 (startA x,[])).1
def whereP (n:Net) (x:Missed):List Int:=posL (tallyE n (endsL n x (huntedA n x))).1
def whereW (n:Net) (x:Missed):List Int:=posL (tallyE n (endsL n x (huntedA n x))).2
def whereC (n:Net) (x:Missed):List Int × List Int × Int :=
 if openX n x≠0 then ([],[],openX n x) else if whereP n x=[]∧whereW n x=[] then ([],[],3) else (whereP n x,whereW n x,0)
def whereD (n:Net) (x:Missed):DV:=.tup [.sl (intRows (whereC n x).1),.sl (intRows (whereC n x).2.1),.i (whereC n x).2.2]
theorem z1109 (l:List Int) (i:Int):(bump1 l i).length=l.length:=by simp [bump1]
theorem z309 (a:List Int × List Int) (e:EndT):(tally a e).1.length=a.1.length∧(tally a e).2.length=a.2.length:=by
 rw [tally];split <;> simp [z1109]
theorem z182:∀ (E:List EndT) (a:List Int × List Int),(E.foldl tally a).1.length=a.1.length∧(E.foldl tally a).2.length=a.2.length
 | [],a=>⟨rfl,rfl⟩
 | e::E,a=>by
  have h:=z182 E (tally a e)
  rw [(z309 a e).1,(z309 a e).2] at h
  exact h
theorem z146 {n:Net} {x:Missed} (hl:x.clues.length<2 ^ 30) (h:openX n x=0):Hunted n x:=by
 have hc:checkPartyF n x.party=0:=by
  rw [openX] at h
  split at h
  ·rename_i h1;exact absurd h h1
  ·rename_i h1;exact Classical.not_not.1 h1
 have hb:badHunt n x=false:=by
  cases hb:badHunt n x
  ·rfl
  ·simp [openX,hc,hb] at h
 have hn:¬ badNet n=true:=fun hb=>by rw [checkPartyF,if_pos hb] at hc;simp at hc
 have hp:¬ badParty x.party=true:=fun hb=>by rw [checkPartyF,if_neg hn,if_pos hb] at hc;simp at hc
 simp only [badHunt,Bool.or_eq_false_iff,Bool.not_eq_false',z20] at hb
 obtain⟨h1,h2,h3,h4⟩:=hb
 exact⟨z154.1 hn,z176.1 hp,⟨h1.1,by omega⟩,⟨h2.1,h4.1⟩,h4.2,h3,hl⟩
theorem z468 {n:Net} {x:Missed} {lo hi:Int} {mk:Int→Arv} (hmk:∀ t,(0≤(mk t).pl∧(mk t).pl<n.places)∧(mk t).mi=t):∀ {ws:List (Int × Bool)} {A:List Arv},(∀ w ∈ ws,x.start≤w.1∧w.1≤x.now)→goodA n x A→goodA n x (walkA x.clues lo hi mk ws A)
 | [],A,_,hA=>hA
 | w::ws,A,hw,hA=>by
  rw [walkA]
  split
  ·exact hA
  ·refine z468 hmk (fun v hv=>hw v (by simp [hv])) ?_
   split
   ·have:=hmk w.1
    exact z68 hA ⟨this.1,by rw [this.2];exact (hw w (by simp))⟩
   ·exact hA
theorem z1007 {n:Net} {x:Missed} (hx:Hunted n x) {p m lv:Int} {A:List Arv} {k:Nat} (hlv:x.start≤lv) (hA:goodA n x A):goodA n x (pathA n x p m lv A k):=by
 rw [pathA]
 split
 ·rename_i y hy
  split
  ·refine z468 (fun t=>⟨(hx.net.path y (List.mem_of_getElem? hy)).to,rfl⟩) (fun w hw=>?_) hA
   have:=z268 hw
   omega
  ·exact hA
 ·exact hA
theorem z881 {n:Net} {x:Missed} (hx:Hunted n x) {p m lv:Int} {a:List Arv × List Cnt} (hlv:x.start≤lv) (hA:goodA n x a.1):goodA n x (leaveA n x p m a lv).1:=by
 rw [leaveA]
 split
 ·exact hA
 ·rw [pathsA]
  have:∀ (l:List Nat) (A:List Arv),goodA n x A→goodA n x (l.foldl (pathA n x p m lv) A):=fun l=>by
   induction l with
   | nil=>exact fun A h=>h
   | cons k l ih=>exact fun A h=>ih _ (z1007 hx hlv h)
  exact this _ _ hA
theorem z469 {n:Net} {x:Missed} (hx:Hunted n x) {s:Arv} {a:List Arv × List Cnt} (hs:x.start≤s.mi) (hA:goodA n x a.1):goodA n x (spotA n x s a).1:=by
 rw [spotA]
 have:∀ (l:List Int) (a:List Arv × List Cnt),(∀ v ∈ l,x.start≤v)→goodA n x a.1→goodA n x (l.foldl (leaveA n x s.pl s.mi) a).1:=fun l=>by
  induction l with
  | nil=>exact fun a _ h=>h
  | cons k l ih=>exact fun a hl h=>ih _ (fun v hv=>hl v (by simp [hv])) (z881 hx (hl k (by simp)) h)
 exact this _ _ (fun v hv=>by have:=z276 hv;omega) hA
theorem z286 {n:Net} {x:Missed} (hx:Hunted n x):∀ (f i:Nat) (a:List Arv × List Cnt),goodA n x a.1→goodA n x (followF n x f i a).1
 | 0,_,a,h=>h
 | f + 1,i,a,h=>by
  rw [followF]
  split
  ·rename_i s hs
   exact z286 hx f _ _ (z469 hx (h.1 s (List.mem_of_getElem? hs)).2.1 h)
  ·exact h
theorem z118 {n:Net} {x:Missed} (hx:Hunted n x):goodA n x (huntedA n x) :=
 z286 hx _ _ _ (z68 ⟨fun a ha=>(by simp at ha),by simp⟩ ⟨hx.place,Int.le_refl _,hx.start.2⟩)
theorem z264 {n:Net} {x:Missed} {A:List Arv} (hA:goodA n x A) {e:EndT} (h:e ∈ endsL n x A):(0≤e.pl∧e.pl<n.places)∧(e.pa<0∨0≤e.pa∧e.pa.toNat<n.paths.length):=by
 rw [endsL] at h
 obtain⟨s,hs,h⟩:=List.mem_flatMap.1 h
 have hg:=(hA.1 s hs).1
 rw [endOf8] at h
 rcases List.mem_append.1 h with h | h
 ·obtain⟨m,_,hm⟩:=List.mem_filterMap.1 h
  rw [endIn] at hm
  split at hm
  ·cases hm;exact⟨hg,.inl (show (-1:Int)<0 by decide)⟩
  ·cases hm
 ·obtain⟨lv,_,hm⟩:=List.mem_flatMap.1 h
  rw [endLv] at hm
  split at hm
  ·simp at hm
  ·obtain⟨k,hk,hm⟩:=List.mem_filterMap.1 hm
   rw [endOn] at hm
   split at hm
   ·split at hm
    ·cases hm;exact⟨hg,.inr ⟨Int.natCast_nonneg k,by simpa using List.mem_range.1 hk⟩⟩
    ·cases hm
   ·cases hm
theorem z675 {h:DV} {A:List Arv}:∃ b,reify ((trkM h A).map some) Ab.deep (.box 0 0)=some (.ptr [h,b,.sl (arvRows A)] 0):=by
 refine⟨_,rfl⟩
theorem z1290 (n:Net) (x:Missed) (hs:n.Small) (hl:x.clues.length<2 ^ 30):Fn Tryd.prog 15 [.agg n.cells,.agg x.row] (whereD n x):=by
 have h38:=z1336 n x hs hl
 rw [Net.cells,Missed.row] at h38
 refine z11 61 Tryd.call15 Tryd.func15 rfl (by decide) fun J=>?_
 simp only [go_sem,St.start,Tryd.ntmps15,Tryd.results15,Net.cells,Missed.row]
 by_cases hok:openX n x=0
 ·have hx:=z146 hl hok
  rw [openD,if_pos hok,hok] at h38
  obtain⟨A,hA⟩:∃ A,A=huntedA n x:=⟨_,rfl⟩
  have hgA:goodA n x A:=hA ▸ z118 hx
  have g39:=z1335 n x hx
  rw [← huntedA,← hA] at g39
  obtain⟨b,hb⟩:=z675 (h:=.ptr (huntC n x) 0) (A:=A)
  have h39:=FnG.deep (args:=[.ptr (huntC n x) 0]) g39 hb
  have hit:=z1200 n x hx A b hgA
  have hpl:=hx.net.places
  have hpt:=hx.net.paths
  repeat (first|refine nx ?_|(refine z3 fun K hK=>?_;simp only [go_sem];(repeat (first|(refine⟨_,.lent (hf:=h38) (hd:=rfl) (hr:=rfl),?_⟩;simp only [go_sem])|(refine⟨_,.given (hf:=h38) (hd:=rfl) (ha:=rfl),?_⟩;simp only [go_sem])));apply hK;clear hK K))
  refine z5 rfl ?_
  repeat (first|refine nx ?_|(refine z3 fun K hK=>?_;simp only [go_sem];apply hK;clear hK K))
  obtain⟨m,hm⟩:∃ m:Nat,n.places=m:=⟨n.places.toNat,by omega⟩
  obtain⟨E,hE⟩:∃ E,E=endsL n x A:=⟨_,rfl⟩
  rw [← hE] at hit
  have hrep:∀ k,List.replicate k [DV.int .i64 0]=intRows (List.replicate k 0):=fun k=>by simp [intRows]
  have q1:(m:Int)≤1099511627776:=by omega
  have q2:(n.paths.length:Int)≤1099511627776:=by omega
  have q3:¬ ((m:Int)<0):=by omega
  refine z8 (by kernel_rfl) (by kernel_rfl) fun K hK=>?_
  simp only [go_sem,hm,q1,q2,q3,hrep,List.length_map,true_and]
  refine⟨by kernel_rfl,hK _ ?_⟩
  clear hK K
  repeat (first|refine nx ?_|(refine z3 fun K hK=>?_;simp only [go_sem];(repeat (first|(refine⟨_,.lent (hf:=h39) (hd:=rfl) (hr:=rfl),?_⟩;simp only [go_sem])|(refine⟨_,.given (hf:=h39) (hd:=rfl) (ha:=rfl),?_⟩;simp only [go_sem])));apply hK;clear hK K))
  refine z121 rfl hit (by intro row hr;obtain⟨w,_,rfl⟩:=List.mem_map.1 hr;rfl) (fun _=>[]) (fun (a:List Int × List Int)=>[(22,some (.arr 3 1 (intRows a.1))),(26,some (.arr 3 1 (intRows a.2)))])
   (fun k' j a=>k'=some 0∧a=(E.take j).foldl tally (List.replicate m 0,List.replicate n.paths.length 0)) (fun _ _ _=>False) (List.replicate m 0,List.replicate n.paths.length 0) ?_ ⟨rfl,by simp⟩ ?_ ?_ (fun _ _ _ h=>h.elim)
  ·simp only [go_sem]
   refine weA ?_ ?_ <;> simp
  ·rintro X0 W0 k' j a row hj ⟨rfl,ha⟩ l1 m1
   obtain⟨e,he,rfl⟩:∃ e,E[j]?=some e∧row=[.agg e.row]:=by
    simp only [endRows,List.getElem?_map,Option.map_eq_some_iff] at hj
    obtain⟨e,h1,h2⟩:=hj
    exact⟨e,h1,h2.symm⟩
   have hr:=z264 hgA (hE ▸ List.mem_of_getElem? he)
   have ha':(E.take (j + 1)).foldl tally (List.replicate m 0,List.replicate n.paths.length 0)=tally a e:=by rw [z37 _ _ _ _ _ he,← ha]
   have hl:=z182 (E.take j) (List.replicate m 0,List.replicate n.paths.length 0)
   rw [← ha] at hl
   simp only [List.length_replicate] at hl
   have hil:=z16 a.1
   have hil2:=z16 a.2
   rw [hl.1] at hil
   rw [hl.2] at hil2
   simp only [go_sem,EndT.row]
   by_cases hp:e.pa<0
   ·have hpb:decide (e.pa<0)=true:=decide_eq_true hp
    have h0:0≤e.pl:=hr.1.1
    have h1:e.pl.toNat<m:=by omega
    have hg:=z80 (l:=a.1) (i:=e.pl) hr.1.1 (by omega)
    repeat (first|refine nx ?_|(refine z3 fun K hK=>?_;simp only [go_sem,hpb];apply hK;clear hK K))
    refine z9 rfl ?_
    repeat (first|refine nx ?_|(refine z3 fun K hK=>?_;simp only [go_sem,hil,h0,h1,hg,z48];apply hK;clear hK K))
    refine⟨(bump1 a.1 e.pl,a.2),?_,rfl,by rw [ha',tally,if_pos hp]⟩
    rw [bump1]
    refine weA ?_ ?_ <;> simp
   ·have hpb:decide (e.pa<0)=false:=decide_eq_false hp
    have h0:0≤e.pa:=by omega
    have h1:e.pa.toNat<n.paths.length:=by rcases hr.2 with h | h <;> omega
    have hg:=z80 (l:=a.2) (i:=e.pa) (by omega) (by omega)
    repeat (first|refine nx ?_|(refine z3 fun K hK=>?_;simp only [go_sem,hpb];apply hK;clear hK K))
    refine z5 rfl ?_
    repeat (first|refine nx ?_|(refine z3 fun K hK=>?_;simp only [go_sem,hil2,h0,h1,hg,z48];apply hK;clear hK K))
    refine⟨(a.1,bump1 a.2 e.pa),?_,rfl,by rw [ha',tally,if_neg hp]⟩
    rw [bump1]
    refine weA ?_ ?_ <;> simp
  ·rintro k' a ⟨rfl,ha⟩
   rw [endRows,List.length_map,List.take_length] at ha
   have ht:tallyE n (endsL n x (huntedA n x))=a:=by rw [tallyE,← hA,← hE,ha,hm];rfl
   have hl:=z182 E (List.replicate m 0,List.replicate n.paths.length 0)
   rw [← ha] at hl
   simp only [List.length_replicate] at hl
   have hP:whereP n x=posL a.1:=by rw [whereP,ht]
   have hW:whereW n x=posL a.2:=by rw [whereW,ht]
   simp only [go_sem]
   repeat (first|refine z25 ?_|refine z36 ?_|refine z7 ?_|refine z210 ?_|refine z100 ?_|refine z62 ?_|refine z123 rfl ?_|refine z110 ?_|refine z55 ?_|refine z129 ?_|refine z102 ?_|refine z4 ?_)
   have nz:∀ l:List Int,l≠[]→(intRows l).isEmpty=false:=fun l h=>by cases l <;> simp_all [intRows]
   by_cases p1:posL a.1=[]
   ·have zf1:=z1203 a.1 (by omega) p1
    by_cases p2:posL a.2=[]
    ·have zf2:=z1203 a.2 (by omega) p2
     have hw:whereD n x=.tup [.sl [],.sl [],.i 3]:=by rw [whereD,whereC,if_neg (fun h=>h hok),if_pos ⟨by rw [hP,p1],by rw [hW,p2]⟩];rfl
     rw [hw]
     refine z8 (by kernel_rfl) (by kernel_rfl) fun K hK=>?_
     simp only [go_sem]
     refine⟨_,.fn (hf:=zf1) (hd:=rfl) (hr:=.inl rfl),?_⟩
     simp only [go_sem]
     refine⟨_,.fn (hf:=zf2) (hd:=rfl) (hr:=.inl rfl),?_⟩
     simp only [go_sem]
     refine⟨by kernel_rfl,hK _ ?_⟩
     clear hK K
     repeat (first|refine nx ?_|(refine z3 fun K hK=>?_;simp only [go_sem];apply hK;clear hK K))
     refine z9 rfl ?_
     repeat (first|refine nx ?_|(refine z3 fun K hK=>?_;simp only [go_sem];apply hK;clear hK K))
     simp only [go_sem,retN]
    ·have zf2:=z1202 a.2 (by omega)
     have hw:whereD n x=.tup [.sl [],.sl (intRows (posL a.2)),.i 0]:=by rw [whereD,whereC,if_neg (fun h=>h hok),if_neg (fun h=>p2 (by rw [← hW,h.2])),hP,p1,hW];rfl
     rw [hw]
     refine z8 (by kernel_rfl) (by kernel_rfl) fun K hK=>?_
     simp only [go_sem]
     refine⟨_,.fn (hf:=zf1) (hd:=rfl) (hr:=.inl rfl),?_⟩
     simp only [go_sem]
     refine⟨_,.fnS (hdst:=rfl) (hf:=zf2) (hd:=rfl) (hr:=.inl (z89 _)) (hfr:=rfl),?_⟩
     simp only [go_sem]
     refine⟨by kernel_rfl,hK _ ?_⟩
     clear hK K
     refine z94 [52] ?_
     simp only [go_sem]
     repeat (first|refine nx ?_|(refine z3 fun K hK=>?_;simp only [go_sem,nz _ p2];apply hK;clear hK K))
     refine z5 rfl ?_
     refine z36 ?_
     refine z437 4 ?_
     simp only [go_sem]
     repeat (first|refine nx ?_|(refine z3 fun K hK=>?_;simp only [go_sem];apply hK;clear hK K))
     simp only [go_sem,retN]
   ·have zf1:=z1202 a.1 (by omega)
    by_cases p2:posL a.2=[]
    ·have zf2:=z1203 a.2 (by omega) p2
     have hw:whereD n x=.tup [.sl (intRows (posL a.1)),.sl [],.i 0]:=by rw [whereD,whereC,if_neg (fun h=>h hok),if_neg (fun h=>p1 (by rw [← hP,h.1])),hP,hW,p2];rfl
     rw [hw]
     refine z8 (by kernel_rfl) (by kernel_rfl) fun K hK=>?_
     simp only [go_sem]
     refine⟨_,.fnS (hdst:=rfl) (hf:=zf1) (hd:=rfl) (hr:=.inl (z89 _)) (hfr:=rfl),?_⟩
     simp only [go_sem]
     refine⟨_,.fn (hf:=zf2) (hd:=rfl) (hr:=.inl rfl),?_⟩
     simp only [go_sem]
     refine⟨by kernel_rfl,hK _ ?_⟩
     clear hK K
     refine z94 [50] ?_
     simp only [go_sem]
     repeat (first|refine nx ?_|(refine z3 fun K hK=>?_;simp only [go_sem,nz _ p1];apply hK;clear hK K))
     refine z5 rfl ?_
     refine z36 ?_
     refine z437 5 ?_
     simp only [go_sem]
     repeat (first|refine nx ?_|(refine z3 fun K hK=>?_;simp only [go_sem];apply hK;clear hK K))
     simp only [go_sem,retN]
    ·have zf2:=z1202 a.2 (by omega)
     have hw:whereD n x=.tup [.sl (intRows (posL a.1)),.sl (intRows (posL a.2)),.i 0]:=by rw [whereD,whereC,if_neg (fun h=>h hok),if_neg (fun h=>p1 (by rw [← hP,h.1])),hP,hW]
     rw [hw]
     refine z8 (by kernel_rfl) (by kernel_rfl) fun K hK=>?_
     simp only [go_sem]
     refine⟨_,.fnS (hdst:=rfl) (hf:=zf1) (hd:=rfl) (hr:=.inl (z89 _)) (hfr:=rfl),?_⟩
     simp only [go_sem]
     refine⟨_,.fnS (hdst:=rfl) (hf:=zf2) (hd:=rfl) (hr:=.inl (z89 _)) (hfr:=rfl),?_⟩
     simp only [go_sem]
     refine⟨by kernel_rfl,hK _ ?_⟩
     clear hK K
     refine z94 [50,52] ?_
     simp only [go_sem]
     repeat (first|refine nx ?_|(refine z3 fun K hK=>?_;simp only [go_sem,nz _ p1,nz _ p2];apply hK;clear hK K))
     refine z5 rfl ?_
     repeat (first|refine nx ?_|(refine z3 fun K hK=>?_;simp only [go_sem];apply hK;clear hK K))
     simp only [go_sem,retN]
 ·rw [openD,if_neg hok] at h38
  have hne:(openX n x != 0)=true:=by simpa using hok
  have hw:whereD n x=.tup [.sl [],.sl [],.i (openX n x)]:=by rw [whereD,whereC,if_pos hok];rfl
  rw [hw]
  repeat (first|refine nx ?_|(refine z3 fun K hK=>?_;simp only [go_sem,hne];(repeat (first|(refine⟨_,.lent (hf:=h38) (hd:=rfl) (hr:=rfl),?_⟩;simp only [go_sem,hne])|(refine⟨_,.given (hf:=h38) (hd:=rfl) (ha:=rfl),?_⟩;simp only [go_sem,hne])));apply hK;clear hK K))
  refine z9 rfl ?_
  repeat (first|refine nx ?_|(refine z3 fun K hK=>?_;simp only [go_sem];apply hK;clear hK K))
  simp only [go_sem,retN]
end Go.Ab
namespace Go.Ab
open Go.RowKit Go.Proofs
set_option maxRecDepth 100000
deriving instance DecidableEq for Arv
deriving instance DecidableEq for Cnt
def goF (n:Net) (x:Missed):Nat→Nat→List Arv × List Cnt→List Arv × List Cnt
 | 0,_,a=>a
 | k + 1,i,a=>match a.1[i]? with
  | some s=>goF n x k (i + 1) (spotA n x s a)
  | none=>a
theorem z287 {n:Net} {x:Missed} {i:Nat} {a:List Arv × List Cnt} (h:a.1[i]?=none):∀ f,followF n x f i a=a
 | 0=>rfl
 | f + 1=>by rw [followF,h]
theorem z28 {n:Net} {x:Missed}:∀ (k i f:Nat) (a:List Arv × List Cnt),followF n x (f + k) i a=followF n x f (i + k) (goF n x k i a)
 | 0,i,f,a=>rfl
 | k + 1,i,f,a=>by
  rw [show f + (k + 1)=(f + k) + 1 by omega,followF,goF]
  cases h:a.1[i]? with
  | some s=>dsimp only;rw [z28 k (i + 1) f,show i + 1 + k=i + (k + 1) by omega]
  | none=>dsimp only;rw [z287 (List.getElem?_eq_none (by have:=List.getElem?_eq_none_iff.1 h;omega))]
def runX8 (n:Nat) (a d:Arv):List Arv:=(List.range n).map fun (i:Nat)=>⟨a.pl + i * d.pl,a.mi + i * d.mi,a.fp + i * d.fp,a.fm + i * d.fm,a.pa + i * d.pa,a.lv + i * d.lv⟩
def runN8 (l:List (Nat × Int × Int)):List Int:=l.flatMap fun r=>(List.range r.1).map fun (i:Nat)=>r.2.1 + i * r.2.2
def exA:List Arv:=runX8 1 ⟨0,300,0,0,-1,0⟩ ⟨0,0,0,0,0,0⟩++runX8 21 ⟨1,400,0,300,0,300⟩ ⟨0,1,0,0,0,0⟩++runX8 8 ⟨2,492,1,400,1,420⟩ ⟨0,1,0,0,0,0⟩++runX8 55 ⟨2,501,1,400,1,420⟩ ⟨0,1,0,0,0,0⟩++runX8 4 ⟨2,556,1,400,1,421⟩ ⟨0,1,0,0,0,1⟩++runX8 8 ⟨3,552,2,492,2,492⟩ ⟨0,1,0,0,0,1⟩
def exK:List (Int × Int):=(runN8 [(31,0,0),(51,1,0),(8,2,0),(59,2,0),(38,3,0)]).zip (runN8 [(31,300,1),(51,400,1),(8,492,1),(59,501,1),(38,552,1)])
def exC (l:List (Nat × Int × Int)):List Cnt:=(exK.zip (runN8 l)).map fun q=>⟨q.1.1,q.1.2,q.2⟩
def ex0:List Arv × List Cnt:=(exA.take 1,exC [])
def ex8:List Arv × List Cnt:=(exA.take 89,exC [(32,1,0),(6,2,1),(24,7,0),(6,6,-1)])
def ex16:List Arv × List Cnt:=(exA.take 89,exC [(32,1,0),(14,2,1),(16,15,0),(14,14,-1)])
def ex24:List Arv × List Cnt:=(exA.take 97,exC [(32,1,0),(20,2,1),(10,21,0),(20,20,-1),(1,1,0),(7,2,0)])
def ex32:List Arv × List Cnt:=(exA.take 97,exC [(32,1,0),(20,2,1),(10,21,0),(20,20,-1),(8,1,1),(1,1,0),(30,2,0),(1,1,0)])
def ex40:List Arv × List Cnt:=(exA.take 97,exC [(32,1,0),(20,2,1),(10,21,0),(20,20,-1),(8,1,1),(10,1,1),(21,10,0),(9,9,-1)])
def ex48:List Arv × List Cnt:=(exA.take 97,exC [(32,1,0),(20,2,1),(10,21,0),(20,20,-1),(8,1,1),(18,1,1),(13,18,0),(17,17,-1)])
def ex56:List Arv × List Cnt:=(exA.take 97,exC [(32,1,0),(20,2,1),(10,21,0),(20,20,-1),(8,1,1),(26,1,1),(5,26,0),(25,25,-1)])
def ex64:List Arv × List Cnt:=(exA.take 97,exC [(32,1,0),(20,2,1),(10,21,0),(20,20,-1),(8,1,1),(31,1,1),(3,31,0),(25,30,-1)])
def ex72:List Arv × List Cnt:=(exA.take 97,exC [(32,1,0),(20,2,1),(10,21,0),(20,20,-1),(8,1,1),(31,1,1),(11,31,0),(17,30,-1)])
def ex80:List Arv × List Cnt:=(exA.take 97,exC [(32,1,0),(20,2,1),(10,21,0),(20,20,-1),(8,1,1),(31,1,1),(19,31,0),(9,30,-1)])
def ex88:List Arv × List Cnt:=(exA.take 97,exC [(32,1,0),(20,2,1),(10,21,0),(20,20,-1),(8,1,1),(31,1,1),(27,31,0),(1,30,0)])
def ex96:List Arv × List Cnt:=(exA.take 97,exC [(32,1,0),(20,2,1),(10,21,0),(20,20,-1),(8,1,1),(31,1,1),(28,31,0),(7,1,1),(24,7,0),(6,6,-1)])
def ex104:List Arv × List Cnt:=(exA.take 97,exC [(32,1,0),(20,2,1),(10,21,0),(20,20,-1),(8,1,1),(31,1,1),(28,31,0),(8,1,1),(23,8,0),(7,7,-1)])
theorem z1365:goF exN exM 8 0 ex0=ex8:=by decide +kernel
theorem z1323:goF exN exM 8 8 ex8=ex16:=by decide +kernel
theorem z1322:goF exN exM 8 16 ex16=ex24:=by decide +kernel
theorem z1321:goF exN exM 8 24 ex24=ex32:=by decide +kernel
theorem z1320:goF exN exM 8 32 ex32=ex40:=by decide +kernel
theorem z1319:goF exN exM 8 40 ex40=ex48:=by decide +kernel
theorem z1318:goF exN exM 8 48 ex48=ex56:=by decide +kernel
theorem z1317:goF exN exM 8 56 ex56=ex64:=by decide +kernel
theorem z1316:goF exN exM 8 64 ex64=ex72:=by decide +kernel
theorem z1315:goF exN exM 8 72 ex72=ex80:=by decide +kernel
theorem z1314:goF exN exM 8 80 ex80=ex88:=by decide +kernel
theorem z1313:goF exN exM 8 88 ex88=ex96:=by decide +kernel
theorem z1268:goF exN exM 8 96 ex96=ex104:=by decide +kernel
theorem z1185:startA exM=ex0.1:=by decide +kernel
theorem z1092:huntedA exN exM=ex104.1:=by
 rw [huntedA,show boundN exN exM + 1=1101 + 8 + 8 + 8 + 8 + 8 + 8 + 8 + 8 + 8 + 8 + 8 + 8 + 8 by decide +kernel,z1185,show (ex0.1,([]:List Cnt))=ex0 from rfl]
 rw [z28 8 0,z1365,show 0 + 8=8 from rfl]
 rw [z28 8 8,z1323,show 8 + 8=16 from rfl]
 rw [z28 8 16,z1322,show 16 + 8=24 from rfl]
 rw [z28 8 24,z1321,show 24 + 8=32 from rfl]
 rw [z28 8 32,z1320,show 32 + 8=40 from rfl]
 rw [z28 8 40,z1319,show 40 + 8=48 from rfl]
 rw [z28 8 48,z1318,show 48 + 8=56 from rfl]
 rw [z28 8 56,z1317,show 56 + 8=64 from rfl]
 rw [z28 8 64,z1316,show 64 + 8=72 from rfl]
 rw [z28 8 72,z1315,show 72 + 8=80 from rfl]
 rw [z28 8 80,z1314,show 80 + 8=88 from rfl]
 rw [z28 8 88,z1313,show 88 + 8=96 from rfl]
 rw [z28 8 96,z1268,show 96 + 8=104 from rfl]
 rw [z287 (show ex104.1[104]?=none by decide +kernel)]
theorem z196 {α β γ:Type} (g:γ→β→γ) (f:α→List β):∀ (l:List α) (c:γ),(l.flatMap f).foldl g c=l.foldl (fun c a=>(f a).foldl g c) c
 | [],c=>rfl
 | a::l,c=>by rw [List.flatMap_cons,List.foldl_append,z196 g f l,List.foldl_cons]
theorem z1126:tallyE exN (endsL exN exM (huntedA exN exM))=([0,0,0,8],[0,0,0,0,212]):=by
 rw [z1092,tallyE,endsL,z196]
 decide +kernel
end Go.Ab
namespace Go.Ab
open Go.RowKit Go.Proofs
set_option maxHeartbeats 8000000
set_option maxRecDepth 20000
attribute [local irreducible] WalkL Walk
theorem z1210:openX exN exM=0:=by decide +kernel
theorem z1148:posL [0,0,0,8]=[3]:=by decide +kernel
theorem z1147:posL [0,0,0,0,212]=[4]:=by decide +kernel
theorem z1120:whereC exN exM=([3],[4],0):=by
 rw [whereC,if_neg (by rw [z1210];simp),whereP,whereW,z1126,z1148,z1147,if_neg (by simp)]
end Go.Ab
namespace Go.Ab
open Go.RowKit Go.Proofs
set_option maxHeartbeats 8000000
set_option maxRecDepth 20000
attribute [local irreducible] WalkL Walk
theorem z1288 (a b:List Int) (ha:a.length<2 ^ 30):Fn Tryd.prog 47 [.sl (intRows a),.sl (intRows b)] (.bool (decide (a=b))):=by
 refine z11 26 Tryd.call47 Tryd.func47 rfl (by decide) fun J=>?_
 simp only [go_sem,St.start,Tryd.ntmps47,Tryd.results47]
 repeat (first|refine nx ?_|(refine z3 fun K hK=>?_;simp only [go_sem,z16];apply hK;clear hK K))
 by_cases hl:a.length=b.length
 ·have hne:((a.length:Int) != (b.length:Int))=false:=by simp [hl]
  simp only [go_sem,hne]
  refine z5 rfl ?_
  repeat (first|refine nx ?_|(refine z3 fun K hK=>?_;simp only [go_sem];apply hK;clear hK K))
  refine z13 (fun (i:Nat)=>[(5,.d (.i i))]) (fun _=>[]) (fun i=>i≤a.length∧a.take i=b.take i) (fun i=>a.length - i) 0 ?_ ⟨Nat.zero_le _,by simp⟩ ?_
  ·simp only [go_sem]
   refine weA ?_ ?_ <;> simp
  ·intro i ⟨hi,heq⟩
   simp only [go_sem]
   repeat (first|refine nx ?_|(refine z3 fun K hK=>?_;simp only [go_sem,z16];apply hK;clear hK K))
   refine z6 rfl (fun hb=>?_) (fun hb=>?_)
   ·have hlt:i<a.length:=by simpa using hb
    have hw:IntKind.i64.wrap ((i:Int) + 1)=((i + 1:Nat):Int):=by rw [z10 (by omega)];simp
    obtain⟨x,hx⟩:∃ x,a[i]?=some x:=⟨_,List.getElem?_eq_getElem hlt⟩
    obtain⟨y,hy⟩:∃ y,b[i]?=some y:=⟨_,List.getElem?_eq_getElem (hl ▸ hlt)⟩
    have g1:=z466 hx
    have g2:=z466 hy
    repeat (first|refine nx ?_|(refine z3 fun K hK=>?_;simp only [go_sem];apply hK;clear hK K))
    refine z8 (by kernel_rfl) (by kernel_rfl) fun K hK=>?_
    simp only [go_sem,g1,g2]
    refine⟨by kernel_rfl,hK _ ?_⟩
    clear hK K
    refine z6 rfl (fun hc=>?_) (fun hc=>?_)
    ·have hc:¬ x=y:=by simpa using hc
     have hab:¬ a=b:=by rintro rfl;rw [hx] at hy;cases hy;exact hc rfl
     repeat (first|refine nx ?_|(refine z3 fun K hK=>?_;simp only [go_sem];apply hK;clear hK K))
     simp only [go_sem,hab]
    ·have hc:x=y:=by simpa using hc
     repeat (first|refine nx ?_|(refine z3 fun K hK=>?_;simp only [go_sem,hw];apply hK;clear hK K))
     refine⟨rfl,i + 1,?_,⟨hlt,by rw [List.take_add_one,List.take_add_one,heq,hx,hy,hc]⟩,by omega⟩
     refine weA ?_ ?_ <;> simp
   ·have he:i=a.length:=by (have:¬ i<a.length:=by simpa using hb);omega
    subst he
    have hab:a=b:=z332 hl heq
    repeat (first|refine nx ?_|(refine z3 fun K hK=>?_;simp only [go_sem];apply hK;clear hK K))
    simp only [go_sem,hab]
 ·have hne:((a.length:Int) != (b.length:Int))=true:=by simp;omega
  have hab:¬ a=b:=by rintro rfl;exact hl rfl
  simp only [go_sem,hne]
  refine z9 rfl ?_
  repeat (first|refine nx ?_|(refine z3 fun K hK=>?_;simp only [go_sem];apply hK;clear hK K))
  simp only [go_sem,hab]
def exS:List SpotT:=[⟨3,50,60⟩,⟨1,30,20⟩,⟨2,20,40⟩]
def exW:List (List Int):=[[0,120,255,315],[435,0,135,195],[300,420,0,60],[240,360,495,0]]
def ordB (F:Mat) (S:List SpotT):Nat→Nat→Nat→MemB→Bool
 | 0,_,s,_=>s == 0
 | f + 1,p,s,m=>s == 0 || (elems s).any fun i=>decide ((bestM F S 5 p s m).1.2=(i:Int)) && ordB F S f (nextP S i) (s - 2 ^ i) (bestM F S 5 p s m).2
theorem z1063 {F:Mat} {S:List SpotT}:∀ (f p s:Nat) (m:MemB),ordB F S f p s m=true→OrdOk F S f p s m
 | 0,_,_,_,h=>by simpa [ordB,OrdOk] using h
 | f + 1,p,s,m,h=>by
  rw [ordB,Bool.or_eq_true,beq_iff_eq,List.any_eq_true] at h
  rcases h with h | ⟨i,hi,h⟩
  ·exact .inl h
  ·rw [Bool.and_eq_true,decide_eq_true_eq] at h
   exact .inr ⟨i,hi,h.1,z1063 f _ _ _ h.2⟩
theorem z1235:exN.Good:=z154.1 fun hb=>by
 have hok:checkPartyF exN exP=0:=by decide +kernel
 rw [checkPartyF,if_pos hb] at hok;simp at hok
theorem z1233:allLL exN exP=exW:=by decide +kernel
theorem z1270:matM exN.places.toNat (allM exN exP)=matM exN.places.toNat (getL exW):=by
 rw [← z1240 exP z1235,z1233]
 decide +kernel
theorem z1269:ordB (getL exW) exS 5 0 (fullN exS) (bestP (getL exW) exS 0).2=true:=by decide +kernel
theorem z1234:planC exN exP (getL exW) 0 exS=([1,2,0],32250,0):=by decide +kernel
theorem z1361:Fn Tryd.prog 14 [] (.bool true):=by
 have h46:=z1354
 have h15:=z1290 exN exM z915 (by decide)
 have h21:=z1360 exN exP (getL exW) 0 exS z915 (.inl (by decide)) (by decide) (fun _=>z1270) (fun _ _=>z1063 _ _ _ _ z1269)
 have h47:=z1288 [3] [3] (by decide)
 have h48:=z1288 [4] [4] (by decide)
 have h49:=z1288 [1,2,0] [1,2,0] (by decide)
 rw [whereD,z1120] at h15
 rw [planD,z1234] at h21
 rw [Missed.row,exM] at h15 h46
 rw [exSpots] at h46
 simp only [exS,intRows,SpotT.row,List.map_cons,List.map_nil,decide_true] at h15 h21 h47 h48 h49
 obtain⟨N,hN⟩:∃ N,N=exN:=⟨_,rfl⟩
 obtain⟨p,hp⟩:∃ p,p=exP:=⟨_,rfl⟩
 rw [← hN,← hp] at *
 rw [Net.cells] at *
 rw [Party.cells] at *
 refine z11 56 Tryd.call14 Tryd.func14 rfl (by decide) fun J=>?_
 simp only [go_sem,St.start,Tryd.ntmps14,Tryd.results14,]
 repeat (first|refine nx ?_|(refine z3 fun K hK=>?_;simp only [go_sem];(repeat (first|(refine⟨_,.lent (hf:=h46) (hd:=rfl) (hr:=rfl),?_⟩;simp only [go_sem])|(refine⟨_,.lent (hf:=h15) (hd:=rfl) (hr:=rfl),?_⟩;simp only [go_sem])|(refine⟨_,.lent (hf:=h21) (hd:=rfl) (hr:=rfl),?_⟩;simp only [go_sem])|(refine⟨_,.lent (hf:=h47) (hd:=rfl) (hr:=rfl),?_⟩;simp only [go_sem])|(refine⟨_,.lent (hf:=h48) (hd:=rfl) (hr:=rfl),?_⟩;simp only [go_sem])|(refine⟨_,.lent (hf:=h49) (hd:=rfl) (hr:=rfl),?_⟩;simp only [go_sem])|(refine⟨_,.given (hf:=h46) (hd:=rfl) (ha:=rfl),?_⟩;simp only [go_sem])|(refine⟨_,.given (hf:=h15) (hd:=rfl) (ha:=rfl),?_⟩;simp only [go_sem])|(refine⟨_,.given (hf:=h21) (hd:=rfl) (ha:=rfl),?_⟩;simp only [go_sem])|(refine⟨_,.given (hf:=h47) (hd:=rfl) (ha:=rfl),?_⟩;simp only [go_sem])|(refine⟨_,.given (hf:=h48) (hd:=rfl) (ha:=rfl),?_⟩;simp only [go_sem])|(refine⟨_,.given (hf:=h49) (hd:=rfl) (ha:=rfl),?_⟩;simp only [go_sem])));apply hK;clear hK K))
 simp only [go_sem]
end Go.Ab
namespace Go.Ab
open Go.RowKit Go.Proofs
set_option maxHeartbeats 2000000
def memA (A:List Arv) (p m:Int):Prop:=∃ a ∈ A,a.pl=p∧a.mi=m
theorem z114 {A B:List Arv} (h:A <+: B) {p m:Int} (hm:memA A p m):memA B p m:=by
 obtain⟨a,ha,h1⟩:=hm
 exact⟨a,h.subset ha,h1⟩
theorem z1162 {A:List Arv} {a:Arv}:A.any (sameS a)=true↔memA A a.pl a.mi:=by
 simp only [List.any_eq_true,sameS,Bool.and_eq_true,beq_iff_eq,memA]
theorem z362 (cl:List Clue) (A:List Arv) (a:Arv):A <+: arriveA cl A a:=by
 rw [arriveA];split
 ·exact List.prefix_refl _
 ·exact List.prefix_append _ _
theorem z363 {cl:List Clue} {A:List Arv} {a:Arv} (h:atB cl a.pl a.mi=true):memA (arriveA cl A a) a.pl a.mi:=by
 rw [arriveA,h,Bool.not_true,Bool.or_false]
 split
 ·rename_i hc;exact z1162.1 hc
 ·exact⟨a,by simp,rfl,rfl⟩
theorem z307 (cl:List Clue) (lo hi:Int) (mk:Int→Arv):∀ (ws:List (Int × Bool)) (A:List Arv),A <+: walkA cl lo hi mk ws A
 | [],A=>List.prefix_refl _
 | w::ws,A=>by
  rw [walkA];split
  ·exact List.prefix_refl _
  ·refine List.IsPrefix.trans ?_ (z307 cl lo hi mk ws _)
   split
   ·exact z362 _ _ _
   ·exact List.prefix_refl _
theorem z578 {cl:List Clue} {lo hi t:Int} {b:Bool} {mk:Int→Arv} (hmk:(mk t).mi=t) (hat:atB cl (mk t).pl t=true) (h1:lo≤t) (h2:t≤hi):∀ (f:Nat) (m:Int) (A:List Arv),(t,b) ∈ walksF cl f m→memA (walkA cl lo hi mk (walksF cl f m) A) (mk t).pl t
 | 0,m,A,h=>by simp [walksF] at h
 | f + 1,m,A,h=>by
  rw [walksF] at h ⊢
  rw [walkA]
  rcases List.mem_cons.1 h with h | h
  ·cases h
   have e1:¬ ((t,onB8 cl t):Int × Bool).1 > hi:=by show ¬ t > hi;omega
   have e2:((t,onB8 cl t):Int × Bool).1 ≥ lo:=h1
   rw [if_neg e1,if_pos e2]
   have:=z363 (cl:=cl) (A:=A) (a:=mk t) (by rw [hmk];exact hat)
   rw [hmk] at this
   exact z114 (z307 _ _ _ _ _ _) this
  ·split at h
   ·rename_i hc
    have hr:=z164 h
    have e1:¬ ((m,onB8 cl m):Int × Bool).1 > hi:=by show ¬ m > hi;have:m + 1≤t:=hr.1;omega
    rw [if_neg e1,if_pos hc]
    exact z578 hmk hat h1 h2 f (m + 1) _ h
   ·simp at h
def arrFrom (n:Net) (x:Missed) (p lv to t:Int):Prop:=∃ (k:Nat) (y:Path) (b:Bool),n.paths[k]?=some y∧y.frm=p∧y.grade≤x.party.grade∧y.to=to ∧
 wr (lv + (spanW y x.party).lo)≤t∧t≤wr (lv + (spanW y x.party).hi)∧(t,b) ∈ walksL x lv∧atB x.clues to t=true
theorem z327 (n:Net) (x:Missed) (p m lv:Int) (A:List Arv) (k:Nat):A <+: pathA n x p m lv A k:=by
 rw [pathA];split
 ·split
  ·exact z307 _ _ _ _ _ _
  ·exact List.prefix_refl _
 ·exact List.prefix_refl _
theorem z452 (n:Net) (x:Missed) (p m lv:Int):∀ (k:Nat) (A:List Arv),A <+: pathsA n x p m lv k A
 | 0,A=>List.prefix_refl _
 | k + 1,A=>by
  rw [pathsA,List.range_succ,List.foldl_append]
  exact (z452 n x p m lv k A).trans (z327 _ _ _ _ _ _ _)
theorem z989 {n:Net} {x:Missed} {p m lv to t:Int} (h:arrFrom n x p lv to t):∀ (k:Nat) (A:List Arv),n.paths.length≤k→memA (pathsA n x p m lv k A) to t:=by
 obtain⟨j,y,b,h1,h2,h3,h4,h5,h6,h7,h8⟩:=h
 have hj:=(List.getElem?_eq_some_iff.1 h1).1
 have hstep:∀ k,j<k→∀ A,memA (pathsA n x p m lv k A) to t:=by
  intro k
  induction k with
  | zero=>intro h;omega
  | succ k ih =>
   intro hjk A
   rw [pathsA,List.range_succ,List.foldl_append]
   by_cases hk:j<k
   ·exact z114 (z327 _ _ _ _ _ _ _) (ih hk A)
   ·obtain rfl:j=k:=by omega
    simp only [List.foldl_cons,List.foldl_nil]
    rw [pathA,h1]
    dsimp only
    rw [if_pos ⟨h2,h3⟩,← h4]
    exact z578 (mk:=fun t=>⟨y.to,t,p,m,j,lv⟩) rfl (by rw [h4];exact h8) h5 h6 _ _ _ h7
 exact fun k A hk=>hstep k (by omega) A
def Closed (n:Net) (x:Missed) (a:List Arv × List Cnt):Prop:=∀ p lv,hasL a.2 p lv=true→∀ to t,arrFrom n x p lv to t→memA a.1 to t
theorem z226 {p m q u:Int}:∀ (l:List Cnt),hasL (bumpL l p m) q u=true↔hasL l q u=true∨(q=p∧u=m)
 | []=>by simp [bumpL,hasL];exact⟨fun ⟨a,b⟩=>⟨a.symm,b.symm⟩,fun ⟨a,b⟩=>⟨a.symm,b.symm⟩⟩
 | a::l=>by
  rw [bumpL]
  split
  ·rename_i ha
   simp only [hasL,List.any_cons,Bool.or_eq_true,decide_eq_true_eq]
   constructor
   ·rintro (h | h)
    ·exact .inl (.inl h)
    ·exact .inl (.inr h)
   ·rintro ((h | h) | ⟨rfl,rfl⟩)
    ·exact .inl h
    ·exact .inr h
    ·exact .inl ha
  ·have:=z226 (p:=p) (m:=m) (q:=q) (u:=u) l
   simp only [hasL,List.any_cons,Bool.or_eq_true] at this ⊢
   rw [this]
   constructor
   ·rintro (h | h | h)
    ·exact .inl (.inl h)
    ·exact .inl (.inr h)
    ·exact .inr h
   ·rintro ((h | h) | h)
    ·exact .inl h
    ·exact .inr (.inl h)
    ·exact .inr (.inr h)
theorem z1103 {p m:Int}:∀ (l:List Cnt),hasL l p m=false→cntL l p m=0
 | [],_=>rfl
 | a::l,h=>by
  simp only [hasL,List.any_cons,Bool.or_eq_false_iff,decide_eq_false_iff_not] at h
  rw [cntL,if_neg h.1]
  exact z1103 l h.2
theorem z250 (n:Net) (x:Missed) (p m:Int) (a:List Arv × List Cnt) (lv:Int):a.1 <+: (leaveA n x p m a lv).1:=by
 rw [leaveA];split
 ·exact List.prefix_refl _
 ·exact z452 _ _ _ _ _ _ _
theorem z251 {n:Net} {x:Missed} {p m lv q u:Int} {a:List Arv × List Cnt}:hasL (leaveA n x p m a lv).2 q u=true↔hasL a.2 q u=true∨(q=p∧u=lv):=by
 have:(leaveA n x p m a lv).2=bumpL a.2 p lv:=by rw [leaveA];split <;> rfl
 rw [this,z226]
theorem z545 {n:Net} {x:Missed} {p m lv:Int} {a:List Arv × List Cnt} (h:Closed n x a):Closed n x (leaveA n x p m a lv):=by
 intro q u hq to t ht
 by_cases hqu:q=p∧u=lv
 ·obtain⟨rfl,rfl⟩:=hqu
  rw [leaveA]
  split
  ·rename_i hc
   refine h q u ?_ to t ht
   cases hh:hasL a.2 q u
   ·rw [z355,z1103 _ hh] at hc
    exact absurd hc (by decide)
   ·rfl
  ·exact z989 ht _ _ (Nat.le_refl _)
 ·rcases z251.1 hq with h1 | h1
  ·exact z114 (z250 _ _ _ _ _ _) (h q u h1 to t ht)
  ·exact absurd h1 hqu
theorem z458 (n:Net) (x:Missed) (p m:Int):∀ (l:List Int) (a:List Arv × List Cnt),a.1 <+: (l.foldl (leaveA n x p m) a).1
 | [],a=>List.prefix_refl _
 | v::l,a=>(z250 n x p m a v).trans (z458 n x p m l _)
theorem z339 {n:Net} {x:Missed} {p m:Int}:∀ (l:List Int) (a:List Arv × List Cnt),Closed n x a→Closed n x (l.foldl (leaveA n x p m) a)∧(∀ q u,hasL a.2 q u=true→hasL (l.foldl (leaveA n x p m) a).2 q u=true)∧∀ v ∈ l,hasL (l.foldl (leaveA n x p m) a).2 p v=true
 | [],a,h=>⟨h,fun _ _ h=>h,fun v hv=>by simp at hv⟩
 | v::l,a,h=>by
  obtain⟨h1,h2,h3⟩:=z339 l (leaveA n x p m a v) (z545 h)
  refine⟨h1,fun q u hq=>h2 q u (z251.2 (.inl hq)),fun u hu=>?_⟩
  rcases List.mem_cons.1 hu with rfl | hu
  ·exact h2 _ _ (z251.2 (.inr ⟨rfl,rfl⟩))
  ·exact h3 u hu
def Looked (n:Net) (x:Missed) (i:Nat) (a:List Arv × List Cnt):Prop:=Closed n x a∧∀ (j:Nat) s,j<i→a.1[j]?=some s→∀ lv ∈ staysL x s.pl s.mi (wr (s.mi + x.rest)),hasL a.2 s.pl lv=true
theorem z1061 {A B:List Arv} (h:A <+: B) {j:Nat} (hj:j<A.length):B[j]?=A[j]?:=by
 obtain⟨C,rfl⟩:=h
 rw [List.getElem?_append_left hj]
theorem z204 {n:Net} {x:Missed} (hx:Hunted n x):∀ (f i:Nat) (a:List Arv × List Cnt),i≤a.1.length→boundN n x + 1≤i + f→goodA n x a.1→Looked n x i a →
  a.1 <+: (followF n x f i a).1∧Looked n x (followF n x f i a).1.length (followF n x f i a)
 | 0,i,a,hi,hf,hg,hL=>by
  have:=z179 hg
  omega
 | f + 1,i,a,hi,hf,hg,hL=>by
  rw [followF]
  split
  ·rename_i s hs
   have hsp:=(hg.1 s (List.mem_of_getElem? hs)).2.1
   have hil:=(List.getElem?_eq_some_iff.1 hs).1
   have hp:=z458 n x s.pl s.mi (staysL x s.pl s.mi (wr (s.mi + x.rest))) a
   obtain⟨h1,h2,h3⟩:=z339 (p:=s.pl) (m:=s.mi) (staysL x s.pl s.mi (wr (s.mi + x.rest))) a hL.1
   have hlen:=hp.length_le
   obtain⟨h4,h5⟩:=z204 hx f (i + 1) (spotA n x s a) (by rw [spotA];omega) (by omega) (z469 hx hsp hg) ⟨h1,fun j s' hj hs' lv hlv=>by
    by_cases hji:j<i
    ·rw [spotA,z1061 hp (by omega)] at hs'
     exact h2 _ _ (hL.2 j s' hji hs' lv hlv)
    ·obtain rfl:j=i:=by omega
     rw [spotA,z1061 hp hil,hs] at hs'
     cases hs'
     exact h3 lv hlv⟩
   exact⟨hp.trans h4,h5⟩
  ·rename_i hs
   have:=List.getElem?_eq_none_iff.1 hs
   obtain rfl:i=a.1.length:=by omega
   exact⟨List.prefix_refl _,hL⟩
theorem z548 {n:Net} {x:Missed} (hx:Hunted n x) {s:Arv} (hs:s ∈ huntedA n x) {lv to t:Int} (hlv:lv ∈ staysL x s.pl s.mi (wr (s.mi + x.rest))) (h:arrFrom n x s.pl lv to t):memA (huntedA n x) to t:=by
 have hg0:goodA n x (startA x):=z68 ⟨fun a ha=>(by simp at ha),by simp⟩ ⟨hx.place,Int.le_refl _,hx.start.2⟩
 obtain⟨h1,h2⟩:=z204 hx (boundN n x + 1) 0 (startA x,[]) (Nat.zero_le _) (by omega) hg0 ⟨fun p lv hh=>by simp [hasL] at hh,fun j s hj=>by omega⟩
 obtain⟨j,hj⟩:=List.getElem?_of_mem hs
 exact h2.1 _ _ (h2.2 j s (List.getElem?_eq_some_iff.1 hj).1 hj lv hlv) to t h
theorem z705 {n:Net} {x:Missed} (hx:Hunted n x) (h:atB x.clues x.place x.start=true):memA (huntedA n x) x.place x.start:=by
 have hg0:goodA n x (startA x):=z68 ⟨fun a ha=>(by simp at ha),by simp⟩ ⟨hx.place,Int.le_refl _,hx.start.2⟩
 obtain⟨h1,h2⟩:=z204 hx (boundN n x + 1) 0 (startA x,[]) (Nat.zero_le _) (by omega) hg0 ⟨fun p lv hh=>by simp [hasL] at hh,fun j s hj=>by omega⟩
 exact z114 h1 (z363 (a:=⟨x.place,x.start,0,0,-1,0⟩) h)
end Go.Ab
namespace Go.Ab
open Go.RowKit Go.Proofs
set_option maxHeartbeats 4000000
set_option maxRecDepth 20000
attribute [local irreducible] WalkL Walk
theorem z1276 (n lo hi:Int):Fn Tryd.prog 42 [.i n,.i lo,.i hi] (.bool (withinB n lo hi)):=by
 refine z11 15 Tryd.call42 Tryd.func42 rfl (by decide) fun J=>?_
 simp only [go_sem,St.start,Tryd.ntmps42,Tryd.results42]
 by_cases h:lo≤n
 ·repeat (first|refine nx ?_|(refine z3 fun K hK=>?_;simp only [go_sem,h,ge_iff_le];apply hK;clear hK K))
  simp only [go_sem,withinB,h]
 ·repeat (first|refine nx ?_|(refine z3 fun K hK=>?_;simp only [go_sem,h,ge_iff_le];apply hK;clear hK K))
  simp only [go_sem,withinB,h]
def farM (n:Net):Bool:=decide ((n.paths.length:Int) > 60) || (n.paths.any (fun x=>decide ((x.opens.length:Int) > 20)) || (!badNet n && (decide (n.places > 5) || decide ((n.paths.length:Int) > 8))))
theorem z1359 (n:Net) (hs:n.Small):Fn Tryd.prog 22 [.agg n.cells] (.bool (farM n)):=by
 have h27:=z1285 n hs
 have hb0:=hs.paths
 refine z11 37 Tryd.call22 Tryd.func22 rfl (by decide) fun J=>?_
 simp only [go_sem,St.start,Tryd.ntmps22,Tryd.results22,Net.cells]
 repeat (first|refine nx ?_|(refine z3 fun K hK=>?_;simp only [go_sem];apply hK;clear hK K))
 refine z6 rfl (fun hc=>?_) (fun hc=>?_)
 ·repeat (first|refine nx ?_|(refine z3 fun K hK=>?_;simp only [go_sem];apply hK;clear hK K))
  simp only [go_sem,farM,hc]
 ·repeat (first|refine nx ?_|(refine z3 fun K hK=>?_;simp only [go_sem];apply hK;clear hK K))
  refine z13 (fun (i:Nat)=>[(3,.d (.i i))]) (fun _=>[]) (fun i=>i≤n.paths.length∧(n.paths.take i).any (fun x=>decide ((x.opens.length:Int) > 20))=false) (fun i=>n.paths.length - i) 0 ?_ ⟨Nat.zero_le _,rfl⟩ ?_
  ·simp only [go_sem]
   refine weA ?_ ?_ <;> simp
  ·intro i ⟨hi,hall⟩
   simp only [go_sem]
   repeat (first|refine nx ?_|(refine z3 fun K hK=>?_;simp only [go_sem];apply hK;clear hK K))
   refine z6 rfl (fun hb=>?_) (fun hb=>?_)
   ·have hlt:i<n.paths.length:=by simpa using hb
    have hw:IntKind.i64.wrap ((i:Int) + 1)=((i + 1:Nat):Int):=by rw [z10 (by omega)];simp
    obtain⟨x,hx⟩:∃ x,n.paths[i]?=some x:=⟨_,List.getElem?_eq_getElem hlt⟩
    repeat (first|refine nx ?_|(refine z3 fun K hK=>?_;simp only [go_sem,hx,List.getElem?_map,Path.row];apply hK;clear hK K))
    refine z6 rfl (fun hd=>?_) (fun hd=>?_)
    ·repeat (first|refine nx ?_|(refine z3 fun K hK=>?_;simp only [go_sem];apply hK;clear hK K))
     have ha:=z139 (q:=fun x:Path=>decide ((x.opens.length:Int) > 20)) hx hd
     simp only [go_sem,farM,hc,ha]
    ·repeat (first|refine nx ?_|(refine z3 fun K hK=>?_;simp only [go_sem,hw];apply hK;clear hK K))
     refine⟨rfl,i + 1,?_,⟨hlt,z99 hx hall hd⟩,by omega⟩
     refine weA ?_ ?_ <;> simp
   ·have he:i=n.paths.length:=by (have:¬ i<n.paths.length:=by simpa using hb);omega
    subst he
    rw [List.take_length] at hall
    have hf:farM n=(!badNet n && (decide (n.places > 5) || decide ((n.paths.length:Int) > 8))):=by unfold farM;rw [hc,hall];rfl
    rw [hf]
    by_cases hbad:badNet n=true
    ·repeat (first|refine nx ?_|(refine z3 fun K hK=>?_;simp only [go_sem,checkF,hbad];(repeat (first|(refine⟨_,.lent (hf:=h27) (hd:=rfl) (hr:=rfl),?_⟩;simp only [go_sem,checkF,hbad])|(refine⟨_,.given (hf:=h27) (hd:=rfl) (ha:=rfl),?_⟩;simp only [go_sem,checkF,hbad])));apply hK;clear hK K))
     try simp only [go_sem,hbad]
    ·by_cases hp:n.places > 5
     ·repeat (first|refine nx ?_|(refine z3 fun K hK=>?_;simp only [go_sem,checkF,hbad,hp];(repeat (first|(refine⟨_,.lent (hf:=h27) (hd:=rfl) (hr:=rfl),?_⟩;simp only [go_sem,checkF,hbad,hp])|(refine⟨_,.given (hf:=h27) (hd:=rfl) (ha:=rfl),?_⟩;simp only [go_sem,checkF,hbad,hp])));apply hK;clear hK K))
      simp only [go_sem,hbad,hp]
     ·repeat (first|refine nx ?_|(refine z3 fun K hK=>?_;simp only [go_sem,checkF,hbad,hp];(repeat (first|(refine⟨_,.lent (hf:=h27) (hd:=rfl) (hr:=rfl),?_⟩;simp only [go_sem,checkF,hbad,hp])|(refine⟨_,.given (hf:=h27) (hd:=rfl) (ha:=rfl),?_⟩;simp only [go_sem,checkF,hbad,hp])));apply hK;clear hK K))
      simp only [go_sem,hbad,hp]
end Go.Ab
namespace Go.Ab
open Go.RowKit Go.Proofs
set_option maxHeartbeats 8000000
set_option maxRecDepth 20000
attribute [local irreducible] WalkL Walk
def badMiss (n:Net) (x:Missed):Bool:=!withinB x.place 0 (n.places - 1) || (!withinB x.start 0 x.now || (decide (x.now > 2880) || !withinB x.rest 0 600))
theorem z484 (n:Net) (x:Missed):badMiss n x=badHunt n x:=by
 rw [Bool.eq_iff_iff]
 simp only [badMiss,badHunt,withinB,Bool.or_eq_true,Bool.not_eq_true',Bool.and_eq_false_iff,decide_eq_false_iff_not,decide_eq_true_eq]
 omega
theorem z1337 (n:Net) (x:Missed) (hs:n.Small) (hl:x.clues.length<2 ^ 30):Fn Tryd.prog 41 [.agg n.cells,.agg x.row] (.i (openX n x)):=by
 have h14:=z1358 n x.party hs
 rw [Party.cells] at h14
 refine z11 76 Tryd.call41 Tryd.func41 rfl (by decide) fun J=>?_
 simp only [go_sem,St.start,Tryd.ntmps41,Tryd.results41,Net.cells,Missed.row]
 by_cases hok:checkPartyF n x.party=0
 ·have hnb:¬ badNet n=true:=by
   intro hb
   rw [checkPartyF,if_pos hb] at hok
   simp at hok
  have hpl:=z116 hnb
  have h7:=z1289 n x.place (by omega)
  rw [hok] at h14
  repeat (first|refine nx ?_|(refine z3 fun K hK=>?_;simp only [go_sem];(repeat (first|(refine⟨_,.lent (hf:=h14) (hd:=rfl) (hr:=rfl),?_⟩;simp only [go_sem])|(refine⟨_,.given (hf:=h14) (hd:=rfl) (ha:=rfl),?_⟩;simp only [go_sem])));apply hK;clear hK K))
  refine z5 rfl ?_
  repeat (first|refine nx ?_|(refine z3 fun K hK=>?_;simp only [go_sem];apply hK;clear hK K))
  refine z18 [(37,.d (.bool (badMiss n x)))] [] ?_ ?_
  ·refine z3 fun K hK=>?_
   simp only [go_sem]
   refine⟨_,.lent (hf:=h7) (hd:=rfl) (hr:=rfl),?_⟩
   simp only [go_sem]
   by_cases ho0:(!withinB x.place 0 (n.places - 1))=true
   ·simp only [go_sem,ho0]
    apply hK
    clear hK K
    refine z7 ?_
    refine z4 ?_
    refine⟨rfl,?_⟩
    rw [show (badMiss n x)=(true) from by simp [badMiss,ho0]]
    simp only [go_sem]
    refine weA ?_ ?_ <;> simp
   ·simp only [go_sem,ho0]
    refine⟨_,.lent (hf:=z1276 x.start 0 x.now) (hd:=rfl) (hr:=rfl),?_⟩
    simp only [go_sem,ho0]
    by_cases ho1:(!withinB x.start 0 x.now)=true
    ·simp only [go_sem,ho0,ho1]
     apply hK
     clear hK K
     refine z7 ?_
     refine z4 ?_
     refine⟨rfl,?_⟩
     rw [show (badMiss n x)=(true) from by simp [badMiss,ho0,ho1]]
     simp only [go_sem]
     refine weA ?_ ?_ <;> simp
    ·simp only [go_sem,ho0,ho1]
     by_cases ho2:(decide (x.now > 2880))=true
     ·simp only [go_sem,ho0,ho1,ho2]
      apply hK
      clear hK K
      refine z7 ?_
      refine z4 ?_
      refine⟨rfl,?_⟩
      rw [show (badMiss n x)=(true) from by simp [badMiss,ho0,ho1,ho2]]
      simp only [go_sem]
      refine weA ?_ ?_ <;> simp
     ·simp only [go_sem,ho0,ho1,ho2]
      refine⟨_,.lent (hf:=z1276 x.rest 0 600) (hd:=rfl) (hr:=rfl),?_⟩
      simp only [go_sem,ho0,ho1,ho2]
      apply hK
      clear hK K
      refine z7 ?_
      refine z4 ?_
      refine⟨rfl,?_⟩
      rw [show (badMiss n x)=(!withinB x.rest 0 600) from by simp [badMiss,ho0,ho1,ho2]]
      simp only [go_sem]
      refine weA ?_ ?_ <;> simp
  simp only [go_sem]
  by_cases hb:badMiss n x=true
  ·have e:openX n x=80:=by simp [openX,hok,← z484,hb]
   rw [e]
   refine z6 (b:=true) (by rw [← hb];rfl) (fun _=>?_) (fun hc=>by cases hc)
   repeat (first|refine nx ?_|(refine z3 fun K hK=>?_;simp only [go_sem];apply hK;clear hK K))
   simp only [go_sem]
  ·have hb:badMiss n x=false:=by simpa using hb
   have e:openX n x=if decide ((x.clues.length:Int) > 12) || x.clues.any (wrongC n x) then 81 else 0:=by simp [openX,hok,← z484,hb]
   refine z6 (b:=false) (by rw [← hb];rfl) (fun hc=>by cases hc) (fun _=>?_)
   repeat (first|refine nx ?_|(refine z3 fun K hK=>?_;simp only [go_sem];apply hK;clear hK K))
   refine z6 rfl (fun hc=>?_) (fun hc=>?_)
   ·repeat (first|refine nx ?_|(refine z3 fun K hK=>?_;simp only [go_sem];apply hK;clear hK K))
    rw [e,hc]
    simp only [go_sem,Bool.true_or,if_true]
   ·rw [hc,Bool.false_or] at e
    repeat (first|refine nx ?_|(refine z3 fun K hK=>?_;simp only [go_sem];apply hK;clear hK K))
    refine z13 (fun (i:Nat)=>[(6,.d (.i i))]) (fun _=>[]) (fun i=>i≤x.clues.length∧(x.clues.take i).any (wrongC n x)=false) (fun i=>x.clues.length - i) 0 ?_ ⟨Nat.zero_le _,rfl⟩ ?_
    ·simp only [go_sem]
     refine weA ?_ ?_ <;> simp
    ·intro i ⟨hi,hall⟩
     simp only [go_sem]
     repeat (first|refine nx ?_|(refine z3 fun K hK=>?_;simp only [go_sem];apply hK;clear hK K))
     refine z6 rfl (fun hb2=>?_) (fun hb2=>?_)
     ·have hlt:i<x.clues.length:=by simpa using hb2
      have hw:IntKind.i64.wrap ((i:Int) + 1)=((i + 1:Nat):Int):=by rw [z10 (by omega)];simp
      obtain⟨c,hcl⟩:∃ c,x.clues[i]?=some c:=⟨_,List.getElem?_eq_getElem hlt⟩
      have n1:¬ n.places<0:=by omega
      have hu:IntKind.u64.wrap n.places=n.places:=by
       have:n.places=1∨n.places=2∨n.places=3∨n.places=4∨n.places=5∨n.places=6∨n.places=7∨n.places=8∨n.places=9∨n.places=10∨n.places=11∨n.places=12:=by omega
       rcases this with h | h | h | h | h | h | h | h | h | h | h | h <;> rw [h] <;> rfl
      have e1:fullS n=IntKind.i64.wrap (bShl .i64 1 n.places - 1):=rfl
      have hgc:(x.clues.map Clue.row)[i]?=some c.row:=by rw [List.getElem?_map,hcl];rfl
      rw [Clue.row] at hgc
      repeat (first|refine nx ?_|(refine z3 fun K hK=>?_;simp only [go_sem];apply hK;clear hK K))
      refine z18 [(75,.d (.bool (wrongC n x c)))] [] ?_ ?_
      ·refine z8 (by kernel_rfl) (by kernel_rfl) fun K hK=>?_
       simp only [go_sem,n1,hgc,hu,← e1]
       refine⟨_,.fn (hf:=z1276 c.minute x.start x.now) (hd:=rfl) (hr:=.inl rfl),?_⟩
       simp only [go_sem,n1,hgc,hu,← e1]
       by_cases ho0:(!withinB c.minute x.start x.now)=true
       ·simp only [go_sem,n1,hgc,hu,← e1,ho0]
        refine⟨by kernel_rfl,hK _ ?_⟩
        clear hK K
        refine z7 ?_
        refine z4 ?_
        refine⟨rfl,?_⟩
        rw [show (wrongC n x c)=(true) from by simp [wrongC,ho0]]
        simp only [go_sem]
        refine weA ?_ ?_ <;> simp
       ·simp only [go_sem,n1,hgc,hu,← e1,ho0]
        refine⟨_,.fn (hf:=z1276 c.places 1 (fullS n)) (hd:=rfl) (hr:=.inl rfl),?_⟩
        simp only [go_sem,n1,hgc,hu,← e1,ho0]
        refine⟨by kernel_rfl,hK _ ?_⟩
        clear hK K
        refine z7 ?_
        refine z4 ?_
        refine⟨rfl,?_⟩
        rw [show (wrongC n x c)=(!withinB c.places 1 (fullS n)) from by simp [wrongC,ho0]]
        simp only [go_sem]
        refine weA ?_ ?_ <;> simp
      simp only [go_sem]
      by_cases hd:wrongC n x c=true
      ·refine z6 (b:=true) (by rw [← hd];rfl) (fun _=>?_) (fun hc=>by cases hc)
       have ha:=z139 (q:=wrongC n x) hcl hd
       repeat (first|refine nx ?_|(refine z3 fun K hK=>?_;simp only [go_sem];apply hK;clear hK K))
       rw [e,ha]
       simp only [go_sem,if_true]
      ·have hd:wrongC n x c=false:=by simpa using hd
       refine z6 (b:=false) (by rw [← hd];rfl) (fun hc=>by cases hc) (fun _=>?_)
       repeat (first|refine nx ?_|(refine z3 fun K hK=>?_;simp only [go_sem,hw];apply hK;clear hK K))
       refine⟨rfl,i + 1,?_,⟨hlt,z99 hcl hall hd⟩,by omega⟩
       refine weA ?_ ?_ <;> simp
     ·have he:i=x.clues.length:=by (have:¬ i<x.clues.length:=by simpa using hb2);omega
      subst he
      rw [List.take_length] at hall
      repeat (first|refine nx ?_|(refine z3 fun K hK=>?_;simp only [go_sem];apply hK;clear hK K))
      rw [e,hall]
      simp only [go_sem,Bool.false_eq_true,if_false]
 ·have hne2:(checkPartyF n x.party != 0)=true:=by simpa using hok
  have e:openX n x=checkPartyF n x.party:=by simp [openX,hok]
  rw [e]
  repeat (first|refine nx ?_|(refine z3 fun K hK=>?_;simp only [go_sem,hne2];(repeat (first|(refine⟨_,.lent (hf:=h14) (hd:=rfl) (hr:=rfl),?_⟩;simp only [go_sem,hne2])|(refine⟨_,.given (hf:=h14) (hd:=rfl) (ha:=rfl),?_⟩;simp only [go_sem,hne2])));apply hK;clear hK K))
  refine z9 rfl ?_
  repeat (first|refine nx ?_|(refine z3 fun K hK=>?_;simp only [go_sem];apply hK;clear hK K))
  simp only [go_sem]
end Go.Ab
namespace Go.Ab
open Go.RowKit Go.Proofs
set_option maxHeartbeats 8000000
set_option maxRecDepth 20000
attribute [local irreducible] WalkL Walk
def farX (n:Net) (x:Missed):Bool:=farM n || (decide ((x.clues.length:Int) > 30) || (openX n x == 0 && (decide (wr (x.now - x.start) > 60) || (decide (x.rest > 10) || decide ((x.clues.length:Int) > 6)))))
theorem z1355 (n:Net) (x:Missed) (hs:n.Small) (hl:x.clues.length<2 ^ 30):Fn Tryd.prog 40 [.agg n.cells,.agg x.row] (.bool (farX n x)):=by
 have h19:=z1359 n hs
 have h6:=z1337 n x hs hl
 obtain⟨e,he⟩:∃ e,e=openX n x:=⟨_,rfl⟩
 rw [farX,← he]
 rw [← he] at h6
 rw [Net.cells] at h19 h6
 rw [Missed.row] at h6
 refine z11 36 Tryd.call40 Tryd.func40 rfl (by decide) fun J=>?_
 simp only [go_sem,St.start,Tryd.ntmps40,Tryd.results40,Net.cells,Missed.row]
 cases hf:farM n
 ·rw [hf] at h19
  by_cases h30:decide ((x.clues.length:Int) > 30)=true
  ·repeat (first|refine nx ?_|(refine z3 fun K hK=>?_;simp only [go_sem,h30];(repeat (first|(refine⟨_,.lent (hf:=h19) (hd:=rfl) (hr:=rfl),?_⟩;simp only [go_sem,h30])|(refine⟨_,.given (hf:=h19) (hd:=rfl) (ha:=rfl),?_⟩;simp only [go_sem,h30])));apply hK;clear hK K))
   refine z9 rfl ?_
   repeat (first|refine nx ?_|(refine z3 fun K hK=>?_;simp only [go_sem];apply hK;clear hK K))
   simp only [go_sem,h30,Bool.false_or,Bool.true_or]
  ·have h30:decide ((x.clues.length:Int) > 30)=false:=by simpa using h30
   repeat (first|refine nx ?_|(refine z3 fun K hK=>?_;simp only [go_sem,h30];(repeat (first|(refine⟨_,.lent (hf:=h19) (hd:=rfl) (hr:=rfl),?_⟩;simp only [go_sem,h30])|(refine⟨_,.given (hf:=h19) (hd:=rfl) (ha:=rfl),?_⟩;simp only [go_sem,h30])));apply hK;clear hK K))
   refine z5 rfl ?_
   rw [h30,Bool.false_or,Bool.false_or]
   by_cases h0:(e == 0)=true
   ·have hw:IntKind.i64.wrap (x.now - x.start)=wr (x.now - x.start):=rfl
    cases h1:decide (wr (x.now - x.start) > 60) <;> cases h2:decide (x.rest > 10) <;>
    ·repeat (first|refine nx ?_|(refine z3 fun K hK=>?_;simp only [go_sem,hw,h0,h1,h2];(repeat (first|(refine⟨_,.lent (hf:=h6) (hd:=rfl) (hr:=rfl),?_⟩;simp only [go_sem,hw,h0,h1,h2])|(refine⟨_,.given (hf:=h6) (hd:=rfl) (ha:=rfl),?_⟩;simp only [go_sem,hw,h0,h1,h2])));apply hK;clear hK K))
     simp only [go_sem,h0,h1,h2,Bool.true_and,Bool.false_or,Bool.true_or]
   ·have h0:(e == 0)=false:=by simpa using h0
    repeat (first|refine nx ?_|(refine z3 fun K hK=>?_;simp only [go_sem,h0];(repeat (first|(refine⟨_,.lent (hf:=h6) (hd:=rfl) (hr:=rfl),?_⟩;simp only [go_sem,h0])|(refine⟨_,.given (hf:=h6) (hd:=rfl) (ha:=rfl),?_⟩;simp only [go_sem,h0])));apply hK;clear hK K))
    simp only [go_sem,h0,Bool.false_and]
 ·rw [hf] at h19
  repeat (first|refine nx ?_|(refine z3 fun K hK=>?_;simp only [go_sem];(repeat (first|(refine⟨_,.lent (hf:=h19) (hd:=rfl) (hr:=rfl),?_⟩;simp only [go_sem])|(refine⟨_,.given (hf:=h19) (hd:=rfl) (ha:=rfl),?_⟩;simp only [go_sem])));apply hK;clear hK K))
  refine z9 rfl ?_
  repeat (first|refine nx ?_|(refine z3 fun K hK=>?_;simp only [go_sem];apply hK;clear hK K))
  simp only [go_sem,Bool.true_or]
structure Hike where
 m:Missed
 to:Int
 times:List Int
def Hike.row (x:Hike):List DV:=x.m.row++[.i x.to,.sl (intRows x.times)]
def inH (x:Hike) (i:Nat) (s:Span):Bool:=match x.times[i]? with
 | some v=>decide (v ≥ s.lo) && decide (v≤s.hi)
 | none=>false
def timeH (x:Hike) (i:Nat) (s:Span):Int:=if inH x i s then getI x.times i else s.hi
def hikeR (n:Net) (x:Hike):Nat→List Int→Int→Int→Int × Int × Bool
 | _,[],a,_=>(a,-1,true)
 | i,r::rs,a,t=>match n.paths[r.toNat]? with
  | none=>(0,0,false)
  | some y =>
   if enterF y.opens t ≥ x.m.now then (a,-1,true)
   else if enterF y.opens t > wr (t + x.m.rest) then (0,0,false)
   else if wr (enterF y.opens t + timeH x i (spanW y x.m.party)) > x.m.now then (-1,r,true)
   else hikeR n x (i + 1) rs y.to (wr (enterF y.opens t + timeH x i (spanW y x.m.party)))
def hikedF (n:Net) (x:Hike) (route:List Int):Int × Int × Bool:=hikeR n x 0 route x.m.place x.m.start
end Go.Ab
namespace Go.Ab
open Go.RowKit Go.Proofs
set_option maxHeartbeats 2000000
theorem z1100 {n:Net} {x:Missed} {A:List Arv} {s:Arv} (hs:s ∈ A) (h:x.now ∈ staysL x s.pl s.mi x.now):⟨s.pl,s.mi,-1,x.now⟩ ∈ endsL n x A:=by
 refine List.mem_flatMap.2 ⟨s,hs,?_⟩
 rw [endOf8]
 exact List.mem_append.2 (.inl (List.mem_filterMap.2 ⟨x.now,h,by rw [endIn,if_pos rfl]⟩))
theorem z1099 {n:Net} {x:Missed} {A:List Arv} {s:Arv} (hs:s ∈ A) {lv:Int} {k:Nat} {y:Path} (h:lv ∈ staysL x s.pl s.mi (wr (s.mi + x.rest))) (h1:lv≠x.now) (h2:seenF x.clues≤lv)
  (hy:n.paths[k]?=some y) (hg:y.grade≤x.party.grade) (hf:y.frm=s.pl):⟨s.pl,s.mi,k,lv⟩ ∈ endsL n x A:=by
 refine List.mem_flatMap.2 ⟨s,hs,?_⟩
 rw [endOf8]
 refine List.mem_append.2 (.inr (List.mem_flatMap.2 ⟨lv,h,?_⟩))
 rw [endLv,if_neg (by omega)]
 refine List.mem_filterMap.2 ⟨k,List.mem_range.2 (List.getElem?_eq_some_iff.1 hy).1,?_⟩
 rw [endOn,hy]
 dsimp only
 rw [if_pos ⟨hg,hf⟩]
end Go.Ab
namespace Go.Ab
open Go.RowKit Go.Proofs
set_option maxHeartbeats 2000000
theorem z743 {l:List Int} {i K:Int} (h:∀ j:Nat,0≤l.getD j 0∧l.getD j 0≤K) (hK:K<2 ^ 62) :
  (∀ j:Nat,0≤(bump1 l i).getD j 0∧(bump1 l i).getD j 0≤K + 1)∧(∀ j:Nat,l.getD j 0≤(bump1 l i).getD j 0)∧(i.toNat<l.length→0<(bump1 l i).getD i.toNat 0):=by
 have hi:=h i.toNat
 have hw:wr (getI l i + 1)=l.getD i.toNat 0 + 1:=by rw [getI];exact z10 (by omega)
 have e:∀ j:Nat,(bump1 l i).getD j 0=if j=i.toNat∧j<l.length then l.getD i.toNat 0 + 1 else l.getD j 0:=fun j=>by
  rw [bump1,hw,List.getD_eq_getElem?_getD,List.getElem?_set]
  by_cases hj:i.toNat=j
  ·subst hj
   by_cases hl:i.toNat<l.length
   ·simp [hl]
   ·simp [hl]
  ·rw [if_neg hj,if_neg (fun hc=>hj hc.1.symm),List.getD_eq_getElem?_getD]
 refine⟨fun j=>?_,fun j=>?_,fun hl=>?_⟩
 ·rw [e];split
  ·omega
  ·have:=h j;omega
 ·rw [e];split
  ·rename_i hc;rw [hc.1];omega
  ·exact Int.le_refl _
 ·rw [e,if_pos ⟨rfl,hl⟩];omega
def Small01 (K:Int) (a:List Int × List Int):Prop:=(∀ j:Nat,0≤a.1.getD j 0∧a.1.getD j 0≤K)∧∀ j:Nat,0≤a.2.getD j 0∧a.2.getD j 0≤K
theorem z933 {a:List Int × List Int} {K:Int} (e:EndT) (h:Small01 K a) (hK:K<2 ^ 62):Small01 (K + 1) (tally a e)∧(∀ j:Nat,a.1.getD j 0≤(tally a e).1.getD j 0∧a.2.getD j 0≤(tally a e).2.getD j 0) ∧
  (e.pa<0→e.pl.toNat<a.1.length→0<(tally a e).1.getD e.pl.toNat 0)∧(¬ e.pa<0→e.pa.toNat<a.2.length→0<(tally a e).2.getD e.pa.toNat 0):=by
 rw [tally]
 split
 ·rename_i hp
  obtain⟨h1,h2,h3⟩:=z743 (i:=e.pl) h.1 hK
  exact⟨⟨h1,fun j=>by have:=h.2 j;dsimp only;omega⟩,fun j=>⟨h2 j,Int.le_refl _⟩,fun _=>h3,fun hn=>absurd hp hn⟩
 ·rename_i hp
  obtain⟨h1,h2,h3⟩:=z743 (i:=e.pa) h.2 hK
  exact⟨⟨fun j=>by have:=h.1 j;dsimp only;omega,h1⟩,fun j=>⟨Int.le_refl _,h2 j⟩,fun hn=>absurd hn hp,fun _=>h3⟩
theorem z441:∀ (E:List EndT) (a:List Int × List Int) (K:Int),Small01 K a→K + E.length<2 ^ 62 →
  (∀ j:Nat,a.1.getD j 0≤(E.foldl tally a).1.getD j 0∧a.2.getD j 0≤(E.foldl tally a).2.getD j 0) ∧
  ∀ e ∈ E,(e.pa<0→e.pl.toNat<a.1.length→0<(E.foldl tally a).1.getD e.pl.toNat 0)∧(¬ e.pa<0→e.pa.toNat<a.2.length→0<(E.foldl tally a).2.getD e.pa.toNat 0)
 | [],a,K,h,hK=>⟨fun j=>⟨Int.le_refl _,Int.le_refl _⟩,fun e he=>by simp at he⟩
 | d::E,a,K,h,hK=>by
  rw [List.length_cons] at hK
  obtain⟨s1,s2,s3,s4⟩:=z933 d h (by omega)
  obtain⟨t1,t2⟩:=z441 E (tally a d) (K + 1) s1 (by omega)
  have hl:=z309 a d
  refine⟨fun j=>⟨Int.le_trans (s2 j).1 (t1 j).1,Int.le_trans (s2 j).2 (t1 j).2⟩,fun e he=>?_⟩
  rcases List.mem_cons.1 he with rfl | he
  ·exact⟨fun g1 g2=>Int.lt_of_lt_of_le (s3 g1 g2) (t1 _).1,fun g1 g2=>Int.lt_of_lt_of_le (s4 g1 g2) (t1 _).2⟩
  ·obtain⟨u1,u2⟩:=t2 e he
   exact⟨fun g1 g2=>u1 g1 (by omega),fun g1 g2=>u2 g1 (by omega)⟩
theorem z206 {α β:Type} {f:α→List β} {K:Nat}:∀ (l:List α),(∀ a ∈ l,(f a).length≤K)→(l.flatMap f).length≤l.length * K
 | [],_=>by simp
 | a::l,h=>by
  have h1:=h a (by simp)
  have h2:=z206 l fun b hb=>h b (by simp [hb])
  rw [List.flatMap_cons,List.length_append,List.length_cons,Nat.succ_mul]
  omega
theorem z322 (cl:List Clue) (p top:Int):∀ (f:Nat) (m:Int),(staysF cl p top f m).length≤f
 | 0,_=>Nat.le_refl _
 | f + 1,m=>by
  rw [staysF];split
  ·have:=z322 cl p top f (m + 1)
   simp only [List.length_cons];omega
  ·simp
theorem z1188 {n:Net} {x:Missed} (hx:Hunted n x):(endsL n x (huntedA n x)).length<2 ^ 40:=by
 have hg:=z118 hx
 have hl:=z179 hg
 have hN:=z358 hx
 have hst:=hx.start
 have hno:=hx.now
 have hp:=hx.net.paths
 have h1:∀ s ∈ huntedA n x,(endOf8 n x s).length≤100000:=fun s hs=>by
  have hs0:=(hg.1 s hs).2.1
  have hsl:∀ most,(staysL x s.pl s.mi most).length≤2881:=fun most=>by
   have:=z322 x.clues s.pl (min most x.now) (min most x.now - s.mi + 1).toNat s.mi
   rw [staysL];omega
  have a1:((staysL x s.pl s.mi x.now).filterMap (endIn x s)).length≤2881:=Nat.le_trans (List.length_filterMap_le _ _) (hsl _)
  have a2:((staysL x s.pl s.mi (wr (s.mi + x.rest))).flatMap (endLv n x s)).length≤(staysL x s.pl s.mi (wr (s.mi + x.rest))).length * 24:=z206 _ fun lv _=>by
   rw [endLv];split
   ·simp
   ·refine Nat.le_trans (List.length_filterMap_le _ _) ?_
    rw [List.length_range];exact hp
  have a3:=hsl (wr (s.mi + x.rest))
  rw [endOf8,List.length_append]
  have:=Nat.mul_le_mul_right 24 a3
  omega
 have h2:=z206 (huntedA n x) h1
 have h3:=Nat.mul_le_mul_right 100000 (Nat.le_trans hl hN)
 rw [endsL]
 omega
theorem z296 (m j:Nat):(List.replicate m (0:Int)).getD j 0=0:=by
 rw [List.getD_eq_getElem?_getD,List.getElem?_replicate];split <;> rfl
theorem z479 {n:Net} {x:Missed} (hx:Hunted n x) {e:EndT} (he:e ∈ endsL n x (huntedA n x)) :
  (e.pa<0→(whereP n x).any (fun y=>y == e.pl)=true)∧(¬ e.pa<0→(whereW n x).any (fun y=>y == e.pa)=true):=by
 obtain⟨⟨r1,r2⟩,r3⟩:=z264 (z118 hx) he
 have hl:=z1188 hx
 obtain⟨_,h⟩:=z441 (endsL n x (huntedA n x)) (List.replicate n.places.toNat 0,List.replicate n.paths.length 0) 0 ⟨fun j=>by simp only [z296];omega,fun j=>by simp only [z296];omega⟩ (by omega)
 obtain⟨h1,h2⟩:=h e he
 simp only [List.length_replicate] at h1 h2
 have ht:=z182 (endsL n x (huntedA n x)) (List.replicate n.places.toNat 0,List.replicate n.paths.length 0)
 simp only [List.length_replicate] at ht
 rw [← tallyE] at ht h1 h2
 have key:∀ (l:List Int) (i:Int),0≤i→i.toNat<l.length→0<l.getD i.toNat 0→(posL l).any (fun y=>y == i)=true:=fun l i g1 g2 g3=>by
  have:=z1133 (fun j=>decide (getI l j > 0)) l.length i.toNat g2
  rw [Int.toNat_of_nonneg g1] at this
  rw [posL,this]
  refine decide_eq_true ?_
  rw [getI]
  exact g3
 refine⟨fun hp=>key _ _ r1 (by omega) (h1 hp (by omega)),fun hp=>?_⟩
 rcases r3 with r3 | ⟨r3,r4⟩
 ·exact absurd r3 hp
 ·exact key _ _ r3 (by omega) (h2 hp r4)
end Go.Ab
namespace Go.Ab
open Go.RowKit Go.Proofs
set_option maxHeartbeats 2000000
def LegOk (n:Net) (x:Missed) (A:List Arv) (a:Arv):Prop :=
 (a.pa=-1∧a.pl=x.place∧a.mi=x.start∧atB x.clues x.place x.start=true) ∨
 ∃ (k:Nat) (y:Path) (b:Bool),a.pa=k∧n.paths[k]?=some y∧y.frm=a.fp∧y.grade≤x.party.grade∧y.to=a.pl∧memA A a.fp a.fm∧a.lv ∈ staysL x a.fp a.fm (wr (a.fm + x.rest)) ∧
  wr (a.lv + (spanW y x.party).lo)≤a.mi∧a.mi≤wr (a.lv + (spanW y x.party).hi)∧(a.mi,b) ∈ walksL x a.lv∧atB x.clues a.pl a.mi=true
def LegsOk (n:Net) (x:Missed) (A:List Arv):Prop:=∀ (j:Nat) a,A[j]?=some a→LegOk n x (A.take j) a
theorem LegOk.mono {n:Net} {x:Missed} {A B:List Arv} {a:Arv} (hs:∀ p m,memA A p m→memA B p m) (h:LegOk n x A a):LegOk n x B a:=by
 rcases h with h | ⟨k,y,b,h1,h2,h3,h4,h5,h6,h7⟩
 ·exact .inl h
 ·exact .inr ⟨k,y,b,h1,h2,h3,h4,h5,hs _ _ h6,h7⟩
theorem z1080 {n:Net} {x:Missed} {A:List Arv} {a:Arv} (hA:LegsOk n x A) (ha:LegOk n x A a):LegsOk n x (A++[a]):=by
 intro j b hb
 by_cases hj:j<A.length
 ·rw [List.getElem?_append_left hj] at hb
  rw [List.take_append_of_le_length (by omega)]
  exact hA j b hb
 ·have hl:=(List.getElem?_eq_some_iff.1 hb).1
  rw [List.length_append,List.length_singleton] at hl
  obtain rfl:j=A.length:=by omega
  rw [List.getElem?_append_right (Nat.le_refl _),Nat.sub_self] at hb
  simp at hb
  subst hb
  rw [List.take_append_of_le_length (Nat.le_refl _),List.take_length]
  exact ha
theorem z338 {n:Net} {x:Missed} {A:List Arv} {a:Arv} (hA:LegsOk n x A) (ha:atB x.clues a.pl a.mi=true→LegOk n x A a):LegsOk n x (arriveA x.clues A a):=by
 rw [arriveA]
 split
 ·exact hA
 ·rename_i hc
  refine z1080 hA (ha ?_)
  cases h:atB x.clues a.pl a.mi
  ·rw [h] at hc;simp at hc
  ·rfl
theorem z335 {n:Net} {x:Missed} {p m lv:Int} {k:Nat} {y:Path} (hy:n.paths[k]?=some y) (hf:y.frm=p) (hg:y.grade≤x.party.grade) (hlv:lv ∈ staysL x p m (wr (m + x.rest))) :
  ∀ (ws:List (Int × Bool)) (A:List Arv),(∀ w ∈ ws,w ∈ walksL x lv)→memA A p m→LegsOk n x A →
   LegsOk n x (walkA x.clues (wr (lv + (spanW y x.party).lo)) (wr (lv + (spanW y x.party).hi)) (fun t=>⟨y.to,t,p,m,k,lv⟩) ws A)
 | [],A,_,_,hA=>hA
 | w::ws,A,hw,hm,hA=>by
  rw [walkA]
  split
  ·exact hA
  ·rename_i hhi
   split
   ·rename_i hlo
    refine z335 hy hf hg hlv ws _ (fun v hv=>hw v (by simp [hv])) (z114 (z362 _ _ _) hm) ?_
    refine z338 hA fun hat=>.inr ⟨k,y,w.2,rfl,hy,hf,hg,rfl,hm,hlv,hlo,(by show w.1≤wr (lv + (spanW y x.party).hi);omega),hw w (by simp),hat⟩
   ·exact z335 hy hf hg hlv ws _ (fun v hv=>hw v (by simp [hv])) hm hA
theorem z1081 {n:Net} {x:Missed} {p m lv:Int} {A:List Arv} {k:Nat} (hlv:lv ∈ staysL x p m (wr (m + x.rest))) (hm:memA A p m) (hA:LegsOk n x A):LegsOk n x (pathA n x p m lv A k):=by
 rw [pathA]
 split
 ·rename_i y hy
  split
  ·rename_i hc
   exact z335 hy hc.1 hc.2 hlv _ _ (fun _ h=>h) hm hA
  ·exact hA
 ·exact hA
theorem z457 {n:Net} {x:Missed} {p m lv:Int} (hlv:lv ∈ staysL x p m (wr (m + x.rest))):∀ (l:List Nat) (A:List Arv),memA A p m→LegsOk n x A→LegsOk n x (l.foldl (pathA n x p m lv) A)
 | [],_,_,hA=>hA
 | k::l,A,hm,hA=>z457 hlv l _ (z114 (z327 _ _ _ _ _ _ _) hm) (z1081 hlv hm hA)
theorem z998 {n:Net} {x:Missed} {p m lv:Int} {a:List Arv × List Cnt} (hlv:lv ∈ staysL x p m (wr (m + x.rest))) (hm:memA a.1 p m) (hA:LegsOk n x a.1):LegsOk n x (leaveA n x p m a lv).1:=by
 rw [leaveA]
 split
 ·exact hA
 ·exact z457 hlv _ _ hm hA
theorem z336 {n:Net} {x:Missed} {p m:Int}:∀ (l:List Int) (a:List Arv × List Cnt),(∀ v ∈ l,v ∈ staysL x p m (wr (m + x.rest)))→memA a.1 p m→LegsOk n x a.1→LegsOk n x (l.foldl (leaveA n x p m) a).1
 | [],_,_,_,hA=>hA
 | v::l,a,hl,hm,hA=>z336 l _ (fun u hu=>hl u (by simp [hu])) (z114 (z250 _ _ _ _ _ _) hm) (z998 (hl v (by simp)) hm hA)
theorem z337 {n:Net} {x:Missed}:∀ (f i:Nat) (a:List Arv × List Cnt),LegsOk n x a.1→LegsOk n x (followF n x f i a).1
 | 0,_,_,hA=>hA
 | f + 1,i,a,hA=>by
  rw [followF]
  split
  ·rename_i s hs
   exact z337 f (i + 1) _ (z336 _ _ (fun _ h=>h) ⟨s,List.mem_of_getElem? hs,rfl,rfl⟩ hA)
  ·exact hA
theorem z875 (n:Net) (x:Missed):LegsOk n x (huntedA n x):=by
 refine z337 _ _ _ ?_
 rw [startA]
 refine z338 (fun j a h=>by simp at h) fun hat=>.inl ⟨rfl,rfl,rfl,hat⟩
inductive Reached (n:Net) (x:Missed):Int→Int→Prop where
 | start:atB x.clues x.place x.start=true→Reached n x x.place x.start
 | step {p m lv to t:Int}:Reached n x p m→lv ∈ staysL x p m (wr (m + x.rest))→arrFrom n x p lv to t→Reached n x to t
theorem z698 {n:Net} {x:Missed} {A:List Arv} (h:LegsOk n x A):∀ (j:Nat) (a:Arv),A[j]?=some a→Reached n x a.pl a.mi:=by
 intro j
 induction j using Nat.strongRecOn with
 | ind j ih =>
  intro a ha
  rcases h j a ha with ⟨_,h2,h3,h4⟩ | ⟨k,y,b,h1,h2,h3,h4,h5,⟨s,hs,e1,e2⟩,h7,h8,h9,h10,h11⟩
  ·rw [h2,h3];exact .start h4
  ·obtain⟨i,hi⟩:=List.getElem?_of_mem hs
   rw [List.getElem?_take] at hi
   split at hi
   ·rename_i hij
    have:=ih i hij s hi
    rw [e1,e2] at this
    exact .step this h7 ⟨k,y,b,h2,h3,h4,h5,h8,h9,h10,h11⟩
   ·cases hi
theorem z67 {n:Net} {x:Missed} (hx:Hunted n x) {p m:Int}:memA (huntedA n x) p m↔Reached n x p m:=by
 constructor
 ·rintro⟨s,hs,rfl,rfl⟩
  obtain⟨j,hj⟩:=List.getElem?_of_mem hs
  exact z698 (z875 n x) j s hj
 ·intro h
  induction h with
  | start h=>exact z705 hx h
  | step _ hlv harr ih =>
   obtain⟨s,hs,rfl,rfl⟩:=ih
   exact z548 hx hs hlv harr
def CanIn (n:Net) (x:Missed) (p:Int):Prop:=∃ m,Reached n x p m∧x.now ∈ staysL x p m x.now
def CanOn (n:Net) (x:Missed) (k:Int):Prop:=∃ (j:Nat) (y:Path) (m lv:Int),k=j∧n.paths[j]?=some y∧y.grade≤x.party.grade∧Reached n x y.frm m∧lv ∈ staysL x y.frm m (wr (m + x.rest))∧lv≠x.now∧seenF x.clues≤lv
theorem z265 {n:Net} {x:Missed} {A:List Arv} {e:EndT} (h:e ∈ endsL n x A):(e.pa<0∧memA A e.pl e.mi∧x.now ∈ staysL x e.pl e.mi x.now) ∨
  ∃ (k:Nat) (y:Path),e.pa=k∧n.paths[k]?=some y∧y.grade≤x.party.grade∧y.frm=e.pl∧memA A e.pl e.mi∧e.lv ∈ staysL x e.pl e.mi (wr (e.mi + x.rest))∧e.lv≠x.now∧seenF x.clues≤e.lv:=by
 obtain⟨s,hs,he⟩:=List.mem_flatMap.1 h
 rw [endOf8] at he
 rcases List.mem_append.1 he with he | he
 ·obtain⟨w,hw,he⟩:=List.mem_filterMap.1 he
  rw [endIn] at he
  split at he
  ·rename_i hn
   cases he
   subst hn
   exact .inl ⟨by show (-1:Int)<0;decide,⟨s,hs,rfl,rfl⟩,hw⟩
  ·cases he
 ·obtain⟨lv,hlv,he⟩:=List.mem_flatMap.1 he
  rw [endLv] at he
  split at he
  ·simp at he
  ·rename_i hc
   obtain⟨k,hk,he⟩:=List.mem_filterMap.1 he
   rw [endOn] at he
   split at he
   ·rename_i y hy
    split at he
    ·rename_i hg
     cases he
     exact .inr ⟨k,y,rfl,hy,hg.1,hg.2,⟨s,hs,rfl,rfl⟩,hlv,fun hh=>hc (.inl hh),by show seenF x.clues≤lv;omega⟩
    ·cases he
   ·cases he
theorem z1023 {n:Net} {x:Missed} (hx:Hunted n x) {p:Int} (h:CanIn n x p):(whereP n x).any (fun y=>y == p)=true:=by
 obtain⟨m,h1,h2⟩:=h
 obtain⟨s,hs,rfl,rfl⟩:=(z67 hx).2 h1
 exact (z479 hx (z1100 hs h2)).1 (by show (-1:Int)<0;decide)
theorem z1022 {n:Net} {x:Missed} (hx:Hunted n x) {k:Int} (h:CanOn n x k):(whereW n x).any (fun y=>y == k)=true:=by
 obtain⟨j,y,m,lv,rfl,h1,h2,h3,h4,h5,h6⟩:=h
 obtain⟨s,hs,e1,e2⟩:=(z67 hx).2 h3
 rw [← e1,← e2] at h4
 exact (z479 hx (z1099 hs h4 h5 h6 h1 h2 e1.symm)).2 (by show ¬ ((j:Int)<0);omega)
theorem z239:∀ (E:List EndT) (a:List Int × List Int),(∀ j:Nat,(E.foldl tally a).1.getD j 0≠a.1.getD j 0→∃ e ∈ E,e.pa<0∧e.pl.toNat=j)∧(∀ j:Nat,(E.foldl tally a).2.getD j 0≠a.2.getD j 0→∃ e ∈ E,¬ e.pa<0∧e.pa.toNat=j)
 | [],a=>⟨fun j h=>absurd rfl h,fun j h=>absurd rfl h⟩
 | e::E,a=>by
  obtain⟨h1,h2⟩:=z239 E (tally a e)
  have key:∀ (l:List Int) (i:Int) (j:Nat),i.toNat≠j→(bump1 l i).getD j 0=l.getD j 0:=fun l i j hij=>by
   rw [bump1,List.getD_eq_getElem?_getD,List.getElem?_set_ne hij,← List.getD_eq_getElem?_getD]
  refine⟨fun j hj=>?_,fun j hj=>?_⟩
  ·by_cases hc:((e::E).foldl tally a).1.getD j 0=(tally a e).1.getD j 0
   ·rw [List.foldl_cons] at hc hj
    rw [hc,tally] at hj
    split at hj
    ·rename_i hp
     by_cases hij:e.pl.toNat=j
     ·exact⟨e,by simp,hp,hij⟩
     ·exact absurd (key _ _ _ hij) hj
    ·exact absurd rfl hj
   ·obtain⟨e',he',h⟩:=h1 j hc
    exact⟨e',by simp [he'],h⟩
  ·by_cases hc:((e::E).foldl tally a).2.getD j 0=(tally a e).2.getD j 0
   ·rw [List.foldl_cons] at hc hj
    rw [hc,tally] at hj
    split at hj
    ·exact absurd rfl hj
    ·rename_i hp
     by_cases hij:e.pa.toNat=j
     ·exact⟨e,by simp,hp,hij⟩
     ·exact absurd (key _ _ _ hij) hj
   ·obtain⟨e',he',h⟩:=h2 j hc
    exact⟨e',by simp [he'],h⟩
theorem z906 {l:List Int} {p:Int} (h:(posL l).any (fun y=>y == p)=true):0≤p∧p.toNat<l.length∧0<l.getD p.toNat 0:=by
 obtain⟨q,hq,he⟩:=List.any_eq_true.1 h
 rw [beq_iff_eq] at he
 subst he
 rw [posL] at hq
 obtain⟨i,hi,rfl⟩:=List.mem_map.1 hq
 obtain⟨h2,h3⟩:=List.mem_filter.1 hi
 have h2:=List.mem_range.1 h2
 have h3:=of_decide_eq_true h3
 refine⟨by omega,by omega,?_⟩
 rwa [getI] at h3
theorem z436 {n:Net} {x:Missed} (hx:Hunted n x) {p:Int}:(whereP n x).any (fun y=>y == p)=true↔CanIn n x p:=by
 refine⟨fun h=>?_,z1023 hx⟩
 obtain⟨h1,h2,h3⟩:=z906 h
 rw [tallyE] at h3
 obtain⟨e,he,hp,hj⟩:=(z239 (endsL n x (huntedA n x)) (List.replicate n.places.toNat 0,List.replicate n.paths.length 0)).1 p.toNat (by simp only [z296];omega)
 have hr:=z264 (z118 hx) he
 have:e.pl=p:=by omega
 subst this
 rcases z265 he with ⟨_,a1,a2⟩ | ⟨k,_,a1,_⟩
 ·exact⟨e.mi,(z67 hx).1 a1,a2⟩
 ·omega
theorem z435 {n:Net} {x:Missed} (hx:Hunted n x) {k:Int}:(whereW n x).any (fun y=>y == k)=true↔CanOn n x k:=by
 refine⟨fun h=>?_,z1022 hx⟩
 obtain⟨h1,h2,h3⟩:=z906 h
 rw [tallyE] at h3
 obtain⟨e,he,hp,hj⟩:=(z239 (endsL n x (huntedA n x)) (List.replicate n.places.toNat 0,List.replicate n.paths.length 0)).2 k.toNat (by simp only [z296];omega)
 rcases z265 he with ⟨a1,_⟩ | ⟨j,y,a1,a2,a3,a4,a5,a6,a7,a8⟩
 ·exact absurd a1 hp
 ·have hk:k=(j:Int):=by omega
  rw [← a4] at a5 a6
  exact⟨j,y,e.mi,e.lv,hk,a2,a3,(z67 hx).1 a5,a6,a7,a8⟩
end Go.Ab
namespace Go.Ab
open Go.RowKit Go.Proofs
set_option maxHeartbeats 2000000
theorem z446 {cl:List Clue} {p top w:Int}:∀ (f:Nat) (m:Int),w ∈ staysF cl p top f m↔m≤w∧w≤top∧w<m + f∧∀ u,m≤u→u≤w→atB cl p u=true
 | 0,m=>by
  constructor
  ·intro h;simp [staysF] at h
  ·rintro⟨h1,_,h3,_⟩;omega
 | f + 1,m=>by
  rw [staysF]
  split
  ·rename_i hc
   rw [List.mem_cons,z446 f (m + 1)]
   constructor
   ·rintro (rfl | ⟨h1,h2,h3,h4⟩)
    ·refine⟨Int.le_refl _,hc.1,by omega,fun u h1 h2=>?_⟩
     obtain rfl:u=w:=by omega
     exact hc.2
    ·refine⟨by omega,h2,by omega,fun u g1 g2=>?_⟩
     by_cases hu:u=m
     ·rw [hu];exact hc.2
     ·exact h4 u (by omega) g2
   ·rintro⟨h1,h2,h3,h4⟩
    by_cases hw:w=m
    ·exact .inl hw
    ·exact .inr ⟨by omega,h2,by omega,fun u g1 g2=>h4 u (by omega) g2⟩
  ·rename_i hc
   constructor
   ·intro h;simp at h
   ·rintro⟨h1,h2,h3,h4⟩
    exact absurd ⟨by omega,h4 m (Int.le_refl _) h1⟩ hc
theorem z104 {x:Missed} {p m most w:Int}:w ∈ staysL x p m most↔m≤w∧w≤most∧w≤x.now∧∀ u,m≤u→u≤w→atB x.clues p u=true:=by
 rw [staysL,z446]
 constructor
 ·rintro⟨h1,h2,_,h4⟩;exact⟨h1,by omega,by omega,h4⟩
 ·rintro⟨h1,h2,h3,h4⟩;exact⟨h1,by omega,by omega,h4⟩
theorem z235 {cl:List Clue} {t:Int} {b:Bool}:∀ (f:Nat) (m:Int),(t,b) ∈ walksF cl f m↔m≤t∧t<m + f∧b=onB8 cl t∧∀ u,m≤u→u<t→onB8 cl u=true
 | 0,m=>by
  constructor
  ·intro h;simp [walksF] at h
  ·rintro⟨h1,h2,_⟩;omega
 | f + 1,m=>by
  rw [walksF,List.mem_cons]
  constructor
  ·rintro (h | h)
   ·cases h
    exact⟨Int.le_refl _,by omega,rfl,fun u h1 h2=>by omega⟩
   ·split at h
    ·rename_i hc
     obtain⟨h1,h2,h3,h4⟩:=(z235 f (m + 1)).1 h
     refine⟨by omega,by omega,h3,fun u g1 g2=>?_⟩
     by_cases hu:u=m
     ·rw [hu];exact hc
     ·exact h4 u (by omega) g2
    ·simp at h
  ·rintro⟨h1,h2,h3,h4⟩
   by_cases ht:t=m
   ·subst ht;rw [h3];exact .inl rfl
   ·refine .inr ?_
    rw [if_pos (h4 m (Int.le_refl _) (by omega))]
    exact (z235 f (m + 1)).2 ⟨by omega,by omega,h3,fun u g1 g2=>h4 u (by omega) g2⟩
theorem z234 {x:Missed} {lv t:Int} {b:Bool}:(t,b) ∈ walksL x lv↔lv + 1≤t∧t≤x.now∧b=onB8 x.clues t∧∀ u,lv + 1≤u→u<t→onB8 x.clues u=true:=by
 rw [walksL,z235]
 constructor
 ·rintro⟨h1,h2,h3⟩;exact⟨h1,by omega,h3⟩
 ·rintro⟨h1,h2,h3⟩;exact⟨h1,by omega,h3⟩
theorem z902 {lv:Int}:∀ (cl:List Clue) (a:Int),(cl.foldl (fun a c=>if c.seen then max a c.minute else a) a≤lv)↔a≤lv∧∀ c ∈ cl,c.seen=true→c.minute≤lv
 | [],a=>by simp
 | c::cl,a=>by
  rw [List.foldl_cons,z902 cl]
  by_cases hs:c.seen=true
  ·rw [if_pos hs]
   constructor
   ·rintro⟨h1,h2⟩
    refine⟨by omega,fun d hd hds=>?_⟩
    rcases List.mem_cons.1 hd with rfl | hd
    ·omega
    ·exact h2 d hd hds
   ·rintro⟨h1,h2⟩
    have:=h2 c (by simp) hs
    exact⟨by omega,fun d hd=>h2 d (by simp [hd])⟩
  ·rw [if_neg hs]
   constructor
   ·rintro⟨h1,h2⟩
    refine⟨h1,fun d hd hds=>?_⟩
    rcases List.mem_cons.1 hd with rfl | hd
    ·exact absurd hds hs
    ·exact h2 d hd hds
   ·rintro⟨h1,h2⟩
    exact⟨h1,fun d hd=>h2 d (by simp [hd])⟩
theorem z901 {cl:List Clue} {lv:Int} (h0:0≤lv):seenF cl≤lv↔∀ c ∈ cl,c.seen=true→c.minute≤lv:=by
 rw [seenF,z902]
 exact⟨fun h=>h.2,fun h=>⟨h0,h⟩⟩
def deniedB (cl:List Clue) (pl m:Int):Bool:=cl.any fun c=>c.minute == m && ((decide (pl ≥ 0) && hasB c.places pl) != c.seen)
def stayD (cl:List Clue) (pl a b:Int):Bool:=(List.range (b + 1 - a).toNat).all fun i=>!deniedB cl pl (a + i)
structure PassT where
 pl:Int
 ar:Int
 lv:Int
 pa:Int
def PassT.row (a:PassT):List DV:=[.i a.pl,.i a.ar,.i a.lv,.i a.pa]
def isPathB (n:Net) (k:Int):Bool:=withinB k 0 ((n.paths.length:Int) - 1)
def traceR (n:Net) (x:Missed):List PassT→Int→Int→Bool
 | [],_,_=>false
 | q::l,pl,ar=>decide (q.pl=pl) && (decide (q.ar=ar) && (withinB q.lv ar x.now && (stayD x.clues pl ar q.lv &&
  (if q.pa=-1 then decide (q.lv=x.now) && l.isEmpty else
   isPathB n q.pa && (match n.paths[q.pa.toNat]? with
    | none=>false
    | some y=>decide (y.frm=pl) && (decide (y.grade≤x.party.grade) && (decide (q.lv≤wr (ar + x.rest)) && (match l with
     | []=>decide (q.lv<x.now) && stayD x.clues (-1) (wr (q.lv + 1)) x.now
     | r::_=>withinB r.ar (wr (q.lv + (spanW y x.party).lo)) (wr (q.lv + (spanW y x.party).hi)) && (decide (r.ar≤x.now) && (stayD x.clues (-1) (wr (q.lv + 1)) (wr (r.ar - 1)) && traceR n x l y.to r.ar))))))))))
end Go.Ab
namespace Go.Ab
open Go.RowKit Go.Proofs
set_option maxHeartbeats 8000000
set_option maxRecDepth 20000
attribute [local irreducible] WalkL Walk
theorem z1362 (n:Net) (x:Missed) (hs:n.Small) (hl:x.clues.length<2 ^ 30):Fn Tryd.prog 12 [.agg n.cells,.agg x.row] (.bool (!farX n x && openX n x == 0)):=by
 have h40:=z1355 n x hs hl
 have h41:=z1337 n x hs hl
 rw [Net.cells] at *
 rw [Missed.row] at *
 refine z11 15 Tryd.call12 Tryd.func12 rfl (by decide) fun J=>?_
 simp only [go_sem,St.start,Tryd.ntmps12,Tryd.results12,Net.cells,Missed.row]
 cases hf:farX n x
 ·rw [hf] at h40
  repeat (first|refine nx ?_|(refine z3 fun K hK=>?_;simp only [go_sem];(repeat (first|(refine⟨_,.lent (hf:=h40) (hd:=rfl) (hr:=rfl),?_⟩;simp only [go_sem])|(refine⟨_,.lent (hf:=h41) (hd:=rfl) (hr:=rfl),?_⟩;simp only [go_sem])|(refine⟨_,.given (hf:=h40) (hd:=rfl) (ha:=rfl),?_⟩;simp only [go_sem])|(refine⟨_,.given (hf:=h41) (hd:=rfl) (ha:=rfl),?_⟩;simp only [go_sem])));apply hK;clear hK K))
  simp only [go_sem,Bool.not_false,Bool.true_and]
 ·rw [hf] at h40
  repeat (first|refine nx ?_|(refine z3 fun K hK=>?_;simp only [go_sem];(repeat (first|(refine⟨_,.lent (hf:=h40) (hd:=rfl) (hr:=rfl),?_⟩;simp only [go_sem])|(refine⟨_,.given (hf:=h40) (hd:=rfl) (ha:=rfl),?_⟩;simp only [go_sem])));apply hK;clear hK K))
  simp only [go_sem,Bool.not_true,Bool.false_and]
end Go.Ab
namespace Go.Ab
open Go.RowKit Go.Proofs
set_option maxHeartbeats 16000000
set_option maxRecDepth 20000
attribute [local irreducible] WalkL Walk
def passRows (l:List PassT):List (List DV):=l.map PassT.row
def bad1 (x:Missed) (q:PassT) (pl ar:Int):Bool:=(q.pl != pl) || ((q.ar != ar) || (!withinB q.lv ar x.now || !stayD x.clues pl ar q.lv))
def bad2 (x:Missed) (q:PassT) (y:Path) (pl ar:Int):Bool:=(y.frm != pl) || (!decide (y.grade≤x.party.grade) || decide (q.lv > wr (ar + x.rest)))
def bad3 (x:Missed) (q r:PassT) (s:Span):Bool:=!withinB r.ar (wr (q.lv + s.lo)) (wr (q.lv + s.hi)) || (decide (r.ar > x.now) || !stayD x.clues (-1) (wr (q.lv + 1)) (wr (r.ar - 1)))
end Go.Ab
namespace Go.Ab
open Go.RowKit Go.Proofs
set_option maxHeartbeats 2000000
structure Looser (n:Net) (x:Missed) (m:Net) (z:Missed):Prop where
 place:z.place=x.place
 start:z.start=x.start
 now:z.now=x.now
 rest:x.rest≤z.rest
 at0:∀ p u,atB x.clues p u=true→atB z.clues p u=true
 on:∀ u,onB8 x.clues u=true→onB8 z.clues u=true
 seen:seenF z.clues≤seenF x.clues
 path:∀ (k:Nat) (y:Path),n.paths[k]?=some y→y.grade≤x.party.grade→∃ y':Path,m.paths[k]?=some y'∧y'.frm=y.frm∧y'.to=y.to∧y'.grade≤z.party.grade∧(spanW y' z.party).lo≤(spanW y x.party).lo∧(spanW y x.party).hi≤(spanW y' z.party).hi
theorem z213 {n:Net} {x:Missed} (hx:Hunted n x) {p t:Int} (h:Reached n x p t):x.start≤t∧t≤x.now∧0≤p:=by
 induction h with
 | start _=>exact⟨Int.le_refl _,hx.start.2,hx.place.1⟩
 | step _ hlv harr ih =>
  obtain⟨k,y,b,hy,hf,hg,hto,_,_,hw,_⟩:=harr
  obtain⟨w1,w2,_⟩:=z234.1 hw
  obtain⟨l1,_⟩:=z104.1 hlv
  have:=(hx.net.path y (List.mem_of_getElem? hy)).to
  exact⟨by omega,w2,by omega⟩
theorem z331 {n m:Net} {x z:Missed} (hx:Hunted n x) (hz:Hunted m z) (h:Looser n x m z) {p u lv:Int} (hu:x.start≤u∧u≤x.now) (hlv:lv ∈ staysL x p u (wr (u + x.rest))):lv ∈ staysL z p u (wr (u + z.rest)):=by
 obtain⟨l1,l2,l3,l4⟩:=z104.1 hlv
 have h1:=hx.start
 have h2:=hx.now
 have h3:=hx.rest
 have h4:=hz.rest
 have h5:=h.rest
 have e1:wr (u + x.rest)=u + x.rest:=z10 (by omega)
 have e2:wr (u + z.rest)=u + z.rest:=z10 (by omega)
 rw [e1] at l2
 exact z104.2 ⟨l1,by rw [e2];omega,by rw [h.now];exact l3,fun v g1 g2=>h.at0 _ _ (l4 v g1 g2)⟩
theorem z216 {n m:Net} {x z:Missed} (hx:Hunted n x) (hz:Hunted m z) (h:Looser n x m z) {p t:Int} (hr:Reached n x p t):Reached m z p t:=by
 induction hr with
 | start hat =>
  have:=Reached.start (n:=m) (x:=z) (by rw [h.place,h.start];exact h.at0 _ _ hat)
  rwa [h.place,h.start] at this
 | @step p u lv to t hr hlv harr ih =>
  obtain⟨r1,r2,r3⟩:=z213 hx hr
  refine .step ih (z331 hx hz h ⟨r1,r2⟩ hlv) ?_
  obtain⟨k,y,b,hy,hf,hg,hto,a1,a2,hw,hat⟩:=harr
  obtain⟨y',hy',hf',hto',hg',s1,s2⟩:=h.path k y hy hg
  obtain⟨o1,o2,o3⟩:=z852 (hx.net.path y (List.mem_of_getElem? hy)) hx.party
  obtain⟨q1,q2,q3⟩:=z852 (hz.net.path y' (List.mem_of_getElem? hy')) hz.party
  unfold okTime at o1 o2 q1 q2
  obtain⟨l1,l2,l3,l4⟩:=z104.1 hlv
  obtain⟨w1,w2,w3,w4⟩:=z234.1 hw
  have h1:=hx.start
  have h2:=hx.now
  have e1:wr (lv + (spanW y x.party).lo)=lv + (spanW y x.party).lo:=z10 (by omega)
  have e2:wr (lv + (spanW y x.party).hi)=lv + (spanW y x.party).hi:=z10 (by omega)
  have e3:wr (lv + (spanW y' z.party).lo)=lv + (spanW y' z.party).lo:=z10 (by omega)
  have e4:wr (lv + (spanW y' z.party).hi)=lv + (spanW y' z.party).hi:=z10 (by omega)
  rw [e1] at a1
  rw [e2] at a2
  refine⟨k,y',onB8 z.clues t,hy',by rw [hf',hf],hg',by rw [hto',hto],by rw [e3];omega,by rw [e4];omega,z234.2 ⟨w1,by rw [h.now];exact w2,rfl,fun v g1 g2=>h.on _ (w4 v g1 g2)⟩,h.at0 _ _ hat⟩
theorem z1169 {n m:Net} {x z:Missed} (hx:Hunted n x) (hz:Hunted m z) (h:Looser n x m z) {p:Int} (hc:CanIn n x p):CanIn m z p:=by
 obtain⟨u,hr,hs⟩:=hc
 obtain⟨l1,l2,l3,l4⟩:=z104.1 hs
 exact⟨u,z216 hx hz h hr,z104.2 ⟨by rw [h.now];exact l1,Int.le_refl _,Int.le_refl _,fun v g1 g2=>h.at0 _ _ (l4 v g1 (by rw [← h.now];exact g2))⟩⟩
theorem z1168 {n m:Net} {x z:Missed} (hx:Hunted n x) (hz:Hunted m z) (h:Looser n x m z) {k:Int} (hc:CanOn n x k):CanOn m z k:=by
 obtain⟨j,y,u,lv,rfl,hy,hg,hr,hs,hne,hle⟩:=hc
 obtain⟨y',hy',hf',hto',hg',_⟩:=h.path j y hy hg
 obtain⟨r1,r2,r3⟩:=z213 hx hr
 have hsn:=h.seen
 exact⟨j,y',u,lv,rfl,hy',hg',by rw [hf'];exact z216 hx hz h hr,by rw [hf'];exact z331 hx hz h ⟨r1,r2⟩ hs,by rw [h.now];exact hne,by omega⟩
def hasI (l:List Int) (v:Int):Bool:=l.any fun y=>y == v
def withinQ (a b c d:List Int):Bool:=a.all (hasI c) && b.all (hasI d)
def moreX (x:Missed) (c:Clue):Missed:={ x with clues:=x.clues++[c] }
structure MoreT where
 clue:Clue
 rest:Int
 path:Int
 time:Int
def longX (x:Missed) (y:MoreT):Missed:={ x with rest:=min 10 (wr (x.rest + y.rest)) }
def longP (p:Path) (t:Int):Path:={ p with time:=⟨p.time.lo,min 600 (wr (p.time.hi + t))⟩,opens:=[] }
def longN (n:Net) (y:MoreT):Net:=if 0≤y.path∧y.path<n.paths.length then { n with paths:=n.paths.modify y.path.toNat (fun p=>longP p y.time) } else n
end Go.Ab
namespace Go.Ab
open Go.RowKit Go.Proofs
set_option maxHeartbeats 16000000
set_option maxRecDepth 20000
attribute [local irreducible] WalkL Walk
def validB (n:Net) (x:Missed):Bool:=!farX n x && openX n x == 0
def badHolds (n:Net) (x:Missed) (l:List PassT):Bool:=!validB n x || (((l.length:Int) == 0) || (decide ((l.length:Int) > 60) || !traceR n x l x.place x.start))
end Go.Ab
namespace Go.Ab
open Go.RowKit Go.Proofs
set_option maxHeartbeats 8000000
set_option maxRecDepth 20000
attribute [local irreducible] WalkL Walk
def possB (n:Net) (x:Missed):Bool:=!(endsL n x (huntedA n x)).isEmpty
theorem z1346 (n:Net) (x:Missed) (hx:Hunted n x):Fn Tryd.prog 75 [.ptr (huntC n x) 0] (.bool (possB n x)):=by
 obtain⟨A,hA⟩:∃ A,A=huntedA n x:=⟨_,rfl⟩
 have hgA:goodA n x A:=hA ▸ z118 hx
 have g39:=z1335 n x hx
 rw [← huntedA,← hA] at g39
 obtain⟨b,hb⟩:=z675 (h:=.ptr (huntC n x) 0) (A:=A)
 have h39:=FnG.deep (args:=[.ptr (huntC n x) 0]) g39 hb
 have hit:=z1200 n x hx A b hgA
 rw [possB,← hA]
 obtain⟨E,hE⟩:∃ E,E=endsL n x A:=⟨_,rfl⟩
 rw [← hE] at hit ⊢
 obtain⟨H,hH⟩:∃ H,H=huntC n x:=⟨_,rfl⟩
 rw [← hH] at h39 hit ⊢
 refine z11 7 Tryd.call75 Tryd.func75 rfl (by decide) fun J=>?_
 simp only [go_sem,St.start,Tryd.ntmps75,Tryd.results75]
 repeat (first|refine nx ?_|(refine z3 fun K hK=>?_;simp only [go_sem];(repeat (first|(refine⟨_,.lent (hf:=h39) (hd:=rfl) (hr:=rfl),?_⟩;simp only [go_sem])|(refine⟨_,.given (hf:=h39) (hd:=rfl) (ha:=rfl),?_⟩;simp only [go_sem])));apply hK;clear hK K))
 refine z121 rfl hit (by intro row hr;obtain⟨w,_,rfl⟩:=List.mem_map.1 hr;rfl) (fun _=>[]) (fun (a:Bool)=>[(2,some (.box [.d (.bool a)]))])
  (fun k' j a=>k'=some 0∧a=false∧j=0) (fun e k' a=>e=.ret∧k'=some 0∧a=true∧E.isEmpty=false) false ?_ ⟨rfl,rfl,rfl⟩ ?_ ?_ ?_
 ·simp only [go_sem]
  refine weA ?_ ?_ <;> simp
 ·rintro X0 W0 k' j a row hj ⟨rfl,rfl,rfl⟩ l1 m1
  have hne:E.isEmpty=false:=by
   cases E with
   | nil=>simp [endRows] at hj
   | cons=>rfl
  obtain⟨v,hv⟩:∃ v,row=[v]:=by
   simp only [endRows,List.getElem?_map,Option.map_eq_some_iff] at hj
   obtain⟨e,_,rfl⟩:=hj
   exact⟨_,rfl⟩
  subst hv
  simp only [go_sem]
  repeat (first|refine nx ?_|(refine z3 fun K hK=>?_;simp only [go_sem];apply hK;clear hK K))
  refine⟨rfl,true,?_,rfl,rfl,rfl,hne⟩
  simp only [go_sem]
  refine weA ?_ ?_ <;> simp
 ·rintro k' a ⟨rfl,rfl,h0⟩
  have he:E.isEmpty=true:=by
   rw [endRows,List.length_map] at h0
   cases E with
   | nil=>rfl
   | cons=>simp at h0
  rw [he]
  simp only [go_sem]
  repeat (first|refine nx ?_|(refine z3 fun K hK=>?_;simp only [go_sem];apply hK;clear hK K))
  simp only [go_sem,Bool.not_true]
 ·rintro ex k' a ⟨rfl,rfl,rfl,hne⟩ hj
  rw [hne]
  simp only [go_sem,Bool.not_false]
end Go.Ab
namespace Go.Ab
open Go.RowKit Go.Proofs
set_option maxHeartbeats 2000000
theorem z214 {n:Net} {x:Missed} (hx:Hunted n x):possB n x=true↔(∃ p,CanIn n x p)∨∃ k,CanOn n x k:=by
 rw [possB,Bool.not_eq_true',← Bool.not_eq_true,List.isEmpty_iff]
 constructor
 ·intro h
  cases hE:endsL n x (huntedA n x) with
  | nil=>exact absurd hE h
  | cons e E =>
   have he:e ∈ endsL n x (huntedA n x):=by rw [hE];simp
   rcases z265 he with ⟨_,h1,h2⟩ | ⟨k,y,h1,h2,h3,h4,h5,h6,h7,h8⟩
   ·exact .inl ⟨e.pl,e.mi,(z67 hx).1 h1,h2⟩
   ·rw [← h4] at h5 h6
    exact .inr ⟨e.pa,k,y,e.mi,e.lv,h1,h2,h3,(z67 hx).1 h5,h6,h7,h8⟩
 ·rintro (⟨p,m,h1,h2⟩ | ⟨k,j,y,m,lv,rfl,h1,h2,h3,h4,h5,h6⟩) hE
  ·obtain⟨s,hs,rfl,rfl⟩:=(z67 hx).2 h1
   have:=z1100 (n:=n) hs h2
   rw [hE] at this
   simp at this
  ·obtain⟨s,hs,e1,e2⟩:=(z67 hx).2 h3
   rw [← e1,← e2] at h4
   have:=z1099 (n:=n) hs h4 h5 h6 h1 h2 e1.symm
   rw [hE] at this
   simp at this
def withC (x:Missed) (cl:List Clue):Missed:={ x with clues:=cl }
theorem z162 {n:Net} {x:Missed} (hx:Hunted n x) {cl:List Clue} (h:cl.length<2 ^ 30):Hunted n (withC x cl):=⟨hx.net,hx.party,hx.place,hx.start,hx.now,hx.rest,h⟩
theorem z1049 {cl cl':List Clue} (h:∀ c ∈ cl',c ∈ cl):seenF cl'≤seenF cl:=by
 have h0:∀ (l:List Clue) (a:Int),a≤l.foldl (fun a c=>if c.seen then max a c.minute else a) a:=by
  intro l
  induction l with
  | nil=>intro a;exact Int.le_refl _
  | cons c l ih =>
   intro a
   rw [List.foldl_cons]
   refine Int.le_trans ?_ (ih _)
   split
   ·exact Int.le_max_left _ _
   ·exact Int.le_refl _
 have h1:0≤seenF cl:=h0 cl 0
 rw [z901 h1]
 intro c hc hs
 exact (z901 h1).1 (Int.le_refl _) c (h c hc) hs
theorem z979 (n:Net) (x:Missed) {cl cl':List Clue} (h:∀ c ∈ cl',c ∈ cl):Looser n (withC x cl) n (withC x cl'):=by
 refine⟨rfl,rfl,rfl,Int.le_refl _,fun p u hh=>?_,fun u hh=>?_,z1049 h,fun k y hy hg=>⟨y,hy,rfl,rfl,hg,Int.le_refl _,Int.le_refl _⟩⟩
 ·simp only [withC,atB,Bool.not_eq_true',List.any_eq_false] at hh ⊢
  exact fun c hc=>hh c (h c hc)
 ·simp only [withC,onB8,Bool.not_eq_true',List.any_eq_false] at hh ⊢
  exact fun c hc=>hh c (h c hc)
theorem z679 {n:Net} {x:Missed} (hx:Hunted n x) {cl cl':List Clue} (h1:cl.length<2 ^ 30) (h2:cl'.length<2 ^ 30) (h:∀ c ∈ cl',c ∈ cl) (hp:possB n (withC x cl)=true):possB n (withC x cl')=true:=by
 have hc:=z162 hx h1
 have hc':=z162 hx h2
 have hl:=z979 n x h
 rw [z214 hc] at hp
 rw [z214 hc']
 rcases hp with ⟨p,hp⟩ | ⟨k,hk⟩
 ·exact .inl ⟨p,z1169 hc hc' hl hp⟩
 ·exact .inr ⟨k,z1168 hc hc' hl hk⟩
def getC (x:Missed) (l:List Nat):List Clue:=l.filterMap fun i=>x.clues[i]?
def keptF (n:Net) (x:Missed):Nat→List Nat
 | 0=>[]
 | i + 1=>if possB n (withC x (getC x (keptF n x i)++x.clues.drop (i + 1))) then keptF n x i++[i] else keptF n x i
theorem z347 (x:Missed) (l k:List Nat):getC x (l++k)=getC x l++getC x k:=by simp [getC]
theorem z201 (n:Net) (x:Missed):∀ (i:Nat),∀ j ∈ keptF n x i,j<i
 | 0,j,h=>by simp [keptF] at h
 | i + 1,j,h=>by
  rw [keptF] at h
  split at h
  ·rcases List.mem_append.1 h with h | h
   ·have:=z201 n x i j h;omega
   ·simp at h;omega
  ·have:=z201 n x i j h;omega
theorem z912 (x:Missed) (l:List Nat):(getC x l).length≤l.length:=List.length_filterMap_le _ _
theorem z223 (n:Net) (x:Missed):∀ i:Nat,(keptF n x i).length≤i
 | 0=>Nat.le_refl _
 | i + 1=>by
  have:=z223 n x i
  rw [keptF];split
  ·simp;omega
  ·omega
theorem z700 {n:Net} {x:Missed} (h:possB n x=false):∀ (i:Nat),i≤x.clues.length→possB n (withC x (getC x (keptF n x i)++x.clues.drop i))=false
 | 0,_=>by
  have:withC x (getC x (keptF n x 0)++x.clues.drop 0)=x:=by simp [withC,keptF,getC]
  rw [this];exact h
 | i + 1,hi=>by
  have ih:=z700 h i (by omega)
  obtain⟨c,hc⟩:∃ c,x.clues[i]?=some c:=⟨_,List.getElem?_eq_getElem (by omega)⟩
  rw [keptF]
  split
  ·rw [z347,List.append_assoc,show getC x [i]++x.clues.drop (i + 1)=x.clues.drop i by rw [z58 hc];simp [getC,hc]]
   exact ih
  ·rename_i hp
   simpa using hp
end Go.Ab
namespace Go.Ab
open Go.RowKit Go.Proofs
set_option maxHeartbeats 8000000
set_option maxRecDepth 20000
attribute [local irreducible] WalkL Walk
theorem z888 (l:List Clue):headIs 3 (l.map Clue.row)=true:=by cases l <;> rfl
theorem z1283 (c:Clue) (cl:List Clue) (hl:(c::cl).length<2 ^ 30):FnG Tryd.prog 77 [] [] (List.map AV.d [.sl ((c::cl).map Clue.row)]) (.own 0) [.arr 44 3 ((c::cl).map Clue.row)]:=by
 have e:((c::cl).map Clue.row).length=cl.length + 1:=by simp
 rw [List.length_cons] at hl
 have h1:cl.length + 1≤549755813888:=by omega
 have h2:0 + (cl.length + 1)≤549755813888:=by omega
 have h3:=z888 (c::cl)
 obtain⟨R,hR⟩:∃ R,R=(c::cl).map Clue.row:=⟨_,rfl⟩
 have hne:R.isEmpty=false:=by rw [hR];rfl
 rw [← hR] at e h3 ⊢
 refine z35 8 Tryd.call77 Tryd.func77 rfl (by decide) [5] [] (by simp only [List.length_cons,List.length_nil];decide) (by kernel_rfl) fun J=>?_
 simp only [go_sem,St.startG,Tryd.ntmps77,Tryd.results77,List.map_cons,List.map_nil,List.range_succ,  hne]
 repeat (first|refine nx ?_|(refine z3 fun K hK=>?_;simp only [go_sem,e,h1,h2,h3,hne,List.nil_append,List.length_nil];apply hK;clear hK K))
 refine z5 (by rfl) ?_
 repeat (first|refine nx ?_|(refine z3 fun K hK=>?_;simp only [go_sem,e,h1,h2,h3,List.nil_append,List.length_nil];apply hK;clear hK K))
 simp only [go_sem,retG]
theorem z1286 (n:Net) (x:Missed) (hs:n.Small) (hl:x.clues.length<2 ^ 30) (ho:openX n x=0):FnG Tryd.prog 48 [] [] (List.map AV.d [.agg n.cells,.agg x.row]) (.tup [.box 0 0,.d (.i 0)]) [.box ((huntC n x).map AV.d)]:=by
 have h44:=z1284 n x.party hs
 rw [Party.cells] at h44
 have hok:checkPartyF n x.party=0:=by
  by_cases h:checkPartyF n x.party=0
  ·exact h
  ·simp [openX,h] at ho
 have hb:badHunt n x=false:=by
  cases h:badHunt n x
  ·rfl
  ·simp [openX,hok,h] at ho
 have h12w:(decide ((x.clues.length:Int) > 12) || x.clues.any (wrongC n x))=false:=by
  cases h:(decide ((x.clues.length:Int) > 12) || x.clues.any (wrongC n x))
  ·rfl
  ·simp only [openX,hok,hb,h] at ho
   simp at ho
 rw [Bool.or_eq_false_iff] at h12w
 obtain⟨h12,hw⟩:=h12w
 have hnb:¬ badNet n=true:=by
  intro hb
  rw [checkPartyF,if_pos hb] at hok
  simp at hok
 have hpl:=z116 hnb
 rw [travC,if_pos hok,countryC,timesD,mapD,hok] at h44
 have h45:=z1275 n x.party x.place (by omega)
 rw [countryC,timesD,mapD] at h45
 have h61:∀ c ∈ x.clues,Fn Tryd.prog 81 [.agg c.row,.ptr [.i x.party.grade,.i x.party.load,.i x.party.pace.lo,.i x.party.pace.hi,.i x.place,.i x.start,.i x.now,.i x.rest,.sl (x.clues.map Clue.row)] 0,.ptr [.i n.places,.sl (n.paths.map Path.row)] 0] (.bool (wrongC n x c)):=fun c _=>z1329 n x c (by omega)
 have h62:=z1274 x.clues 81 _ _ h61 (by omega)
 rw [hw] at h62
 refine z35 59 Tryd.call48 Tryd.func48 rfl (by decide) [58] [] (by simp only [List.length_cons,List.length_nil];decide) (by kernel_rfl) fun J=>?_
 simp only [go_sem,St.startG,Tryd.ntmps48,Tryd.results48,List.map_cons,List.map_nil,List.range_succ,  Net.cells,Missed.row]
 repeat (first|refine nx ?_|(refine z3 fun K hK=>?_;simp only [go_sem];(repeat (first|(refine⟨_,.lent (hf:=h44) (hd:=rfl) (hr:=rfl),?_⟩;simp only [go_sem])|(refine⟨_,.given (hf:=h44) (hd:=rfl) (ha:=rfl),?_⟩;simp only [go_sem])));apply hK;clear hK K))
 refine z5 (by rfl) ?_
 repeat (first|refine nx ?_|(refine z3 fun K hK=>?_;simp only [go_sem];apply hK;clear hK K))
 refine z18 [(43,.d (.bool (badHunt n x)))] [] ?_ ?_
 ·refine z3 fun K hK=>?_
  simp only [go_sem]
  refine⟨_,.lent (hf:=h45) (hd:=rfl) (hr:=rfl),?_⟩
  simp only [go_sem]
  by_cases ho0:(!withinB x.place 0 (n.places - 1))=true
  ·simp only [go_sem,ho0]
   apply hK
   clear hK K
   refine z7 ?_
   refine z4 ?_
   refine⟨rfl,?_⟩
   rw [show (badHunt n x)=(true) from by simp [badHunt,ho0]]
   simp only [go_sem]
   refine weA ?_ ?_ <;> simp
  ·simp only [go_sem,ho0]
   refine⟨_,.lent (hf:=z897 x.start 0 2880) (hd:=rfl) (hr:=rfl),?_⟩
   simp only [go_sem,ho0]
   by_cases ho1:(!withinB x.start 0 2880)=true
   ·simp only [go_sem,ho0,ho1]
    apply hK
    clear hK K
    refine z7 ?_
    refine z4 ?_
    refine⟨rfl,?_⟩
    rw [show (badHunt n x)=(true) from by simp [badHunt,ho0,ho1]]
    simp only [go_sem]
    refine weA ?_ ?_ <;> simp
   ·simp only [go_sem,ho0,ho1]
    refine⟨_,.lent (hf:=z897 x.rest 0 600) (hd:=rfl) (hr:=rfl),?_⟩
    simp only [go_sem,ho0,ho1]
    by_cases ho2:(!withinB x.rest 0 600)=true
    ·simp only [go_sem,ho0,ho1,ho2]
     apply hK
     clear hK K
     refine z7 ?_
     refine z4 ?_
     refine⟨rfl,?_⟩
     rw [show (badHunt n x)=(true) from by simp [badHunt,ho0,ho1,ho2]]
     simp only [go_sem]
     refine weA ?_ ?_ <;> simp
    ·simp only [go_sem,ho0,ho1,ho2]
     refine⟨_,.lent (hf:=z897 x.now x.start 2880) (hd:=rfl) (hr:=rfl),?_⟩
     simp only [go_sem,ho0,ho1,ho2]
     apply hK
     clear hK K
     refine z7 ?_
     refine z4 ?_
     refine⟨rfl,?_⟩
     rw [show (badHunt n x)=(!withinB x.now x.start 2880) from by simp [badHunt,ho0,ho1,ho2]]
     simp only [go_sem]
     refine weA ?_ ?_ <;> simp
 simp only [go_sem]
 refine z6 (b:=false) (by rw [← hb];rfl) (fun hc=>by cases hc) (fun _=>?_)
 repeat (first|refine nx ?_|(refine z3 fun K hK=>?_;simp only [go_sem,h12];(repeat (first|(refine⟨_,.lent (hf:=h62) (hd:=rfl) (hr:=rfl),?_⟩;simp only [go_sem,h12])|(refine⟨_,.given (hf:=h62) (hd:=rfl) (ha:=rfl),?_⟩;simp only [go_sem,h12])));apply hK;clear hK K))
 refine z5 (by rfl) ?_
 repeat (first|refine nx ?_|(refine z3 fun K hK=>?_;simp only [go_sem];apply hK;clear hK K))
 simp only [go_sem,retG,huntC,timesD,mapD]
end Go.Ab
namespace Go.Ab
open Go.RowKit Go.Proofs
set_option maxHeartbeats 16000000
set_option maxRecDepth 20000
attribute [local irreducible] WalkL Walk
def neverW:Int:=1073741824
def zeroN:Mat:=fun a b=>if a=b then 0 else neverW
def partN (m i b:Nat):List Int:=(List.range m).map fun j=>if j<b then zeroN i j else 0
def zeroTN (m k:Nat):List (List Int):=(List.range k).map (rowM m zeroN)
def relaxN (p:Party) (F:Mat) (y:Path):Mat:=if y.grade≤p.grade then updM F y.frm.toNat y.to.toNat (min (F y.frm.toNat y.to.toNat) (spanW y p).hi) else F
def allR (n:Net) (p:Party):Mat:=(List.range n.places.toNat).foldl (stepV n.places.toNat) (n.paths.foldl (relaxN p) zeroN)
def nmx (L i m:Nat):List (List AV):=nm L i++List.replicate (m - i) [.d (.sl [])]
end Go.Ab
namespace Go.Ab
open Go.RowKit Go.Proofs
set_option maxHeartbeats 2000000
def pureB (F:Mat) (S:List SpotT) (rec:Nat→Nat→Int × Int) (p s:Nat) (a:Int × Int) (i:Nat):Int × Int :=
 if minW F S p i ≥ farW then a else pickB (wr (wr (minW F S p i * weightW S s) + (rec (nextP S i) (s - 2 ^ i)).1)) i a
def bestV (F:Mat) (S:List SpotT):Nat→Nat→Nat→Int × Int
 | 0,_,_=>(0,-1)
 | f + 1,p,s=>if s=0 then (0,-1) else (elems s).foldl (pureB F S (bestV F S f) p s) (farW,-1)
def SoundB (F:Mat) (S:List SpotT) (m:MemB):Prop:=∀ e ∈ m.1,e.1.2<32∧e.2.1=bestV F S 5 e.1.1 e.1.2
end Go.Ab
namespace Go.Ab
open Go.RowKit Go.Proofs
set_option maxHeartbeats 2000000
inductive ChainW (n:Net) (p:Party):List Nat→Nat→Nat→Int→Prop
 | nil (a:Nat):ChainW n p [] a a 0
 | one {w:Nat × Path} (hw:w ∈ canL n p):ChainW n p [] w.2.frm.toNat w.2.to.toNat (spanW w.2 p).hi
 | app {l1 l2:List Nat} {a v b:Nat} {c d:Int} (h1:ChainW n p l1 a v c) (h2:ChainW n p l2 v b d):ChainW n p (l1++v::l2) a b (c + d)
def SoundM (n:Net) (p:Party) (F:Mat):Prop:=∀ a b,0≤F a b∧F a b≤farW∧(F a b<farW→∃ l,ChainW n p l a b (F a b))
end Go.Ab
namespace Go.Ab
open Go.RowKit Go.Proofs
set_option maxHeartbeats 2000000
def Least (n:Net) (p:Party) (k:Nat) (F:Mat):Prop:=∀ (L:List Nat) (a b:Nat) (c:Int),ChainW n p L a b c→a<n.places.toNat→(∀ x ∈ L,x<k)→F a b≤c
end Go.Ab
namespace Go.Ab
open Go.RowKit Go.Proofs
set_option maxHeartbeats 2000000
structure NiceB (m:Nat) (F:Mat) (S:List SpotT):Prop where
 spots:SpotsOk m S
 min:∀ p i,p<m→i<S.length→0≤minW F S p i
 wt:∀ s,s<32→(∀ i ∈ elems s,i<S.length)→0≤weightW S s∧weightW S s≤500
def valB (F:Mat) (S:List SpotT) (rec:Nat→Nat→Int × Int) (p s i:Nat):Int:=wr (wr (minW F S p i * weightW S s) + (rec (nextP S i) (s - 2 ^ i)).1)
end Go.Ab
namespace Go.Ab
open Go.RowKit Go.Proofs
set_option maxHeartbeats 2000000
def sumW (S:List SpotT) (l:List Nat):Int:=l.foldr (fun i a=>(spotAt S i).wt + a) 0
structure OneB (m b:Nat) (F:Mat) (S:List SpotT):Prop where
 nice:NiceB m F S
 base:b<m
 self:F b b=0
 at0:∀ i,i<S.length→nextP S i=b
 wt:∀ s ∈ S,0≤s.wt∧s.wt≤100
 se:∀ s ∈ S,0≤s.se∧s.se≤600
end Go.Ab
namespace Go.Ab
open Go.RowKit Go.Proofs
set_option maxHeartbeats 2000000
def Bnd (F:Mat) (K:Int):Prop:=∀ a b,F a b<farW→F a b≤K
def Near (n:Net) (p:Party) (v:Nat) (K:Int) (G:Mat):Prop:=SoundM n p G∧(∀ x,G x v<farW→G x v≤K)∧(∀ x,G v x<farW→G v x≤K)∧Bnd G (2 * K)
end Go.Ab
namespace Go.Ab
open Go.RowKit Go.Proofs
set_option maxHeartbeats 2000000
def SameW (F G:Mat):Prop:=∀ a b,(F a b<farW∧G a b=F a b)∨(F a b=farW∧G a b=neverW)
end Go.Ab
namespace Go.Ab
open Go.RowKit Go.Proofs
set_option maxHeartbeats 2000000
structure PlanB (m:Nat) (F G:Mat) (S:List SpotT):Prop where
 nice:NiceB m F S
 mat:∀ a b,(F a b<farW∧0≤F a b∧F a b≤192000∧G a b=F a b)∨(F a b=farW∧G a b=neverW)
 wt:∀ s ∈ S,0≤s.wt∧s.wt≤100
 se:∀ s ∈ S,0≤s.se∧s.se≤600
def reachL (F:Mat) (S:List SpotT):Nat→List Nat→Prop
 | _,[]=>True
 | p,i::l=>F p (nextP S i)<farW∧reachL F S (nextP S i) l
def endL (F:Mat) (S:List SpotT):Nat→List Nat→Int
 | _,[]=>0
 | p,i::l=>F p (nextP S i) + (spotAt S i).se + endL F S (nextP S i) l
def costL (F:Mat) (S:List SpotT):Nat→List Nat→Int
 | _,[]=>0
 | p,i::l=>(F p (nextP S i) + (spotAt S i).se) * sumW S (i::l) + costL F S (nextP S i) l
def costF (G:Mat) (S:List SpotT):Nat→Int→Int→List Nat→Int × Int
 | _,c,e,[]=>(c,e)
 | p,c,e,i::l=>if G p (nextP S i) ≥ neverW then (neverW,neverW) else
  costF G S (nextP S i) (wr (c + wr ((spotAt S i).wt * wr (e + wr (G p (nextP S i) + (spotAt S i).se))))) (wr (e + wr (G p (nextP S i) + (spotAt S i).se))) l
def firstV (F:Mat) (S:List SpotT) (p s i:Nat):Int:=(F p (nextP S i) + (spotAt S i).se) * sumW S (elems s) + (bestV F S 5 (nextP S i) (s - 2 ^ i)).1
def orderV (F:Mat) (S:List SpotT):Nat→Nat→Nat→List Nat
 | 0,_,_=>[]
 | f + 1,p,s=>if s=0 then [] else (bestV F S 5 p s).2.toNat::orderV F S f (nextP S (bestV F S 5 p s).2.toNat) (s - 2 ^ (bestV F S 5 p s).2.toNat)
def earlierB:List Nat→List Nat→Bool
 | a::l,b::k=>if a=b then earlierB l k else decide (a<b)
 | _,_=>false
end Go.Ab
namespace Go.Ab
open Go.RowKit Go.Proofs
set_option maxHeartbeats 2000000
def ordersL:Nat→Nat→List (List Nat)
 | 0,_=>[[]]
 | f + 1,s=>if s=0 then [[]] else (elems s).flatMap fun i=>(ordersL f (s - 2 ^ i)).map (i::·)
def bestStep (c:List Nat→Int) (a:List Nat × Int) (l:List Nat):List Nat × Int:=if c l<a.2 then (l,c l) else a
def bestD (G:Mat) (S:List SpotT) (b s:Nat):List Nat × Int:=(ordersL 5 s).foldl (bestStep fun l=>(costF G S b 0 0 l).1) ([],neverW)
end Go.Ab
namespace Go.Ab
open Go.RowKit Go.Proofs
set_option maxHeartbeats 2000000
def setOf (l:List Nat):Nat:=l.foldr (fun i s=>s ||| 2 ^ i) 0
def doneV (F:Mat) (S:List SpotT) (b:Nat):Nat→Nat→Nat→Int
 | 0,_,_=>0
 | f + 1,s,last=>if s - 2 ^ last=0 then minW F S b last else (elems (s - 2 ^ last)).foldl (fun a i=>min a (wr (doneV F S b f (s - 2 ^ last) i + minW F S (nextP S i) last))) farW
def lastP (S:List SpotT):Nat→List Nat→Nat
 | p,[]=>p
 | _,i::l=>lastP S (nextP S i) l
def byB (F:Mat) (S:List SpotT) (b:Nat) (mi:Int) (s:Nat):Bool:=(elems s).any fun i=>decide (doneV F S b 5 s i≤mi)
def mostV (F:Mat) (S:List SpotT) (b:Nat) (mi:Int):Int:=(List.range (fullN S + 1)).foldl (fun a s=>if byB F S b mi s then max a (weightW S s) else a) 0
end Go.Ab
namespace Go.Ab
open Go.RowKit Go.Proofs
set_option maxHeartbeats 2000000
def subs (s:Nat):List Nat:=((List.range (s + 1)).filter fun o=>o &&& s == o).reverse
def shareStep (F:Mat) (S:List SpotT) (rec:Nat→MemB→(Int × List Nat) × MemB) (b s:Nat) (a:(Int × List Nat) × MemB) (o:Nat):(Int × List Nat) × MemB :=
 (if wr ((bestM F S 5 b o a.2).1.1 + (rec (s - o) (bestM F S 5 b o a.2).2).1.1)<a.1.1 then (wr ((bestM F S 5 b o a.2).1.1 + (rec (s - o) (bestM F S 5 b o a.2).2).1.1),o::(rec (s - o) (bestM F S 5 b o a.2).2).1.2) else a.1,(rec (s - o) (bestM F S 5 b o a.2).2).2)
def shareM (F:Mat) (S:List SpotT):List Nat→Nat→MemB→(Int × List Nat) × MemB
 | [],_,m=>((farW,[]),m)
 | [b],s,m=>(((bestM F S 5 b s m).1.1,[s]),(bestM F S 5 b s m).2)
 | b::c::t,s,m=>(subs s).foldl (shareStep F S (shareM F S (c::t)) b s) ((farW,[]),(bestM F S 5 b s m).2)
def pureS (F:Mat) (S:List SpotT) (rec:Nat→Int × List Nat) (b s:Nat) (a:Int × List Nat) (o:Nat):Int × List Nat :=
 if wr ((bestV F S 5 b o).1 + (rec (s - o)).1)<a.1 then (wr ((bestV F S 5 b o).1 + (rec (s - o)).1),o::(rec (s - o)).2) else a
def shareV (F:Mat) (S:List SpotT):List Nat→Nat→Int × List Nat
 | [],_=>(farW,[])
 | [b],s=>((bestV F S 5 b s).1,[s])
 | b::c::t,s=>(subs s).foldl (pureS F S (shareV F S (c::t)) b s) (farW,[])
def PartS:List Nat→Nat→List Nat→Prop
 | [],_,_=>False
 | [_],s,xs=>xs=[s]
 | _::c::t,s,xs=>∃ o r,xs=o::r∧o &&& s=o∧PartS (c::t) (s - o) r
def sumV (F:Mat) (S:List SpotT):List Nat→List Nat→Int
 | b::bs,x::xs=>(bestV F S 5 b x).1 + sumV F S bs xs
 | _,_=>0
def shareD (G:Mat) (S:List SpotT):List Nat→Nat→Int
 | [],_=>neverW
 | [b],s=>(bestD G S b s).2
 | b::c::t,s=>(List.range (s + 1)).foldl (fun a o=>if o &&& s=o then min a (wr ((bestD G S b o).2 + shareD G S (c::t) (s - o))) else a) neverW
end Go.Ab
namespace Go.Ab
open Go.RowKit Go.Proofs
set_option maxHeartbeats 8000000
set_option maxRecDepth 20000
attribute [local irreducible] WalkL Walk
def natsI (l:List Nat):List Int:=l.map fun (i:Nat)=>(i:Int)
theorem z692 (l:List Nat):(natsI l).length=l.length:=by simp [natsI]
def ordRows (L:List (List Nat)):List (List DV):=slRows (L.map natsI)
def eleTo (s i:Nat):List Nat:=(List.range i).filter fun j=>s.testBit j
end Go.Ab
namespace Go.Ab
open Go.RowKit Go.Proofs
set_option maxHeartbeats 16000000
set_option maxRecDepth 20000
attribute [local irreducible] WalkL Walk
def conflL (n:Net) (x:Missed):List Nat:=if openX n x≠0 then [] else if possB n x then [] else keptF n x x.clues.length
def conflE (n:Net) (x:Missed):Int:=if openX n x≠0 then openX n x else if possB n x then 3 else 0
theorem z1282 (cl:List Clue) (h0:cl≠[]) (hl:cl.length<2 ^ 30):FnG Tryd.prog 77 [] [] (List.map AV.d [.sl (cl.map Clue.row)]) (.own 0) [.arr 44 3 (cl.map Clue.row)]:=by
 cases cl with
 | nil=>exact absurd rfl h0
 | cons c cl=>exact z1283 c cl hl
theorem z346 (x:Missed):∀ l:List Nat,(∀ i ∈ l,i<x.clues.length)→(getC x l).length=l.length
 | [],_=>rfl
 | i::l,h=>by
  have ih:=z346 x l fun j hj=>h j (by simp [hj])
  have hi:=h i (by simp)
  rw [getC] at ih ⊢
  rw [List.filterMap_cons,List.getElem?_eq_getElem hi]
  simp [ih]
theorem z1356 (n:Net) (x:Missed) (hs:n.Small) (hl:x.clues.length<2 ^ 30):Fn Tryd.prog 39 [.agg n.cells,.agg x.row] (.tup [.sl (intRows (natsI (conflL n x))),.i (conflE n x)]):=by
 by_cases ho:openX n x=0
 ·have h48:=z1286 n x hs hl ho
  have hx:=z146 hl ho
  have hw0:withC x x.clues=x:=rfl
  have h75:∀ cl:List Clue,cl.length<2 ^ 30→Fn Tryd.prog 75 [.ptr [.i n.places,.sl (n.paths.map Path.row),timesD n x.party,.i x.party.grade,.i x.party.load,.i x.party.pace.lo,.i x.party.pace.hi,.i x.place,.i x.start,.i x.now,.i x.rest,.sl (cl.map Clue.row)] 0] (.bool (possB n (withC x cl))):=fun cl h=>z1346 n (withC x cl) (z162 hx h)
  have h75x:=h75 x.clues hl
  rw [hw0] at h75x
  rw [huntC] at h48
  obtain⟨T,hT⟩:∃ T,T=timesD n x.party:=⟨_,rfl⟩
  rw [← hT] at h48 h75x
  simp only [← hT] at h75
  by_cases hp:possB n x=true
  ·have e1:conflL n x=[]:=by rw [conflL,if_neg (fun h=>h ho),if_pos hp]
   have e2:conflE n x=3:=by rw [conflE,if_neg (fun h=>h ho),if_pos hp]
   rw [e1,e2]
   rw [hp] at h75x
   refine z11 62 Tryd.call39 Tryd.func39 rfl (by decide) fun J=>?_
   simp only [go_sem,St.start,Tryd.ntmps39,Tryd.results39,Net.cells,Missed.row]
   repeat (first|refine z25 ?_|refine z36 ?_)
   repeat (first|refine nx ?_|(refine z3 fun K hK=>?_;simp only [go_sem];apply hK;clear hK K))
   refine z3 fun K hK=>?_
   simp only [go_sem]
   refine⟨_,.made (news:=[14]) (hf:=h48) (hd:=rfl) (hn:=by decide) (hl:=rfl) (hnew:=rfl) (hx:=rfl),?_⟩
   simp only [go_sem,List.map_cons,List.map_nil]
   apply hK
   clear hK K
   repeat (first|refine nx ?_|(refine z3 fun K hK=>?_;simp only [go_sem];(repeat (first|(refine⟨_,.lent (hf:=h75x) (hd:=rfl) (hr:=rfl),?_⟩;simp only [go_sem])|(refine⟨_,.given (hf:=h75x) (hd:=rfl) (ha:=rfl),?_⟩;simp only [go_sem])));apply hK;clear hK K))
   refine z9 (by rfl) ?_
   repeat (first|refine nx ?_|(refine z3 fun K hK=>?_;simp only [go_sem];apply hK;clear hK K))
   refine z9 (by rfl) ?_
   repeat (first|refine nx ?_|(refine z3 fun K hK=>?_;simp only [go_sem];apply hK;clear hK K))
   simp only [go_sem,intRows,natsI,List.map_nil]
  ·have hp:possB n x=false:=by simpa using hp
   have e1:conflL n x=keptF n x x.clues.length:=by rw [conflL,if_neg (fun h=>h ho),hp,if_neg (by decide)]
   have e2:conflE n x=0:=by rw [conflE,if_neg (fun h=>h ho),hp,if_neg (by decide)]
   rw [e1,e2]
   rw [hp] at h75x
   have hcl:(x.clues.map Clue.row).length=x.clues.length:=by simp
   refine z11 62 Tryd.call39 Tryd.func39 rfl (by decide) fun J=>?_
   simp only [go_sem,St.start,Tryd.ntmps39,Tryd.results39,Net.cells,Missed.row]
   repeat (first|refine z25 ?_|refine z36 ?_)
   repeat (first|refine nx ?_|(refine z3 fun K hK=>?_;simp only [go_sem];apply hK;clear hK K))
   refine z3 fun K hK=>?_
   simp only [go_sem]
   refine⟨_,.made (news:=[14]) (hf:=h48) (hd:=rfl) (hn:=by decide) (hl:=rfl) (hnew:=rfl) (hx:=rfl),?_⟩
   simp only [go_sem,List.map_cons,List.map_nil]
   apply hK
   clear hK K
   repeat (first|refine nx ?_|(refine z3 fun K hK=>?_;simp only [go_sem];(repeat (first|(refine⟨_,.lent (hf:=h75x) (hd:=rfl) (hr:=rfl),?_⟩;simp only [go_sem])|(refine⟨_,.given (hf:=h75x) (hd:=rfl) (ha:=rfl),?_⟩;simp only [go_sem])));apply hK;clear hK K))
   refine z5 (by rfl) ?_
   repeat (first|refine nx ?_|(refine z3 fun K hK=>?_;simp only [go_sem];apply hK;clear hK K))
   refine z5 (by rfl) ?_
   repeat (first|refine nx ?_|(refine z3 fun K hK=>?_;simp only [go_sem,hcl];apply hK;clear hK K))
   refine z13 (fun (i:Nat)=>[(29,.d (.i (i:Int))),(8,.own 55),(9,.undef),(10,.undef)]) (fun i=>[(55,some (.arr 3 1 (intRows (natsI (keptF n x i))))),(14,some (.box [.d (.i n.places),.d (.sl (n.paths.map Path.row)),.d T,.d (.i x.party.grade),.d (.i x.party.load),.d (.i x.party.pace.lo),.d (.i x.party.pace.hi),.d (.i x.place),.d (.i x.start),.d (.i x.now),.d (.i x.rest),.d (.sl ((getC x (keptF n x i)++x.clues.drop i).map Clue.row))]))])
    (fun i=>i≤x.clues.length) (fun i=>x.clues.length - i) 0 ?_ (Nat.zero_le _) ?_
   ·simp only [go_sem,keptF,natsI,intRows,List.map_nil,getC,List.filterMap_nil,List.nil_append,List.drop_zero]
    refine z56 [55] ?_ ?_ rfl rfl <;> simp [lessT,lessM,lessB,AV.less]
   ·intro i hi
    have hKlt:=z201 n x i
    have hKlen:=z223 n x i
    have hsucc:keptF n x (i + 1)=if possB n (withC x (getC x (keptF n x i)++x.clues.drop (i + 1))) then keptF n x i++[i] else keptF n x i:=rfl
    obtain⟨KL,hKL⟩:∃ KL,KL=keptF n x i:=⟨_,rfl⟩
    rw [← hKL] at hKlt hKlen hsucc ⊢
    have hgl:=z346 x KL (fun j hj=>by have:=hKlt j hj;omega)
    have hkl:(intRows (natsI KL)).length=KL.length:=by rw [z16,z692]
    simp only [go_sem]
    repeat (first|refine nx ?_|(refine z3 fun K hK=>?_;simp only [go_sem];apply hK;clear hK K))
    refine z6 rfl (fun hb=>?_) (fun hb=>?_)
    ·have hlt:i<x.clues.length:=by simpa using hb
     have hw:IntKind.i64.wrap ((i:Int) + 1)=((i + 1:Nat):Int):=by rw [z10 (by omega)];simp
     have hne:getC x KL++x.clues.drop i≠[]:=fun h=>by
      have:=congrArg List.length h
      simp at this
      omega
     have hlen:(getC x KL++x.clues.drop i).length<2 ^ 30:=by rw [List.length_append,List.length_drop,hgl];omega
     have hlen2:(getC x KL++x.clues.drop (i + 1)).length<2 ^ 30:=by rw [List.length_append,List.length_drop,hgl];omega
     have hrl:((getC x KL++x.clues.drop i).map Clue.row).length=KL.length + (x.clues.length - i):=by rw [List.length_map,List.length_append,List.length_drop,hgl]
     have hdel:((getC x KL++x.clues.drop i).map Clue.row).take KL.length++((getC x KL++x.clues.drop i).map Clue.row).drop (KL.length + 1)=(getC x KL++x.clues.drop (i + 1)).map Clue.row:=by
      rw [← List.map_take,← List.map_drop,← List.map_append]
      congr 1
      rw [List.take_append_of_le_length (by omega),List.take_of_length_le (by omega),List.drop_append]
      rw [List.drop_eq_nil_of_le (by omega),List.nil_append,List.drop_drop]
      congr 2
      omega
     have h77:=z1282 _ hne hlen
     have h76:=z1345 ((getC x KL++x.clues.drop i).map Clue.row) KL.length (by omega)
     rw [hdel] at h76
     have h75i:=h75 _ hlen2
     have hwk:IntKind.i64.wrap ((KL.length:Int) + 1)=((KL.length + 1:Nat):Int):=by rw [z10 (by omega)];simp
     have hk1:KL.length≤549755813887:=by omega
     obtain⟨R1,hR1⟩:∃ R,R=(getC x KL++x.clues.drop i).map Clue.row:=⟨_,rfl⟩
     obtain⟨R2,hR2⟩:∃ R,R=(getC x KL++x.clues.drop (i + 1)).map Clue.row:=⟨_,rfl⟩
     rw [← hR1] at h77 h76
     rw [← hR2] at h76 h75i
     rw [← hR1]
     clear hdel hrl hlen hlen2 hne
     repeat (first|refine nx ?_|(refine z3 fun K hK=>?_;simp only [go_sem];apply hK;clear hK K))
     refine z3 fun K hK=>?_
     simp only [go_sem,hkl,hwk]
     refine⟨_,.made (news:=[39]) (hf:=h77) (hd:=rfl) (hn:=by decide) (hl:=rfl) (hnew:=rfl) (hx:=rfl),?_⟩
     simp only [go_sem,List.map_cons,List.map_nil,hkl,hwk]
     refine⟨_,.own (ns:=[39]) (news:=[]) (bads:=[39]) (rd:=[]) (hf:=h76) (hnd:=by decide) (hl0:=rfl) (hl1:=rfl) (hm:=by repeat (first|exact trivial|refine And.intro ?_ ?_|rfl)) (hnew:=rfl) (hla:=rfl) (ha:=z59 (by repeat (first|exact trivial|refine And.intro ?_ ?_|exact z75 rfl|exact z50 rfl rfl))) (hrd:=rfl) (hsh:=z169 _) (hb:=rfl) (hfl:=.inl rfl),?_⟩
     simp only [go_sem,List.map_cons,List.map_nil,hkl,hwk]
     apply hK
     clear hK K
     refine z94 [39] ?_
     simp only [go_sem]
     repeat (first|refine nx ?_|(refine z3 fun K hK=>?_;simp only [go_sem];(repeat (first|(refine⟨_,.lent (hf:=h75i) (hd:=rfl) (hr:=rfl),?_⟩;simp only [go_sem])|(refine⟨_,.given (hf:=h75i) (hd:=rfl) (ha:=rfl),?_⟩;simp only [go_sem])));apply hK;clear hK K))
     by_cases hq:possB n (withC x (getC x KL++x.clues.drop (i + 1)))=true
     ·rw [if_pos hq] at hsucc
      have e:intRows (natsI (KL++[i]))=intRows (natsI KL)++[[.i (i:Int)]]:=by simp [natsI,intRows]
      have eg:(getC x (KL++[i])++x.clues.drop (i + 1)).map Clue.row=R1:=by
       rw [hR1,z347,List.append_assoc]
       congr 2
       obtain⟨c,hc⟩:∃ c,x.clues[i]?=some c:=⟨_,List.getElem?_eq_getElem hlt⟩
       rw [z58 hc]
       simp [getC,hc]
      simp only [go_sem,hq]
      refine z9 (by rfl) ?_
      repeat (first|refine nx ?_|(refine z3 fun K hK=>?_;simp only [go_sem,hkl,hk1,hw];apply hK;clear hK K))
      refine⟨rfl,i + 1,?_,hlt,by omega⟩
      rw [hsucc,e,eg]
      try simp only [go_sem]
      refine weA ?_ ?_ <;> simp
     ·have hq:possB n (withC x (getC x KL++x.clues.drop (i + 1)))=false:=by simpa using hq
      rw [hq,if_neg (by decide)] at hsucc
      simp only [go_sem,hq]
      refine z5 (by rfl) ?_
      repeat (first|refine nx ?_|(refine z3 fun K hK=>?_;simp only [go_sem,hw];apply hK;clear hK K))
      refine⟨rfl,i + 1,?_,hlt,by omega⟩
      rw [hsucc,← hR2]
      try simp only [go_sem]
      refine weA ?_ ?_ <;> simp
    ·have he:i=x.clues.length:=by (have:¬ i<x.clues.length:=by simpa using hb);omega
     subst he
     rw [← hKL]
     repeat (first|refine nx ?_|(refine z3 fun K hK=>?_;simp only [go_sem];apply hK;clear hK K))
     simp only [go_sem]
 ·have h48:=z1336 n x hs hl
  rw [openD,if_neg ho] at h48
  have e1:conflL n x=[]:=by rw [conflL,if_pos ho]
  have e2:conflE n x=openX n x:=by rw [conflE,if_pos ho]
  rw [e1,e2]
  have d1:(openX n x == 0)=false:=by simpa using ho
  have d2:(openX n x != 0)=true:=by simpa using ho
  refine z11 62 Tryd.call39 Tryd.func39 rfl (by decide) fun J=>?_
  simp only [go_sem,St.start,Tryd.ntmps39,Tryd.results39,Net.cells,Missed.row]
  repeat (first|refine nx ?_|(refine z3 fun K hK=>?_;simp only [go_sem,d1,d2];(repeat (first|(refine⟨_,.lent (hf:=h48) (hd:=rfl) (hr:=rfl),?_⟩;simp only [go_sem,d1,d2])|(refine⟨_,.given (hf:=h48) (hd:=rfl) (ha:=rfl),?_⟩;simp only [go_sem,d1,d2])));apply hK;clear hK K))
  refine z5 (by rfl) ?_
  repeat (first|refine nx ?_|(refine z3 fun K hK=>?_;simp only [go_sem,d1,d2];apply hK;clear hK K))
  refine z9 (by rfl) ?_
  repeat (first|refine nx ?_|(refine z3 fun K hK=>?_;simp only [go_sem];apply hK;clear hK K))
  simp only [go_sem,intRows,natsI,List.map_nil]
end Go.Ab
namespace Go.Ab
open Go.RowKit Go.Proofs
set_option maxHeartbeats 2000000
theorem z434 {n:Net} {z:Missed} (hl:z.clues.length<2 ^ 30) (ho:openX n z=0):(whereC n z).2.2=if possB n z then 0 else 3:=by
 have hz:=z146 hl ho
 rw [whereC,if_neg (fun h=>h ho)]
 by_cases hp:possB n z=true
 ·rw [hp,if_pos rfl,if_neg]
  rintro⟨h1,h2⟩
  rcases (z214 hz).1 hp with ⟨p,hq⟩ | ⟨k,hq⟩
  ·have:=(z436 hz).2 hq
   rw [h1] at this
   simp at this
  ·have:=(z435 hz).2 hq
   rw [h2] at this
   simp at this
 ·rw [if_neg hp,if_pos]
  constructor
  ·cases hP:whereP n z with
   | nil=>rfl
   | cons p l=>exact absurd ((z214 hz).2 (.inl ⟨p,(z436 hz).1 (by rw [hP];simp)⟩)) hp
  ·cases hP:whereW n z with
   | nil=>rfl
   | cons p l=>exact absurd ((z214 hz).2 (.inr ⟨p,(z435 hz).1 (by rw [hP];simp)⟩)) hp
theorem z1150 {n:Net} {x:Missed} {cl:List Clue} (ho:openX n x=0) (hs:∀ c ∈ cl,c ∈ x.clues) (hl:cl.length≤x.clues.length):openX n (withC x cl)=0:=by
 have h1:checkPartyF n x.party=0:=by
  by_cases h:checkPartyF n x.party=0
  ·exact h
  ·simp [openX,h] at ho
 have h2:badHunt n x=false:=by
  cases h:badHunt n x
  ·rfl
  ·simp [openX,h1,h] at ho
 have h3:(decide ((x.clues.length:Int) > 12) || x.clues.any (wrongC n x))=false:=by
  cases h:(decide ((x.clues.length:Int) > 12) || x.clues.any (wrongC n x))
  ·rfl
  ·simp only [openX,h1,h2,h] at ho
   simp at ho
 rw [Bool.or_eq_false_iff,decide_eq_false_iff_not,List.any_eq_false] at h3
 have h4:(decide ((cl.length:Int) > 12) || cl.any (wrongC n x))=false:=by
  rw [Bool.or_eq_false_iff,decide_eq_false_iff_not,List.any_eq_false]
  exact⟨by omega,fun c hc=>h3.2 c (hs c hc)⟩
 have e1:checkPartyF n (withC x cl).party=0:=h1
 have e2:badHunt n (withC x cl)=false:=h2
 have e3:(decide (((withC x cl).clues.length:Int) > 12) || (withC x cl).clues.any (wrongC n (withC x cl)))=false:=h4
 rw [openX,if_neg (fun h=>h e1),e2,e3]
 rfl
theorem z150 (n:Net) (x:Missed):∀ m:Nat,(keptF n x m).Pairwise (·<·)
 | 0=>List.Pairwise.nil
 | m + 1=>by
  rw [keptF]
  split
  ·rw [List.pairwise_append]
   exact⟨z150 n x m,by simp,fun a ha b hb=>by simp at hb;subst hb;exact z201 n x _ a ha⟩
  ·exact z150 n x m
theorem z873 {n:Net} {x:Missed} {i:Nat}:∀ m:Nat,i ∈ keptF n x m→possB n (withC x (getC x (keptF n x i)++x.clues.drop (i + 1)))=true∧∀ k ∈ keptF n x m,k≠i→k ∈ keptF n x i∨i<k
 | 0,h=>by simp [keptF] at h
 | m + 1,h=>by
  rw [keptF] at h
  split at h
  ·rename_i hp
   rw [List.mem_append] at h
   rcases h with h | h
   ·obtain⟨h1,h2⟩:=z873 m h
    refine⟨h1,fun k hk hne=>?_⟩
    rw [keptF,if_pos hp,List.mem_append] at hk
    rcases hk with hk | hk
    ·exact h2 k hk hne
    ·simp at hk;subst hk
     exact .inr (z201 n x _ i h)
   ·simp at h;subst h
    refine⟨hp,fun k hk hne=>?_⟩
    rw [keptF,if_pos hp,List.mem_append] at hk
    rcases hk with hk | hk
    ·exact .inl hk
    ·simp at hk;exact absurd hk hne
  ·rename_i hp
   obtain⟨h1,h2⟩:=z873 m h
   refine⟨h1,fun k hk hne=>?_⟩
   rw [keptF,if_neg hp] at hk
   exact h2 k hk hne
def clB (x:Missed) (L:List Nat) (but:Int) (k:Nat):List Clue:=(List.range k).filterMap fun (i:Nat)=>if (i:Int)=but then none else (L[i]?).bind fun j=>x.clues[j]?
theorem z1190 (x:Missed) (L:List Nat) (but:Int):clB x L but 0=[]:=rfl
theorem z1191 (x:Missed) (L:List Nat) (but:Int) (k:Nat):clB x L but (k + 1)=clB x L but k++(if (k:Int)=but then [] else match (L[k]?).bind fun j=>x.clues[j]? with | some c=>[c] | none=>[]):=by
 rw [clB,clB,List.range_succ,List.filterMap_append,List.filterMap_cons,List.filterMap_nil]
 by_cases h:(k:Int)=but
 ·rw [if_pos h,if_pos h]
 ·rw [if_neg h,if_neg h]
  cases (L[k]?).bind fun j=>x.clues[j]? <;> rfl
theorem z559 (x:Missed) (L:List Nat) (but:Int) (k:Nat):(clB x L but k).length≤k:=by
 have:=List.length_filterMap_le (fun (i:Nat)=>if (i:Int)=but then none else (L[i]?).bind fun j=>x.clues[j]?) (List.range k)
 rw [List.length_range] at this
 exact this
theorem z1105 {x:Missed} {L:List Nat} {but:Int} {k:Nat} {c:Clue} (h:c ∈ clB x L but k):∃ (i j:Nat),(i:Int)≠but∧L[i]?=some j∧x.clues[j]?=some c:=by
 rw [clB,List.mem_filterMap] at h
 obtain⟨i,_,h⟩:=h
 split at h
 ·cases h
 ·rename_i hne
  cases hL:L[i]? with
  | none=>rw [hL] at h;cases h
  | some j=>rw [hL] at h;exact⟨i,j,hne,hL,h⟩
theorem z1239 {x:Missed} {L:List Nat} {but:Int} {k:Nat}:∀ c ∈ clB x L but k,c ∈ x.clues:=fun c hc=>by
 obtain⟨_,j,_,_,h⟩:=z1105 hc
 exact List.mem_of_getElem? h
theorem z1072 {n:Net} {x:Missed} (hl:x.clues.length<2 ^ 30) (ho:openX n x=0) {L:List Nat} (hL:L=keptF n x x.clues.length) (hp:possB n x=false) (but:Int) (hb:-1≤but∧but<L.length) :
  (whereC n (withC x (clB x L but L.length))).2.2=if but<0 then 3 else 0:=by
 have hx:=z146 hl ho
 have hlen:L.length≤x.clues.length:=hL ▸ z223 n x _
 have hcl:=z559 x L but L.length
 have ho':openX n (withC x (clB x L but L.length))=0:=z1150 ho z1239 (by omega)
 rw [z434 (by show (clB x L but L.length).length<2 ^ 30;omega) ho']
 by_cases hb0:but<0
 ·rw [if_pos hb0,if_neg]
  intro hq
  have hn:=z700 hp x.clues.length (Nat.le_refl _)
  rw [List.drop_length,List.append_nil,← hL] at hn
  have:possB n (withC x (getC x L))=true:=z679 hx (by omega) (by have:=z912 x L;omega) (fun c hc=>by
   rw [getC,List.mem_filterMap] at hc
   obtain⟨j,hj,hc⟩:=hc
   obtain⟨i,hi⟩:=List.mem_iff_getElem?.1 hj
   rw [clB,List.mem_filterMap]
   refine⟨i,List.mem_range.2 (List.getElem?_eq_some_iff.1 hi).1,?_⟩
   rw [if_neg (by omega),hi]
   exact hc) hq
  rw [this] at hn
  cases hn
 ·rw [if_neg hb0,if_pos]
  obtain⟨b,rfl⟩:∃ b:Nat,but=b:=⟨but.toNat,by omega⟩
  have hbl:b<L.length:=by omega
  obtain⟨i,hi⟩:∃ i,L[b]?=some i:=⟨_,List.getElem?_eq_getElem hbl⟩
  have him:i ∈ keptF n x x.clues.length:=by rw [← hL];exact List.mem_of_getElem? hi
  obtain⟨h1,h2⟩:=z873 _ him
  have hik:i<x.clues.length:=z201 n x _ i him
  have hki:=z223 n x i
  have hgl:=z912 x (keptF n x i)
  have hs:L.Pairwise (·<·):=by rw [hL];exact z150 n x _
  refine z679 hx ?_ (by omega) (fun c hc=>?_) h1
  ·rw [List.length_append,List.length_drop];omega
  ·obtain⟨a,j,hne,ha,hc⟩:=z1105 hc
   have hji:j≠i:=by
    rintro rfl
    have hn:L.Nodup:=hs.imp (fun h=>by omega)
    have:=z132 hn ha hi
    omega
   rcases h2 j (by rw [← hL];exact List.mem_of_getElem? ha) hji with hj | hj
   ·exact List.mem_append_left _ (List.mem_filterMap.2 ⟨j,hj,hc⟩)
   ·refine List.mem_append_right _ (List.mem_iff_getElem?.2 ⟨j - (i + 1),?_⟩)
    rw [List.getElem?_drop,show i + 1 + (j - (i + 1))=j by omega]
    exact hc
end Go.Ab
namespace Go.Ab
open Go.RowKit Go.Proofs
set_option maxHeartbeats 16000000
set_option maxRecDepth 20000
attribute [local irreducible] WalkL Walk
def butI (a:Nat):Int:=(a:Int) - 1
theorem z1363 (n:Net) (x:Missed) (hs:n.Small) (hcl:x.clues.length<2 ^ 30):Fn Tryd.prog 11 [.agg n.cells,.agg x.row] (.bool true):=by
 have h12:=z1362 n x hs hcl
 have h14:=z1361
 change Fn Tryd.prog 12 _ (.bool (validB n x)) at h12
 cases hv:validB n x
 case false =>
  rw [hv] at h12
  rw [Net.cells] at *
  rw [Missed.row] at *
  refine z11 149 Tryd.call11 Tryd.func11 rfl (by decide) fun J=>?_
  simp only [go_sem,St.start,Tryd.ntmps11,Tryd.results11,Net.cells,Missed.row]
  repeat (first|refine nx ?_|(refine z3 fun K hK=>?_;simp only [go_sem];(repeat (first|(refine⟨_,.lent (hf:=h12) (hd:=rfl) (hr:=rfl),?_⟩;simp only [go_sem])|(refine⟨_,.given (hf:=h12) (hd:=rfl) (ha:=rfl),?_⟩;simp only [go_sem])));apply hK;clear hK K))
  refine z9 (by rfl) ?_
  repeat (first|refine nx ?_|(refine z3 fun K hK=>?_;simp only [go_sem];(repeat (first|(refine⟨_,.lent (hf:=h14) (hd:=rfl) (hr:=rfl),?_⟩;simp only [go_sem])|(refine⟨_,.given (hf:=h14) (hd:=rfl) (ha:=rfl),?_⟩;simp only [go_sem])));apply hK;clear hK K))
  simp only [go_sem]
 case true =>
  have hv2:=hv
  simp only [validB,Bool.and_eq_true,beq_iff_eq] at hv2
  obtain⟨_,ho⟩:=hv2
  have h39:=z1356 n x hs hcl
  have h15:=z1290 n x hs hcl
  have h15c:∀ cl:List Clue,cl.length<2 ^ 30→Fn Tryd.prog 15 [.agg [.i n.places,.sl (n.paths.map Path.row)],.agg [.i x.party.grade,.i x.party.load,.i x.party.pace.lo,.i x.party.pace.hi,.i x.place,.i x.start,.i x.now,.i x.rest,.sl (cl.map Clue.row)]]
    (.tup [.sl (intRows (whereC n (withC x cl)).1),.sl (intRows (whereC n (withC x cl)).2.1),.i (whereC n (withC x cl)).2.2]):=fun cl h=>z1290 n (withC x cl) hs h
  have hwc:=z434 hcl ho
  rw [whereD] at h15
  obtain⟨L,hL⟩:∃ L,L=conflL n x:=⟨_,rfl⟩
  obtain⟨e,he⟩:∃ e,e=conflE n x:=⟨_,rfl⟩
  rw [← hL,← he] at h39
  obtain⟨f,hf⟩:∃ f,f=(whereC n x).2.2:=⟨_,rfl⟩
  rw [← hf] at h15 hwc
  have hLlt:∀ j ∈ L,j<x.clues.length:=by
   intro j hj
   rw [hL,conflL,if_neg (fun h=>h ho)] at hj
   split at hj
   ·cases hj
   ·exact z201 n x _ j hj
  have hLlen:L.length≤x.clues.length:=by
   rw [hL,conflL,if_neg (fun h=>h ho)]
   split
   ·simp
   ·exact z223 n x _
  have hLs:L.Pairwise (·<·):=by
   rw [hL,conflL,if_neg (fun h=>h ho)]
   split
   ·exact List.Pairwise.nil
   ·exact z150 n x _
  have hef:(e=3∧f=0)∨(e=0∧f=3∧L=keptF n x x.clues.length∧possB n x=false):=by
   have c1:conflE n x=if possB n x then 3 else 0:=by rw [conflE];exact if_neg (fun h=>h ho)
   have c2:conflL n x=if possB n x then [] else keptF n x x.clues.length:=by rw [conflL];exact if_neg (fun h=>h ho)
   rw [hL,he,hwc,c1,c2]
   cases hp:possB n x
   ·exact .inr ⟨rfl,rfl,rfl,rfl⟩
   ·exact .inl ⟨rfl,rfl⟩
  have hl1:(intRows (natsI L)).length=L.length:=by rw [z16,z692]
  have hl2:(x.clues.map Clue.row).length=x.clues.length:=by simp
  have d1:decide ((L.length:Int) > (x.clues.length:Int))=false:=decide_eq_false (by omega)
  obtain⟨A1,hA1⟩:∃ A,A=(whereC n x).1:=⟨_,rfl⟩
  obtain⟨A2,hA2⟩:∃ A,A=(whereC n x).2.1:=⟨_,rfl⟩
  rw [← hA1,← hA2] at h15
  have hgood:((e == 3) != (f == 0))=false∧((e != 0)=false∨(e != 3)=false):=by
   rcases hef with ⟨rfl,rfl⟩ | ⟨rfl,rfl,_⟩
   ·exact⟨by decide,.inr (by decide)⟩
   ·exact⟨by decide,.inl (by decide)⟩
  rw [hv] at h12
  rw [Net.cells] at *
  rw [Missed.row] at h12 h39 h15 ⊢
  refine z11 149 Tryd.call11 Tryd.func11 rfl (by decide) fun J=>?_
  simp only [go_sem,St.start,Tryd.ntmps11,Tryd.results11,]
  repeat (first|refine nx ?_|(refine z3 fun K hK=>?_;simp only [go_sem];(repeat (first|(refine⟨_,.lent (hf:=h12) (hd:=rfl) (hr:=rfl),?_⟩;simp only [go_sem])|(refine⟨_,.given (hf:=h12) (hd:=rfl) (ha:=rfl),?_⟩;simp only [go_sem])));apply hK;clear hK K))
  refine z5 (by rfl) ?_
  repeat (first|refine nx ?_|(refine z3 fun K hK=>?_;simp only [go_sem];(repeat (first|(refine⟨_,.lent (hf:=h39) (hd:=rfl) (hr:=rfl),?_⟩;simp only [go_sem])|(refine⟨_,.given (hf:=h39) (hd:=rfl) (ha:=rfl),?_⟩;simp only [go_sem])));apply hK;clear hK K))
  repeat (first|refine nx ?_|(refine z3 fun K hK=>?_;simp only [go_sem];(repeat (first|(refine⟨_,.lent (hf:=h15) (hd:=rfl) (hr:=rfl),?_⟩;simp only [go_sem])|(refine⟨_,.given (hf:=h15) (hd:=rfl) (ha:=rfl),?_⟩;simp only [go_sem])));apply hK;clear hK K))
  refine z18 [(55,.d (.bool false))] [] ?_ ?_
  ·rcases hef with ⟨rfl,rfl⟩ | ⟨rfl,rfl,_⟩
   ·repeat (first|refine nx ?_|(refine z3 fun K hK=>?_;simp only [go_sem,hl1,hl2,d1];apply hK;clear hK K))
    refine⟨rfl,?_⟩
    simp only [go_sem]
    refine weA ?_ ?_ <;> simp
   ·repeat (first|refine nx ?_|(refine z3 fun K hK=>?_;simp only [go_sem,hl1,hl2,d1];apply hK;clear hK K))
    refine⟨rfl,?_⟩
    simp only [go_sem]
    refine weA ?_ ?_ <;> simp
  ·simp only [go_sem]
   refine z5 (by rfl) ?_
   repeat (first|refine nx ?_|(refine z3 fun K hK=>?_;simp only [go_sem];apply hK;clear hK K))
   refine z13 (fun (i:Nat)=>[(10,.d (.i (i:Int)))]) (fun _=>[]) (fun i=>i≤L.length) (fun i=>L.length - i) 0 ?_ (Nat.zero_le _) ?_
   ·simp only [go_sem]
    refine weA ?_ ?_ <;> simp
   ·intro i hi
    simp only [go_sem]
    repeat (first|refine nx ?_|(refine z3 fun K hK=>?_;simp only [go_sem,hl1];apply hK;clear hK K))
    refine z6 rfl (fun hb=>?_) (fun hb=>?_)
    ·have hlt:i<L.length:=by simpa using hb
     have hw:IntKind.i64.wrap ((i:Int) + 1)=((i + 1:Nat):Int):=by rw [z10 (by omega)];simp
     obtain⟨j,hj⟩:∃ j,L[i]?=some j:=⟨_,List.getElem?_eq_getElem hlt⟩
     have hjl:=hLlt j (List.mem_of_getElem? hj)
     have g1:(intRows (natsI L))[i]?=some [.i (j:Int)]:=by simp [intRows,natsI,hj]
     have nk:¬ ((i:Int)<0):=by omega
     have d3:decide ((j:Int)<0)=false:=decide_eq_false (by omega)
     have d4:decide ((j:Int) ≥ (x.clues.length:Int))=false:=decide_eq_false (by omega)
     repeat refine nx ?_
     refine z18 [(92,.d (.bool false))] [] ?_ ?_
     ·by_cases h0:i=0
      ·have d5:decide ((i:Int) > 0)=false:=decide_eq_false (by omega)
       repeat refine nx ?_
       refine z8 (by kernel_rfl) (by kernel_rfl) fun K hK=>?_
       simp only [go_sem,g1,nk,hlt,hl1,hl2,d3,d4,d5]
       refine⟨by kernel_rfl,hK _ ?_⟩
       clear hK K
       refine z7 ?_
       refine z4 ?_
       refine⟨rfl,?_⟩
       simp only [go_sem]
       refine weA ?_ ?_ <;> simp
      ·have d5:decide ((i:Int) > 0)=true:=decide_eq_true (by omega)
       have hwm:IntKind.i64.wrap ((i:Int) - 1)=((i - 1:Nat):Int):=by rw [z10 (by omega)];omega
       obtain⟨q,hq⟩:∃ q,L[i - 1]?=some q:=⟨_,List.getElem?_eq_getElem (by omega)⟩
       have g2:(intRows (natsI L))[i - 1]?=some [.i (q:Int)]:=by simp [intRows,natsI,hq]
       have nk2:¬ (((i - 1:Nat):Int)<0):=by omega
       have hl3:i - 1<L.length:=by omega
       have hqj:q<j:=by
        obtain⟨r1,r2⟩:=List.getElem?_eq_some_iff.1 hj
        obtain⟨r3,r4⟩:=List.getElem?_eq_some_iff.1 hq
        rw [← r2,← r4]
        exact List.pairwise_iff_getElem.1 hLs (i - 1) i r3 r1 (by omega)
       have d6:decide ((j:Int)≤(q:Int))=false:=decide_eq_false (by omega)
       repeat refine nx ?_
       refine z8 (by kernel_rfl) (by kernel_rfl) fun K hK=>?_
       simp only [go_sem,g1,g2,nk,nk2,hlt,hl3,hwm,hl1,hl2,d3,d4,d5,d6]
       refine⟨by kernel_rfl,hK _ ?_⟩
       clear hK K
       refine z7 ?_
       refine z4 ?_
       refine⟨rfl,?_⟩
       simp only [go_sem]
       refine weA ?_ ?_ <;> simp
     ·simp only [go_sem]
      refine z5 (by rfl) ?_
      repeat (first|refine nx ?_|(refine z3 fun K hK=>?_;simp only [go_sem,hw];apply hK;clear hK K))
      refine⟨rfl,i + 1,?_,hlt,by omega⟩
      try simp only [go_sem]
      refine weA ?_ ?_ <;> simp
    ·rcases hef with ⟨rfl,rfl⟩ | ⟨rfl,rfl,hLk,hp⟩
     ·repeat (first|refine nx ?_|(refine z3 fun K hK=>?_;simp only [go_sem];apply hK;clear hK K))
      refine z13 (fun (_:Unit)=>[]) (fun _=>[]) (fun _=>True) (fun _=>0) () ?_ trivial ?_
      ·simp only [go_sem]
       refine weA ?_ ?_ <;> simp
      ·rintro _ _
       simp only [go_sem]
       repeat (first|refine nx ?_|(refine z3 fun K hK=>?_;simp only [go_sem];apply hK;clear hK K))
       refine z5 (by rfl) ?_
       repeat (first|refine nx ?_|(refine z3 fun K hK=>?_;simp only [go_sem];(repeat (first|(refine⟨_,.lent (hf:=h14) (hd:=rfl) (hr:=rfl),?_⟩;simp only [go_sem])|(refine⟨_,.given (hf:=h14) (hd:=rfl) (ha:=rfl),?_⟩;simp only [go_sem])));apply hK;clear hK K))
       simp only [go_sem]
     ·repeat (first|refine nx ?_|(refine z3 fun K hK=>?_;simp only [go_sem];apply hK;clear hK K))
      have hlaw:=fun but h=>z1072 hcl ho hLk hp but h
      have e0:butI 0=-1:=rfl
      have hlr:∀ but k,((clB x L but k).map Clue.row).length≤k:=fun but k=>by rw [List.length_map];exact z559 x L but k
      refine z13 (fun (a:Nat)=>[(11,.d (.i (butI a))),(12,.undef),(13,.undef),(14,.undef),(15,.undef),(16,.undef)]) (fun _=>[(12,none),(125,none)]) (fun a=>a≤L.length + 1) (fun a=>L.length + 1 - a) 0 ?_ (Nat.zero_le _) ?_
      ·simp only [go_sem,e0]
       refine weA ?_ ?_ <;> simp
      ·intro a ha
       have hba:butI a=(a:Int) - 1:=rfl
       obtain⟨B,hB⟩:∃ B,B=butI a:=⟨_,rfl⟩
       have hnx:IntKind.i64.wrap (B + 1)=butI (a + 1):=by rw [hB,z10 (by omega),butI,butI];omega
       rw [← hB] at hba ⊢
       simp only [go_sem]
       by_cases hal:B<(L.length:Int)
       ·have d7:decide (B<(L.length:Int))=true:=decide_eq_true hal
        have hg:=hlaw B ⟨by omega,hal⟩
        have h15b:=h15c (clB x L B L.length) (by have:=z559 x L B L.length;omega)
        rw [hg] at h15b
        repeat (first|refine nx ?_|(refine z3 fun K hK=>?_;simp only [go_sem,hl1,d7];apply hK;clear hK K))
        refine z9 (by rfl) ?_
        repeat (first|refine nx ?_|(refine z3 fun K hK=>?_;simp only [go_sem];apply hK;clear hK K))
        refine z13 (fun (k:Nat)=>[(13,.d (.i (k:Int)))]) (fun k=>[(125,some (.arr 44 3 ((clB x L B k).map Clue.row))),(12,some (.box [.d (.i x.party.grade),.d (.i x.party.load),.d (.i x.party.pace.lo),.d (.i x.party.pace.hi),.d (.i x.place),.d (.i x.start),.d (.i x.now),.d (.i x.rest),.own 125]))])
         (fun k=>k≤L.length) (fun k=>L.length - k) 0 ?_ (Nat.zero_le _) ?_
        ·simp only [go_sem,z1190,List.map_nil]
         refine z56 [125] ?_ ?_ ?_ ?_
         ·simp [lessT,z79,AV.less]
         ·simp [lessM,lessB,lessT,z79,AV.less]
         ·first | rfl | simp [liveB,AV.refs,AV.refs.AV.refss]
         ·first | rfl | simp [liveM,liveB,AV.refs,AV.refs.AV.refss]
        ·intro k hk
         simp only [go_sem]
         repeat (first|refine nx ?_|(refine z3 fun K hK=>?_;simp only [go_sem,hl1];apply hK;clear hK K))
         refine z6 rfl (fun hb=>?_) (fun hb=>?_)
         ·have hlt:k<L.length:=by simpa using hb
          have hw:IntKind.i64.wrap ((k:Int) + 1)=((k + 1:Nat):Int):=by rw [z10 (by omega)];simp
          obtain⟨j,hj⟩:∃ j,L[k]?=some j:=⟨_,List.getElem?_eq_getElem hlt⟩
          have hjl:=hLlt j (List.mem_of_getElem? hj)
          obtain⟨c,hc⟩:∃ c,x.clues[j]?=some c:=⟨_,List.getElem?_eq_getElem hjl⟩
          have g1:(intRows (natsI L))[k]?=some [.i (j:Int)]:=by simp [intRows,natsI,hj]
          have g2:(x.clues.map Clue.row)[j]?=some [.i c.minute,.i c.places,.bool c.seen]:=by rw [List.getElem?_map,hc];rfl
          have nk:¬ ((k:Int)<0):=by omega
          have nj:¬ ((j:Int)<0):=by omega
          have hsu:=z1191 x L B k
          rw [hj] at hsu
          have hlk:=hlr B k
          have hlk3:(clB x L B k).length≤549755813887:=by have:=z559 x L B k;omega
          have hlk2:((clB x L B k).map Clue.row).length≤549755813887:=by omega
          by_cases hkb:(k:Int)=B
          ·have d8:((k:Int) != B)=false:=by simp [hkb]
           rw [if_pos hkb,List.append_nil] at hsu
           repeat (first|refine nx ?_|(refine z3 fun K hK=>?_;simp only [go_sem,d8];apply hK;clear hK K))
           refine z5 (by rfl) ?_
           repeat (first|refine nx ?_|(refine z3 fun K hK=>?_;simp only [go_sem,hw];apply hK;clear hK K))
           refine⟨rfl,k + 1,?_,hlt,by omega⟩
           rw [hsu]
           try simp only [go_sem]
           refine weA ?_ ?_ <;> simp
          ·have d8:((k:Int) != B)=true:=by simp [hkb]
           have hc2:(((some j:Option Nat).bind fun j=>x.clues[j]?):Option Clue)=some c:=hc
           rw [if_neg hkb,hc2] at hsu
           have e3:(clB x L B k++[c]).map Clue.row=(clB x L B k).map Clue.row++[[.i c.minute,.i c.places,.bool c.seen]]:=by rw [List.map_append];rfl
           repeat (first|refine nx ?_|(refine z3 fun K hK=>?_;simp only [go_sem,d8];apply hK;clear hK K))
           refine z9 (by rfl) ?_
           repeat refine nx ?_
           refine z273 (by kernel_rfl) (by kernel_rfl) fun K hK=>?_
           simp only [go_sem,g1,g2,nk,nj,hlt,hjl,hl1,hl2,hlk2,hlk3]
           refine⟨by kernel_rfl,hK _ ?_⟩
           clear hK K
           repeat (first|refine nx ?_|(refine z3 fun K hK=>?_;simp only [go_sem,hw];apply hK;clear hK K))
           refine⟨rfl,k + 1,?_,hlt,by omega⟩
           rw [hsu]
           dsimp only
           rw [e3]
           try simp only [go_sem]
           refine weA ?_ ?_ <;> simp
         ·have he:k=L.length:=by (have:¬ k<L.length:=by simpa using hb);omega
          subst he
          repeat (first|refine nx ?_|(refine z3 fun K hK=>?_;simp only [go_sem];(repeat (first|(refine⟨_,.lent (hf:=h15b) (hd:=rfl) (hr:=rfl),?_⟩;simp only [go_sem])|(refine⟨_,.given (hf:=h15b) (hd:=rfl) (ha:=rfl),?_⟩;simp only [go_sem])));apply hK;clear hK K))
          by_cases hB0:B<0
          ·have d9:decide (B<0)=true:=decide_eq_true hB0
           have d10:decide (B ≥ 0)=false:=decide_eq_false (by omega)
           simp only [go_sem,if_pos hB0]
           repeat (first|refine nx ?_|(refine z3 fun K hK=>?_;simp only [go_sem,d9,d10];apply hK;clear hK K))
           refine z5 (by rfl) ?_
           repeat (first|refine nx ?_|(refine z3 fun K hK=>?_;simp only [go_sem,hnx];apply hK;clear hK K))
           refine⟨rfl,a + 1,?_,by omega,by omega⟩
           try simp only [go_sem]
           refine weA ?_ ?_ <;> simp
          ·have d9:decide (B<0)=false:=decide_eq_false hB0
           have d10:decide (B ≥ 0)=true:=decide_eq_true (by omega)
           simp only [go_sem,if_neg hB0]
           repeat (first|refine nx ?_|(refine z3 fun K hK=>?_;simp only [go_sem,d9,d10];apply hK;clear hK K))
           refine z5 (by rfl) ?_
           repeat (first|refine nx ?_|(refine z3 fun K hK=>?_;simp only [go_sem,hnx];apply hK;clear hK K))
           refine⟨rfl,a + 1,?_,by omega,by omega⟩
           try simp only [go_sem]
           refine weA ?_ ?_ <;> simp
       ·have d7:decide (B<(L.length:Int))=false:=decide_eq_false hal
        repeat (first|refine nx ?_|(refine z3 fun K hK=>?_;simp only [go_sem,hl1,d7];apply hK;clear hK K))
        refine z5 (by rfl) ?_
        repeat (first|refine nx ?_|(refine z3 fun K hK=>?_;simp only [go_sem];(repeat (first|(refine⟨_,.lent (hf:=h14) (hd:=rfl) (hr:=rfl),?_⟩;simp only [go_sem])|(refine⟨_,.given (hf:=h14) (hd:=rfl) (ha:=rfl),?_⟩;simp only [go_sem])));apply hK;clear hK K))
        simp only [go_sem]
end Go.Ab
