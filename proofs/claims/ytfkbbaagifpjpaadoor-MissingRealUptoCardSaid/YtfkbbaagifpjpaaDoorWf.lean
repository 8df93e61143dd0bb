/- A walk engine over abstract states, and the contracts of the functions that the statement reaches: part 6. -/
import Derived.Test.YtfkbbaagifpjpaaDoorWe
set_option linter.unusedVariables false
set_option linter.unusedSimpArgs false
set_option linter.unnecessarySimpa false
namespace Go.Ab
open Go.RowKit Go.Proofs
set_option maxHeartbeats 16000000
set_option maxRecDepth 20000
attribute [local irreducible] WalkL Walk
theorem zf7 (n:Net) (x:Missed) (pl pa:Int) (hs:n.Small) (hcl:x.clues.length<2 ^ 30):Fn Tryd.prog 7 [.agg n.cells,.agg x.row,.agg [.i pl,.i pa]] (.bool true):=by
 have h12:=z1368 n x hs hcl
 have h14:=z1367
 have h15:=z1338 n x hs hcl
 have h28:=z1362 n x pl pa hs hcl
 have h29:=z1361 n x pl pa hs hcl
 change Fn Tryd.prog 12 _ (.bool (validB n x)) at h12
 obtain ⟨hw1,hw2⟩:=z1023 (x:=x) hs
 have h16a:=z1337 (whereC n x).1 pl hw1
 have h16b:=z1337 (whereC n x).2.1 pa hw2
 change Fn Tryd.prog 16 _ (.bool (hasI (whereC n x).1 pl)) at h16a
 change Fn Tryd.prog 16 _ (.bool (hasI (whereC n x).2.1 pa)) at h16b
 cases hv:validB n x
 ·rw [hv] at h12
  rw [Net.cells] at *
  rw [Missed.row] at *
  refine z10 132 Tryd.call7 Tryd.func7 rfl (by decide) fun J=>?_
  simp only [go_sem,St.start,Tryd.ntmps7,Tryd.results7,Net.cells,Missed.row]
  repeat (first | refine nx ?_ | (refine z3 fun K hK=>?_;simp only [go_sem];(repeat (first | (refine ⟨_,.lent (hf:=h12) (hd:=rfl) (hr:=rfl),?_⟩;simp only [go_sem]) | (refine ⟨_,.given (hf:=h12) (hd:=rfl) (ha:=rfl),?_⟩;simp only [go_sem])));apply hK;clear hK K))
  refine z9 rfl ?_
  repeat (first | refine nx ?_ | (refine z3 fun K hK=>?_;simp only [go_sem];(repeat (first | (refine ⟨_,.lent (hf:=h14) (hd:=rfl) (hr:=rfl),?_⟩;simp only [go_sem]) | (refine ⟨_,.given (hf:=h14) (hd:=rfl) (ha:=rfl),?_⟩;simp only [go_sem])));apply hK;clear hK K))
  simp only [go_sem]
 ·have hv2:=hv
  simp only [validB,Bool.and_eq_true,beq_iff_eq] at hv2
  have ho:=hv2.2
  have hlen:=z1034 hcl ho pl pa
  have h13:=z1287 n x (traceF n x pl pa).1 hs hcl ho hlen
  rw [hv] at h12
  rw [if_neg (fun h=>h ho)] at h29
  obtain ⟨_,_,hwe⟩:=z304 ho
  rw [whereD] at h15
  have hlaw:=fun hb=>z1145 (pl:=pl) (pa:=pa) hcl ho hb
  have htb:badTr n pl pa=true→traceF n x pl pa=([],1):=fun hb=>by rw [traceF,if_neg (fun h=>h ho),if_pos hb]
  obtain ⟨T,hT⟩:∃ T,T=traceF n x pl pa:=⟨_,rfl⟩
  rw [← hT] at h28 h13 hlaw hlen htb
  obtain ⟨W,hW⟩:∃ W,W=whereC n x:=⟨_,rfl⟩
  rw [← hW] at h15 h16a h16b hwe hlaw
  obtain ⟨L,e⟩:=T
  obtain ⟨A,B,f⟩:=W
  dsimp only at h28 h13 hlaw hlen htb h15 h16a h16b hwe
  have hrl:=z122 L
  rw [Net.cells] at *
  rw [Missed.row] at *
  cases hb:badTr n pl pa
  ·rw [hb] at h29
   have hlaw:=hlaw hb
   rw [if_neg (by decide)] at h29
   have hwe2:(f != 0 && f != 3)=false:=by rcases hwe with rfl | rfl <;> rfl
   obtain ⟨iv,hiv⟩:∃ i,i=inB A B pl pa:=⟨_,rfl⟩
   rw [← hiv] at hlaw
   rw [inB] at hiv
   refine z10 132 Tryd.call7 Tryd.func7 rfl (by decide) fun J=>?_
   simp only [go_sem,St.start,Tryd.ntmps7,Tryd.results7,Net.cells,Missed.row]
   repeat (first | refine nx ?_ | (refine z3 fun K hK=>?_;simp only [go_sem];(repeat (first | (refine ⟨_,.lent (hf:=h12) (hd:=rfl) (hr:=rfl),?_⟩;simp only [go_sem]) | (refine ⟨_,.given (hf:=h12) (hd:=rfl) (ha:=rfl),?_⟩;simp only [go_sem])));apply hK;clear hK K))
   refine z6 rfl ?_
   repeat (first | refine nx ?_ | (refine z3 fun K hK=>?_;simp only [go_sem];(repeat (first | (refine ⟨_,.lent (hf:=h28) (hd:=rfl) (hr:=rfl),?_⟩;simp only [go_sem]) | (refine ⟨_,.given (hf:=h28) (hd:=rfl) (ha:=rfl),?_⟩;simp only [go_sem])));apply hK;clear hK K))
   repeat (first | refine nx ?_ | (refine z3 fun K hK=>?_;simp only [go_sem];(repeat (first | (refine ⟨_,.lent (hf:=h29) (hd:=rfl) (hr:=rfl),?_⟩;simp only [go_sem]) | (refine ⟨_,.given (hf:=h29) (hd:=rfl) (ha:=rfl),?_⟩;simp only [go_sem])));apply hK;clear hK K))
   refine z6 (by rfl) ?_
   repeat (first | refine nx ?_ | (refine z3 fun K hK=>?_;simp only [go_sem];(repeat (first | (refine ⟨_,.lent (hf:=h15) (hd:=rfl) (hr:=rfl),?_⟩;simp only [go_sem]) | (refine ⟨_,.given (hf:=h15) (hd:=rfl) (ha:=rfl),?_⟩;simp only [go_sem])));apply hK;clear hK K))
   refine z17 [(59,.d (.bool false))] [] ?_ ?_
   ·refine z3 fun K hK=>?_
    rcases hwe with rfl | rfl
    all_goals
     simp only [go_sem]
     apply hK
     clear hK K
     refine z7 ?_
     refine z4 ?_
     refine ⟨rfl,?_⟩
     simp only [go_sem]
     refine weA ?_ ?_ <;> simp
   ·simp only [go_sem]
    refine z6 rfl ?_
    repeat (first | refine z23 ?_ | refine z30 ?_)
    refine z17 [(12,.d (.bool iv))] [] ?_ ?_
    ·cases q1:pa == -1 <;> cases q2:hasI A pl <;> cases q3:pl == -1 <;> cases q4:hasI B pa <;> rw [q2] at h16a <;> rw [q4] at h16b <;> simp only [q1,q2,q3,q4,Bool.true_and,Bool.false_and,Bool.and_true,Bool.and_false,Bool.or_false,Bool.false_or,Bool.true_or,Bool.or_true] at hiv <;> subst hiv
     all_goals
      refine z3 fun K hK=>?_
      simp only [go_sem,q1,q3]
      (repeat (first | (refine ⟨_,.lent (hf:=h16a) (hd:=rfl) (hr:=rfl),?_⟩;simp only [go_sem,q1,q3]) | (refine ⟨_,.lent (hf:=h16b) (hd:=rfl) (hr:=rfl),?_⟩;simp only [go_sem,q1,q3])))
      apply hK
      clear hK K
      refine z7 ?_
      refine z4 ?_
      refine ⟨rfl,?_⟩
      simp only [go_sem]
      refine weA ?_ ?_ <;> simp
    ·simp only [go_sem]
     rcases hlaw with ⟨rfl,g1⟩ | ⟨rfl,g1,g2,q,g3,g4,g5⟩
     ·cases g1
      repeat (first | refine nx ?_ | (refine z3 fun K hK=>?_;simp only [go_sem];apply hK;clear hK K))
      refine z9 (by rfl) ?_
      repeat (first | refine nx ?_ | (refine z3 fun K hK=>?_;simp only [go_sem,passRows,List.map_nil,List.length_nil];(repeat (first | (refine ⟨_,.lent (hf:=h14) (hd:=rfl) (hr:=rfl),?_⟩;simp only [go_sem,passRows,List.map_nil,List.length_nil]) | (refine ⟨_,.given (hf:=h14) (hd:=rfl) (ha:=rfl),?_⟩;simp only [go_sem,passRows,List.map_nil,List.length_nil])));apply hK;clear hK K))
      simp only [go_sem]
     ·skip
      subst g1
      rw [g2] at h13
      rw [List.getLast?_eq_getElem?] at g3
      have hlt:=(List.getElem?_eq_some_iff.1 g3).1
      have gr:=z176 g3
      have hw:IntKind.i64.wrap ((L.length:Int) - 1)=((L.length - 1:Nat):Int):=by rw [z11 (by omega)];omega
      have hn:¬ (((L.length - 1:Nat):Int)<0):=Int.not_lt.2 (Int.natCast_nonneg _)
      have hl0:L.length≠0:=by omega
      have hne:((L.length:Int) == 0)=false:=by rw [beq_eq_false_iff_ne];omega
      have hq1:(q.pa == pa)=true:=by simpa using g4
      repeat (first | refine nx ?_ | (refine z3 fun K hK=>?_;simp only [go_sem];apply hK;clear hK K))
      refine z6 (by rfl) ?_
      repeat (first | refine nx ?_ | (refine z3 fun K hK=>?_;simp only [go_sem,hrl,hne];(repeat (first | (refine ⟨_,.lent (hf:=h13) (hd:=rfl) (hr:=rfl),?_⟩;simp only [go_sem,hrl,hne]) | (refine ⟨_,.given (hf:=h13) (hd:=rfl) (ha:=rfl),?_⟩;simp only [go_sem,hrl,hne])));apply hK;clear hK K))
      refine z6 (by rfl) ?_
      repeat (first | refine nx ?_ | (refine z3 fun K hK=>?_;simp only [go_sem,hrl,hw,gr,hlt,hn];apply hK;clear hK K))
      rcases g5 with g5 | g5
      ·have hd:decide (pa ≥ 0)=true:=decide_eq_true g5
       repeat (first | refine nx ?_ | (refine z3 fun K hK=>?_;simp only [go_sem,hq1,hd];(repeat (first | (refine ⟨_,.lent (hf:=h14) (hd:=rfl) (hr:=rfl),?_⟩;simp only [go_sem,hq1,hd]) | (refine ⟨_,.given (hf:=h14) (hd:=rfl) (ha:=rfl),?_⟩;simp only [go_sem,hq1,hd])));apply hK;clear hK K))
       simp only [go_sem]
      ·have hd2:(q.pl == pl)=true:=by simpa using g5
       cases hd:decide (pa ≥ 0)
       ·repeat (first | refine nx ?_ | (refine z3 fun K hK=>?_;simp only [go_sem,hq1,hd,hd2];(repeat (first | (refine ⟨_,.lent (hf:=h14) (hd:=rfl) (hr:=rfl),?_⟩;simp only [go_sem,hq1,hd,hd2]) | (refine ⟨_,.given (hf:=h14) (hd:=rfl) (ha:=rfl),?_⟩;simp only [go_sem,hq1,hd,hd2])));apply hK;clear hK K))
        simp only [go_sem]
       ·repeat (first | refine nx ?_ | (refine z3 fun K hK=>?_;simp only [go_sem,hq1,hd];(repeat (first | (refine ⟨_,.lent (hf:=h14) (hd:=rfl) (hr:=rfl),?_⟩;simp only [go_sem,hq1,hd]) | (refine ⟨_,.given (hf:=h14) (hd:=rfl) (ha:=rfl),?_⟩;simp only [go_sem,hq1,hd])));apply hK;clear hK K))
        simp only [go_sem]
  ·rw [hb,if_pos rfl] at h29
   have h0:=htb hb
   cases h0
   refine z10 132 Tryd.call7 Tryd.func7 rfl (by decide) fun J=>?_
   simp only [go_sem,St.start,Tryd.ntmps7,Tryd.results7,Net.cells,Missed.row]
   repeat (first | refine nx ?_ | (refine z3 fun K hK=>?_;simp only [go_sem];(repeat (first | (refine ⟨_,.lent (hf:=h12) (hd:=rfl) (hr:=rfl),?_⟩;simp only [go_sem]) | (refine ⟨_,.given (hf:=h12) (hd:=rfl) (ha:=rfl),?_⟩;simp only [go_sem])));apply hK;clear hK K))
   refine z6 rfl ?_
   repeat (first | refine nx ?_ | (refine z3 fun K hK=>?_;simp only [go_sem];(repeat (first | (refine ⟨_,.lent (hf:=h28) (hd:=rfl) (hr:=rfl),?_⟩;simp only [go_sem]) | (refine ⟨_,.given (hf:=h28) (hd:=rfl) (ha:=rfl),?_⟩;simp only [go_sem])));apply hK;clear hK K))
   repeat (first | refine nx ?_ | (refine z3 fun K hK=>?_;simp only [go_sem];(repeat (first | (refine ⟨_,.lent (hf:=h29) (hd:=rfl) (hr:=rfl),?_⟩;simp only [go_sem]) | (refine ⟨_,.given (hf:=h29) (hd:=rfl) (ha:=rfl),?_⟩;simp only [go_sem])));apply hK;clear hK K))
   refine z9 (by rfl) ?_
   repeat (first | refine nx ?_ | (refine z3 fun K hK=>?_;simp only [go_sem,passRows,List.map_nil,List.length_nil];(repeat (first | (refine ⟨_,.lent (hf:=h14) (hd:=rfl) (hr:=rfl),?_⟩;simp only [go_sem,passRows,List.map_nil,List.length_nil]) | (refine ⟨_,.given (hf:=h14) (hd:=rfl) (ha:=rfl),?_⟩;simp only [go_sem,passRows,List.map_nil,List.length_nil])));apply hK;clear hK K))
   simp only [go_sem]
end Go.Ab
namespace Go.Ab
open Go.RowKit Go.Proofs Go.ChangeShapes Go.WideShapes Go.Proofs.YtfkbbaagifpjpaaDoor
set_option linter.unusedVariables false
set_option maxRecDepth 100000
structure FinT where
 pl:Int
 pa:Int
def FinT.row (y:FinT):List DV:=[.i y.pl,.i y.pa]
def finS:List Sh:=[iS,iS]
theorem z1266 {N:Nat} {r:List DV} (h:Sh.fitsL N finS r):∃ x:FinT,r=x.row:=by
 simp only [finS,iS,Sh.fitsL,Sh.fits] at h
 obtain ⟨_,_,rfl,⟨a,rfl,_⟩,_,_,rfl,⟨b,rfl,_⟩,rfl⟩:=h
 exact ⟨⟨a,b⟩,rfl⟩
theorem z1311:shapes Tryd.prog 20 73=some finS:=by kernel_rfl
theorem z1305:Rd 73 (fun x=>∃ y:FinT,x=.agg y.row) :=
 ⟨by kernel_rfl,of_decide_eq_true (by kernel_rfl),fun H enc w base v d ps hok h hd=>by
  obtain ⟨e0,hf0,r0⟩:=z555 z1311 (by decide) h hd
  obtain ⟨x,rfl⟩:=z1266 hf0
  exact ⟨_,⟨x,rfl⟩,r0⟩⟩
abbrev aE:TypeId × (DV→Prop):=(73,fun x=>∃ y:FinT,x=.agg y.row)
theorem f7' (n:Net) (x:Missed) (y:FinT) (hs:n.Small) (hcl:x.clues.length<2 ^ 30):Fn Tryd.prog 7 [.agg n.cells,.agg x.row,.agg y.row] (.bool true):=zf7 n x y.pl y.pa hs hcl
end Go.Ab
