/- A walk engine over abstract states, and the contracts of the functions that the statement reaches: part 4. -/
import Derived.Test.YtgjnckiifffneaaGreatWc
set_option linter.unusedVariables false
set_option linter.unusedSimpArgs false
set_option linter.unnecessarySimpa false
namespace Go.Ab
open Go.RowKit Go.Proofs
set_option maxHeartbeats 8000000
set_option maxRecDepth 20000
attribute [local irreducible] WalkL Walk
def askB (s:Supply) (c n:Int):Bool:=withinB c 0 ((s.carr.length:Int) - 1) && withinB n 1 48
def nextW (s:Supply) (c n:Int):Int × Int × Int:=windowF s.scen s.seen (s.carr.getD c.toNat ⟨0,0,0,⟨0,0,⟨0,0⟩⟩⟩).lim n
def nextE (s:Supply) (c n:Int):Int:=if (nextW s c n).2.2=0∧(nextW s c n).2.1<0 then 3 else (nextW s c n).2.2
def nextP (s:Supply) (c n:Int):Int × Bool × Int :=
 if openS6 s (askB s c n)=0 then (if nextE s c n=0 then ((nextW s c n).2.1,(nextW s c n).2.1 == 0 || decide (wr (s.stock - wr ((nextW s c n).2.1 * s.use.hi)) ≥ s.reserve),0) else (0,false,nextE s c n)) else (0,false,openS6 s (askB s c n))
theorem zf18 (s:Supply) (c n:Int) (hs:SuppSmall s):Fn Tryz.prog 18 [.agg s.cells,.i c,.i n] (.tup [.i (nextP s c n).1,.bool (nextP s c n).2.1,.i (nextP s c n).2.2]):=by
 have hcl:=hs.carr
 have hw1:IntKind.i64.wrap ((s.carr.length:Int) - 1)=s.carr.length - 1:=z17 (by omega)
 have k1:=z1076 c 0 ((s.carr.length:Int) - 1)
 have k2:=z1076 n 1 48
 have h25:=fun b=>zf25n s b hs
 obtain ⟨a1,ha1⟩:∃ b,b=withinB c 0 ((s.carr.length:Int) - 1):=⟨_,rfl⟩
 obtain ⟨a2,ha2⟩:∃ b,b=withinB n 1 48:=⟨_,rfl⟩
 have hask:askB s c n=(a1 && a2):=by rw [askB,← ha1,← ha2]
 unfold nextP
 rw [hask]
 rw [← ha1] at k1
 rw [← ha2] at k2
 have h25a:=h25 (a1 && a2)
 obtain ⟨e,he⟩:∃ e,e=openS6 s (a1 && a2):=⟨_,rfl⟩
 rw [← he] at h25a ⊢
 simp only [Supply.cells] at h25a
 refine z14 73 Tryz.call18 Tryz.func18 rfl (by decide) fun J=>?_
 simp only [go_sem,St.start,Tryz.ntmps18,Tryz.results18,Supply.cells]
 by_cases h0:e=0
 ·have hz:(e != 0)=false:=by simp [h0]
  have htrue:a1=true:=by
   rw [he,openS6] at h0
   split at h0
   ·split at h0
    ·rename_i hb;simp at hb;exact hb.1
    ·cases h0
   ·rename_i hne;exact absurd h0 hne
  have htrue2:a2=true:=by
   rw [he,openS6] at h0
   split at h0
   ·split at h0
    ·rename_i hb;simp at hb;exact hb.2
    ·cases h0
   ·rename_i hne;exact absurd h0 hne
  subst htrue;subst htrue2
  have hr:=z24.1 ha1.symm
  obtain ⟨x,hx⟩:∃ x,s.carr[c.toNat]?=some x:=⟨_,List.getElem?_eq_getElem (by omega)⟩
  have gx:=z126 hx
  rw [Carrier.row] at gx
  have h12:=zf40 s.scen s.seen x.lim n hs.fore hs.seen
  have hW:nextW s c n=windowF s.scen s.seen x.lim n:=by rw [nextW,List.getD,hx];rfl
  rw [← hW] at h12
  unfold nextE
  obtain ⟨W,hWW⟩:∃ W,W=nextW s c n:=⟨_,rfl⟩
  rw [← hWW] at h12 ⊢
  obtain ⟨w1,w2,w3⟩:=W
  dsimp only at h12 ⊢
  rw [Limits.row] at h12
  rw [if_pos h0,hutOf,hutRow] at h25a
  rw [if_pos h0]
  have hc0:¬ c<0:=by omega
  have hcn:(c.toNat:Int)=c:=by omega
  simp only [Bool.and_self] at h25a
  repeat (first | refine nx ?_ | (refine z10 fun K hK=>?_;simp only [go_sem];apply hK;clear hK K))
  refine z16 (by kernel_rfl) (by kernel_rfl) fun K hK=>?_
  simp only [go_sem,hw1,z18]
  refine ⟨_,.fn (hf:=k1) (hd:=rfl) (hr:=.inl rfl),?_⟩
  simp only [go_sem]
  refine ⟨_,.fn (hf:=k2) (hd:=rfl) (hr:=.inl rfl),?_⟩
  simp only [go_sem]
  refine ⟨_,.fn (hf:=h25a) (hd:=rfl) (hr:=.inr rfl),?_⟩
  simp only [go_sem]
  refine ⟨by kernel_rfl,hK _ ?_⟩
  clear hK K
  repeat (first | refine z12 rfl ?_ | refine z11 rfl ?_ | refine nx ?_ | (refine z10 fun K hK=>?_;simp only [go_sem,hz];apply hK;clear hK K))
  refine z16 (by kernel_rfl) (by kernel_rfl) fun K hK=>?_
  simp only [go_sem,gx,hr.1]
  refine ⟨_,.fn (hf:=h12) (hd:=rfl) (hr:=.inl rfl),?_⟩
  simp only [go_sem]
  refine ⟨by kernel_rfl,hK _ ?_⟩
  clear hK K
  by_cases c1:w3=0
  ·have q1:(w3 == 0)=true:=by simp [c1]
   have q2:(w3 != 0)=false:=by simp [c1]
   by_cases c2:w2<0
   ·have q3:decide (w2<0)=true:=decide_eq_true c2
    rw [if_pos (show w3=0∧w2<0 from ⟨c1,c2⟩),if_neg (by decide)]
    repeat (first | refine z12 rfl ?_ | refine z11 rfl ?_ | refine nx ?_ | (refine z10 fun K hK=>?_;simp only [go_sem,q1,q3];apply hK;clear hK K))
    simp only [go_sem]
   ·have q3:decide (w2<0)=false:=decide_eq_false c2
    rw [if_neg (show ¬ (w3=0∧w2<0) from fun h=>c2 h.2),if_pos c1]
    dsimp only
    repeat (first | refine z12 rfl ?_ | refine z11 rfl ?_ | refine nx ?_ | (refine z10 fun K hK=>?_;simp only [go_sem,q1,q2,q3];apply hK;clear hK K))
    cases q4:(w2 == 0)
    ·refine z16 (by kernel_rfl) (by kernel_rfl) fun K hK=>?_
     simp only [go_sem,q4]
     refine ⟨by kernel_rfl,hK _ ?_⟩
     clear hK K
     repeat (first | refine z12 rfl ?_ | refine z11 rfl ?_ | refine nx ?_ | (refine z10 fun K hK=>?_;simp only [go_sem];apply hK;clear hK K))
     simp only [go_sem]
    ·refine z16 (by kernel_rfl) (by kernel_rfl) fun K hK=>?_
     simp only [go_sem,q4]
     refine ⟨by kernel_rfl,hK _ ?_⟩
     clear hK K
     repeat (first | refine z12 rfl ?_ | refine z11 rfl ?_ | refine nx ?_ | (refine z10 fun K hK=>?_;simp only [go_sem];apply hK;clear hK K))
     simp only [go_sem]
  ·have q1:(w3 == 0)=false:=by simpa using c1
   have q2:(w3 != 0)=true:=by simpa using c1
   rw [if_neg (show ¬ (w3=0∧w2<0) from fun h=>c1 h.1),if_neg c1]
   repeat (first | refine z12 rfl ?_ | refine z11 rfl ?_ | refine nx ?_ | (refine z10 fun K hK=>?_;simp only [go_sem,q1,q2];apply hK;clear hK K))
   simp only [go_sem]
 ·have hz:(e != 0)=true:=by simp [h0]
  rw [if_neg h0] at h25a
  rw [if_neg h0]
  cases a1
  ·simp only [Bool.false_and] at h25a
   repeat (first | refine nx ?_ | (refine z10 fun K hK=>?_;simp only [go_sem];apply hK;clear hK K))
   refine z16 (by kernel_rfl) (by kernel_rfl) fun K hK=>?_
   simp only [go_sem,hw1,z18]
   refine ⟨_,.fn (hf:=k1) (hd:=rfl) (hr:=.inl rfl),?_⟩
   simp only [go_sem]
   refine ⟨_,.fn (hf:=h25a) (hd:=rfl) (hr:=.inl rfl),?_⟩
   simp only [go_sem]
   refine ⟨by kernel_rfl,hK _ ?_⟩
   clear hK K
   repeat (first | refine z12 rfl ?_ | refine z11 rfl ?_ | refine nx ?_ | (refine z10 fun K hK=>?_;simp only [go_sem,hz];apply hK;clear hK K))
   simp only [go_sem]
  ·simp only [Bool.true_and] at h25a
   repeat (first | refine nx ?_ | (refine z10 fun K hK=>?_;simp only [go_sem];apply hK;clear hK K))
   refine z16 (by kernel_rfl) (by kernel_rfl) fun K hK=>?_
   simp only [go_sem,hw1,z18]
   refine ⟨_,.fn (hf:=k1) (hd:=rfl) (hr:=.inl rfl),?_⟩
   simp only [go_sem]
   refine ⟨_,.fn (hf:=k2) (hd:=rfl) (hr:=.inl rfl),?_⟩
   simp only [go_sem]
   refine ⟨_,.fn (hf:=h25a) (hd:=rfl) (hr:=.inl rfl),?_⟩
   simp only [go_sem]
   refine ⟨by kernel_rfl,hK _ ?_⟩
   clear hK K
   repeat (first | refine z12 rfl ?_ | refine z11 rfl ?_ | refine nx ?_ | (refine z10 fun K hK=>?_;simp only [go_sem,hz];apply hK;clear hK K))
   simp only [go_sem]
end Go.Ab
namespace Go.Ab
open Go.RowKit Go.Proofs
set_option maxHeartbeats 8000000
set_option maxRecDepth 20000
attribute [local irreducible] WalkL Walk
end Go.Ab
namespace Go.Ab
open Go.RowKit Go.Proofs
set_option maxHeartbeats 8000000
set_option maxRecDepth 20000
attribute [local irreducible] WalkL Walk
def usesB (s:Supply) (l:List Int):Bool:=l.all (fun x=>withinB x s.use.lo s.use.hi) && ((l.length:Int) == (s.hours:Int))
end Go.Ab
namespace Go.Ab
open Go.RowKit Go.Proofs
end Go.Ab
namespace Go.Ab
open Go.RowKit Go.Proofs
def Supply.more (s:Supply) (x:Sight):Supply:={ s with seen:=s.seen++[x] }
end Go.Ab
namespace Go.Ab
open Go.RowKit Go.Proofs
set_option maxHeartbeats 8000000
set_option maxRecDepth 20000
attribute [local irreducible] WalkL Walk
structure Batch where
 good:Int
 amount:Int
 last:Int
def Batch.row (b:Batch):List DV:=[.i b.good,.i b.amount,.i b.last]
def batRows (l:List Batch):List (List DV):=l.map Batch.row
structure Dish where
 needs:List Int
def Dish.row (d:Dish):List DV:=[.sl (intRows d.needs)]
def dishRows (l:List Dish):List (List DV):=l.map Dish.row
structure Diners where
 no:Int
 count:Span
def Diners.row (d:Diners):List DV:=[.i d.no,.i d.count.lo,.i d.count.hi]
def dinRows (l:List Diners):List (List DV):=l.map Diners.row
def dayRows (l:List (List Diners)):List (List DV):=l.map fun d=>[.sl (dinRows d)]
structure Kitchen where
 allerg:List Int
 batches:List Batch
 dishes:List Dish
 days:List (List Diners)
def Kitchen.cells (k:Kitchen):List DV:=[.sl (intRows k.allerg),.sl (batRows k.batches),.sl (dishRows k.dishes),.sl (dayRows k.days)]
theorem z873 (l:List Batch):(batRows l).length=l.length:=by simp [batRows]
theorem z716 (l:List Dish):(dishRows l).length=l.length:=by simp [dishRows]
theorem z866 (l:List Diners):(dinRows l).length=l.length:=by simp [dinRows]
theorem z867 (l:List (List Diners)):(dayRows l).length=l.length:=by simp [dayRows]
theorem z267 {l:List Batch} {i:Nat} {x:Batch} (h:l[i]?=some x):(batRows l)[i]?=some x.row:=by simp [batRows,h]
theorem z125 {l:List Dish} {i:Nat} {x:Dish} (h:l[i]?=some x):(dishRows l)[i]?=some x.row:=by simp [dishRows,h]
theorem z80 {l:List Diners} {i:Nat} {x:Diners} (h:l[i]?=some x):(dinRows l)[i]?=some x.row:=by simp [dinRows,h]
theorem z81 {l:List (List Diners)} {i:Nat} {x:List Diners} (h:l[i]?=some x):(dayRows l)[i]?=some [.sl (dinRows x)]:=by simp [dayRows,h]
theorem z725 (l:List Batch):headIs 3 (batRows l)=true:=by cases l <;> rfl
attribute [go_sem] z873 z716 z866 z867 z26
structure KitSmall (k:Kitchen):Prop where
 allerg:k.allerg.length<2 ^ 30
 batches:k.batches.length<2 ^ 30
 dishes:k.dishes.length<2 ^ 30
 needs:∀ d ∈ k.dishes,d.needs.length<2 ^ 30
 days:k.days.length<2 ^ 30
 groups:∀ d ∈ k.days,d.length<2 ^ 30
end Go.Ab
namespace Go.Ab
open Go.RowKit Go.Proofs Go.ChangeShapes Go.WideShapes Go.Proofs.YtgjnckiifffneaaGreat
set_option linter.unusedVariables false
set_option maxRecDepth 100000
def threeS:List Sh:=[iS,iS,iS]
theorem bat_of {N:Nat} {r:List DV} (h:Sh.fitsL N threeS r):∃ s:Batch,r=s.row∧True:=by
 simp only [threeS,iS,Sh.fitsL,Sh.fits] at h
 obtain ⟨_,_,rfl,⟨a,rfl,_⟩,_,_,rfl,⟨b,rfl,_⟩,_,_,rfl,⟨c,rfl,_⟩,rfl⟩:=h
 exact ⟨⟨a,b,c⟩,rfl,trivial⟩
theorem din_of {N:Nat} {r:List DV} (h:Sh.fitsL N threeS r):∃ s:Diners,r=s.row∧True:=by
 simp only [threeS,iS,Sh.fitsL,Sh.fits] at h
 obtain ⟨_,_,rfl,⟨a,rfl,_⟩,_,_,rfl,⟨b,rfl,_⟩,_,_,rfl,⟨c,rfl,_⟩,rfl⟩:=h
 exact ⟨⟨a,⟨b,c⟩⟩,rfl,trivial⟩
theorem z1194 {N:Nat} {d:DV} (h:Sh.fits N (.sl threeS) d):∃ l:List Batch,d=.sl (batRows l)∧l.length≤N:=by
 simp only [Sh.fits] at h
 obtain ⟨rows,rfl,hl,hr⟩:=h
 obtain ⟨l,rfl,_⟩:=z119 (fun r h=>bat_of (hr r h))
 exact ⟨l,rfl,by simpa using hl⟩
theorem z1188 {N:Nat} {r:List DV} (h:Sh.fitsL N [.sl [iS]] r):∃ l:Dish,r=l.row∧l.needs.length≤N:=by
 rw [Sh.fitsL] at h
 obtain ⟨d,_,rfl,h,h2⟩:=h
 rw [Sh.fitsL] at h2
 subst h2
 obtain ⟨l,rfl,hl⟩:=z856 h
 exact ⟨⟨l⟩,rfl,hl⟩
theorem z1061 {N:Nat} {d:DV} (h:Sh.fits N (.sl [.sl [iS]]) d):∃ l:List Dish,d=.sl (dishRows l)∧l.length≤N∧∀ x ∈ l,x.needs.length≤N:=by
 rw [Sh.fits] at h
 obtain ⟨rows,rfl,hl,hr⟩:=h
 obtain ⟨l,rfl,hq⟩:=z119 (row:=Dish.row) (fun r h=>z1188 (hr r h))
 exact ⟨l,rfl,by simpa using hl,hq⟩
theorem z1174 {N:Nat} {r:List DV} (h:Sh.fitsL N [.sl [iS]] r):∃ l:List Int,r=[.sl (intRows l)]∧l.length≤N:=by
 rw [Sh.fitsL] at h
 obtain ⟨d,_,rfl,h,h2⟩:=h
 rw [Sh.fitsL] at h2
 subst h2
 obtain ⟨l,rfl,hl⟩:=z856 h
 exact ⟨l,rfl,hl⟩
theorem z1120 {N:Nat} {d:DV} (h:Sh.fits N (.sl [.sl [iS]]) d):∃ l:List (List Int),d=.sl (listRows l)∧l.length≤N∧∀ x ∈ l,x.length≤N:=by
 rw [Sh.fits] at h
 obtain ⟨rows,rfl,hl,hr⟩:=h
 obtain ⟨l,rfl,hq⟩:=z119 (row:=fun l:List Int=>[DV.sl (intRows l)]) (fun r h=>z1174 (hr r h))
 exact ⟨l,rfl,by simpa using hl,hq⟩
theorem z1189 {N:Nat} {r:List DV} (h:Sh.fitsL N [.sl threeS] r):∃ l:List Diners,r=[.sl (dinRows l)]∧l.length≤N:=by
 rw [Sh.fitsL] at h
 obtain ⟨d,_,rfl,h,h2⟩:=h
 rw [Sh.fitsL] at h2
 subst h2
 rw [Sh.fits] at h
 obtain ⟨rows,rfl,hl,hr⟩:=h
 obtain ⟨l,rfl,_⟩:=z119 (fun r h=>din_of (hr r h))
 exact ⟨l,rfl,by simpa using hl⟩
theorem z1190 {N:Nat} {d:DV} (h:Sh.fits N (.sl [.sl threeS]) d):∃ l:List (List Diners),d=.sl (dayRows l)∧l.length≤N∧∀ x ∈ l,x.length≤N:=by
 rw [Sh.fits] at h
 obtain ⟨rows,rfl,hl,hr⟩:=h
 obtain ⟨l,rfl,hq⟩:=z119 (row:=fun l:List Diners=>[DV.sl (dinRows l)]) (fun r h=>z1189 (hr r h))
 exact ⟨l,rfl,by simpa using hl,hq⟩
def kitS:List Sh:=[.sl [iS],.sl threeS,.sl [.sl [iS]],.sl [.sl threeS]]
theorem kit_of {N:Nat} (hN:N<2 ^ 29) {r:List DV} (h:Sh.fitsL N kitS r):∃ k:Kitchen,r=k.cells∧KitSmall k:=by
 unfold kitS at h
 rw [Sh.fitsL] at h
 obtain ⟨x0,_,rfl,h0,h⟩:=h
 rw [Sh.fitsL] at h
 obtain ⟨x1,_,rfl,h1,h⟩:=h
 rw [Sh.fitsL] at h
 obtain ⟨x2,_,rfl,h2,h⟩:=h
 rw [Sh.fitsL] at h
 obtain ⟨x3,_,rfl,h3,h⟩:=h
 rw [Sh.fitsL] at h
 subst h
 obtain ⟨A,rfl,a1⟩:=z856 h0
 obtain ⟨B,rfl,b1⟩:=z1194 h1
 obtain ⟨C,rfl,c1,c2⟩:=z1061 h2
 obtain ⟨D,rfl,d1,d2⟩:=z1190 h3
 refine ⟨⟨A,B,C,D⟩,rfl,⟨?_,?_,?_,fun x hx=>?_,?_,fun x hx=>?_⟩⟩
 ·show A.length<2 ^ 30
  omega
 ·show B.length<2 ^ 30
  omega
 ·show C.length<2 ^ 30
  omega
 ·have:=c2 x hx
  omega
 ·show D.length<2 ^ 30
  omega
 ·have:=d2 x hx
  omega
structure Stock where
 supp:Supply
 carrier:Int
 len:Int
def stockCells (b:Stock):List DV:=[.sl (scenRows b.supp.scen),.sl (sightRows b.supp.seen),.i b.supp.stock,.i b.supp.reserve,.i b.supp.room,.i b.supp.use.lo,.i b.supp.use.hi,.sl (carrRows b.supp.carr),.i b.carrier,.i b.len]
def stockS:List Sh:=[.sl [.sl hourS],.sl sightS,iS,iS,iS,iS,iS,.sl carrS,iS,iS]
theorem z705 {N:Nat}:∀ {a b:List Sh} {r:List DV},Sh.fitsL N (a++b) r→∃ x y,r=x++y∧Sh.fitsL N a x∧Sh.fitsL N b y
 | [],b,r,h=>⟨[],r,rfl,by rw [Sh.fitsL],h⟩
 | s::a,b,r,h=>by
  rw [List.cons_append,Sh.fitsL] at h
  obtain ⟨d,t,rfl,h1,h2⟩:=h
  obtain ⟨x,y,rfl,hx,hy⟩:=z705 h2
  exact ⟨d::x,y,rfl,by rw [Sh.fitsL];exact ⟨d,x,rfl,h1,hx⟩,hy⟩
theorem two_of {N:Nat} {r:List DV} (h:Sh.fitsL N [iS,iS] r):∃ a b:Int,r=[.i a,.i b]:=by
 simp only [iS,Sh.fitsL,Sh.fits] at h
 obtain ⟨_,_,rfl,⟨a,rfl,_⟩,_,_,rfl,⟨b,rfl,_⟩,rfl⟩:=h
 exact ⟨a,b,rfl⟩
theorem z1092 {N:Nat} (hN:N<2 ^ 29) {r:List DV} (h:Sh.fitsL N stockS r):∃ b:Stock,r=stockCells b∧SuppSmall b.supp∧b.supp.seen.length + 1<2 ^ 30:=by
 obtain ⟨x,y,rfl,h1,h2⟩:=z705 (a:=suppS) (b:=[iS,iS]) h
 obtain ⟨p,rfl,hp,hp2⟩:=z1158 hN h1
 obtain ⟨a,b,rfl⟩:=two_of h2
 exact ⟨⟨p,a,b⟩,rfl,hp,hp2⟩
theorem kitSh:shapes Tryz.prog 20 27=some kitS:=by kernel_rfl
theorem z1173:shapes Tryz.prog 20 28=some [.sl [.sl [iS]]]:=by kernel_rfl
theorem z1159:shapes Tryz.prog 20 41=some stockS:=by kernel_rfl
theorem rdKit:Rd 27 (fun x=>∃ k:Kitchen,x=.agg k.cells∧KitSmall k) :=
 ⟨by kernel_rfl,of_decide_eq_true (by kernel_rfl),fun H enc w base v d ps _ h hd=>by
  obtain ⟨ds,hf,hr⟩:=z904 kitSh (by decide) h hd
  obtain ⟨p,rfl,hp⟩:=kit_of (by decide) hf
  exact ⟨_,⟨p,rfl,hp⟩,hr⟩⟩
theorem z1163:Rd 28 (fun x=>∃ M:List (List Int),x=.sl (listRows M)∧M.length<2 ^ 30∧∀ r ∈ M,r.length<2 ^ 30) :=
 ⟨by kernel_rfl,of_decide_eq_true (by kernel_rfl),fun H enc w base v d ps hok h hd=>by
  obtain ⟨a,len,cap,rfl⟩:=okWide_slice Tryz.underlying28 hok
  obtain ⟨x,hx,hr⟩:=z1108 z1173 rfl h hd
  obtain ⟨l,rfl,hl,hl2⟩:=z1120 hx
  exact ⟨_,⟨l,rfl,by omega,fun r hr=>by have:=hl2 r hr;omega⟩,hr⟩⟩
theorem z1162:Rd 41 (fun x=>∃ b:Stock,x=.agg (stockCells b)∧SuppSmall b.supp∧b.supp.seen.length + 1<2 ^ 30) :=
 ⟨by kernel_rfl,of_decide_eq_true (by kernel_rfl),fun H enc w base v d ps _ h hd=>by
  obtain ⟨ds,hf,hr⟩:=z904 z1159 (by decide) h hd
  obtain ⟨p,rfl,hp⟩:=z1092 (by decide) hf
  exact ⟨_,⟨p,rfl,hp⟩,hr⟩⟩
abbrev aQ:TypeId × (DV→Prop):=(27,fun x=>∃ k:Kitchen,x=.agg k.cells∧KitSmall k)
abbrev aM:TypeId × (DV→Prop):=(28,fun x=>∃ M:List (List Int),x=.sl (listRows M)∧M.length<2 ^ 30∧∀ r ∈ M,r.length<2 ^ 30)
abbrev aO:TypeId × (DV→Prop):=(41,fun x=>∃ b:Stock,x=.agg (stockCells b)∧SuppSmall b.supp∧b.supp.seen.length + 1<2 ^ 30)
end Go.Ab
namespace Go.Ab
open Go.RowKit Go.Proofs
set_option maxHeartbeats 8000000
set_option maxRecDepth 20000
attribute [local irreducible] WalkL Walk
theorem zf122 (s:Int) (g:Nat) (caps:List DV) (b:Bool) (hq:Fn Tryz.prog g (.i s::caps) (.bool b)):Fn Tryz.prog 122 [.i s,.ptr [.fn g caps] 0] (.bool (!b)):=by
 refine z14 8 Tryz.call122 Tryz.func122 rfl (by decide) fun J=>?_
 simp only [go_sem,St.start,Tryz.ntmps122,Tryz.results122]
 repeat (first | refine nx ?_ | (refine z10 fun K hK=>?_;simp only [go_sem];apply hK;clear hK K))
 refine z10 fun K hK=>?_
 simp only [go_sem]
 refine ⟨_,.lent (hf:=hq) (hd:=z31 _ _ _ _ rfl) (hr:=rfl),?_⟩
 simp only [go_sem]
 apply hK
 clear hK K
 repeat (first | refine nx ?_ | (refine z10 fun K hK=>?_;simp only [go_sem];apply hK;clear hK K))
 simp only [go_sem]
theorem zf88 (xs:List Int) (g:Nat) (caps:List DV) (q:Int→Bool) (hq:∀ s ∈ xs,Fn Tryz.prog g (.i s::caps) (.bool (q s))) (hl:xs.length<2 ^ 62):Fn Tryz.prog 88 [.sl (intRows xs),.fn g caps] (.bool (xs.all q)):=by
 have h:=zf121 xs 122 [.ptr [.fn g caps] 0] (fun s=>!q s) (fun s hs=>zf122 s g caps (q s) (hq s hs)) hl
 refine z14 9 Tryz.call88 Tryz.func88 rfl (by decide) fun J=>?_
 simp only [go_sem,St.start,Tryz.ntmps88,Tryz.results88]
 repeat (first | refine nx ?_ | (refine z10 fun K hK=>?_;simp only [go_sem];(repeat (first | (refine ⟨_,.lent (hf:=h) (hd:=rfl) (hr:=rfl),?_⟩;simp only [go_sem]) | (refine ⟨_,.given (hf:=h) (hd:=rfl) (ha:=rfl),?_⟩;simp only [go_sem])));apply hK;clear hK K))
 simp only [go_sem,z164]
theorem z1207 (xs:List Batch) (g:Nat) (caps:List DV) (q:Batch→Bool) (hq:∀ s ∈ xs,Fn Tryz.prog g (.agg s.row::caps) (.bool (q s))) (hl:xs.length<2 ^ 62):Fn Tryz.prog 161 [.sl (batRows xs),.fn g caps] (.i (idxFrom q xs 0)):=by
 refine z14 19 Tryz.call161 Tryz.func161 rfl (by decide) fun J=>?_
 simp only [go_sem,St.start,Tryz.ntmps161,Tryz.results161]
 repeat (first | refine nx ?_ | (refine z10 fun K hK=>?_;simp only [go_sem];apply hK;clear hK K))
 refine z15 (fun (i:Nat)=>[(8,.d (.i i))]) (fun _=>[]) (fun i=>i≤xs.length∧idxFrom q xs 0=idxFrom q (xs.drop i) i) (fun i=>xs.length - i) 0 ?_ ⟨Nat.zero_le _,rfl⟩ ?_
 ·simp only [go_sem]
  refine weA ?_ ?_ <;> simp
 ·intro i ⟨hi,hq0⟩
  simp only [go_sem]
  repeat (first | refine nx ?_ | (refine z10 fun K hK=>?_;simp only [go_sem];apply hK;clear hK K))
  refine z13 rfl (fun hb=>?_) (fun hb=>?_)
  ·have hlt:i<xs.length:=by simpa using hb
   have hw:IntKind.i64.wrap ((i:Int) + 1)=((i + 1:Nat):Int):=by rw [z17 (by omega)];simp
   obtain ⟨s,hs⟩:∃ s,xs[i]?=some s:=⟨_,List.getElem?_eq_getElem hlt⟩
   rw [z30 hs,idxFrom] at hq0
   repeat (first | refine nx ?_ | (refine z10 fun K hK=>?_;simp only [go_sem];apply hK;clear hK K))
   refine z10 fun K hK=>?_
   simp only [go_sem,hs,List.getElem?_map,z267 hs,Batch.row,hw]
   refine ⟨_,.lent (hf:=hq s (List.mem_of_getElem? hs)) (hd:=z31 _ _ _ _ rfl) (hr:=rfl),?_⟩
   simp only [go_sem]
   apply hK
   clear hK K
   refine z13 rfl (fun hc=>?_) (fun hc=>?_)
   ·rw [hc,if_pos rfl] at hq0
    repeat (first | refine nx ?_ | (refine z10 fun K hK=>?_;simp only [go_sem];apply hK;clear hK K))
    simp only [go_sem,hq0]
   ·rw [hc] at hq0
    repeat (first | refine nx ?_ | (refine z10 fun K hK=>?_;simp only [go_sem,hw];apply hK;clear hK K))
    refine ⟨rfl,i + 1,?_,⟨hlt,hq0⟩,by omega⟩
    refine weA ?_ ?_ <;> simp
  ·have he:i=xs.length:=by (have:¬ i<xs.length:=by simpa using hb);omega
   subst he
   repeat (first | refine nx ?_ | (refine z10 fun K hK=>?_;simp only [go_sem];apply hK;clear hK K))
   simp only [go_sem,hq0,List.drop_length,idxFrom]
theorem zf125 (xs:List Batch) (g:Nat) (caps:List DV) (q:Batch→Bool) (hq:∀ s ∈ xs,Fn Tryz.prog g (.agg s.row::caps) (.bool (q s))) (hl:xs.length<2 ^ 62):Fn Tryz.prog 125 [.sl (batRows xs),.fn g caps] (.bool (xs.any q)):=by
 refine z14 9 Tryz.call125 Tryz.func125 rfl (by decide) fun J=>?_
 simp only [go_sem,St.start,Tryz.ntmps125,Tryz.results125]
 repeat (first | refine nx ?_ | (refine z10 fun K hK=>?_;simp only [go_sem];(repeat (first | (refine ⟨_,.lent (hf:=z1207 xs g caps q hq hl) (hd:=rfl) (hr:=rfl),?_⟩;simp only [go_sem]) | (refine ⟨_,.given (hf:=z1207 xs g caps q hq hl) (hd:=rfl) (ha:=rfl),?_⟩;simp only [go_sem])));apply hK;clear hK K))
 simp only [go_sem,z42]
theorem zf126 (s:Batch) (g:Nat) (caps:List DV) (b:Bool) (hq:Fn Tryz.prog g (.agg s.row::caps) (.bool b)):Fn Tryz.prog 126 [.agg s.row,.ptr [.fn g caps] 0] (.bool (!b)):=by
 refine z14 8 Tryz.call126 Tryz.func126 rfl (by decide) fun J=>?_
 simp only [go_sem,St.start,Tryz.ntmps126,Tryz.results126,Batch.row]
 repeat (first | refine nx ?_ | (refine z10 fun K hK=>?_;simp only [go_sem];apply hK;clear hK K))
 refine z10 fun K hK=>?_
 simp only [go_sem]
 refine ⟨_,.lent (hf:=hq) (hd:=z31 _ _ _ _ rfl) (hr:=rfl),?_⟩
 simp only [go_sem]
 apply hK
 clear hK K
 repeat (first | refine nx ?_ | (refine z10 fun K hK=>?_;simp only [go_sem];apply hK;clear hK K))
 simp only [go_sem]
theorem zf93 (xs:List Batch) (g:Nat) (caps:List DV) (q:Batch→Bool) (hq:∀ s ∈ xs,Fn Tryz.prog g (.agg s.row::caps) (.bool (q s))) (hl:xs.length<2 ^ 62):Fn Tryz.prog 93 [.sl (batRows xs),.fn g caps] (.bool (xs.all q)):=by
 have h:=zf125 xs 126 [.ptr [.fn g caps] 0] (fun s=>!q s) (fun s hs=>zf126 s g caps (q s) (hq s hs)) hl
 refine z14 9 Tryz.call93 Tryz.func93 rfl (by decide) fun J=>?_
 simp only [go_sem,St.start,Tryz.ntmps93,Tryz.results93]
 repeat (first | refine nx ?_ | (refine z10 fun K hK=>?_;simp only [go_sem];(repeat (first | (refine ⟨_,.lent (hf:=h) (hd:=rfl) (hr:=rfl),?_⟩;simp only [go_sem]) | (refine ⟨_,.given (hf:=h) (hd:=rfl) (ha:=rfl),?_⟩;simp only [go_sem])));apply hK;clear hK K))
 simp only [go_sem,z164]
theorem z1206 (xs:List Dish) (g:Nat) (caps:List DV) (q:Dish→Bool) (hq:∀ s ∈ xs,Fn Tryz.prog g (.agg s.row::caps) (.bool (q s))) (hl:xs.length<2 ^ 62):Fn Tryz.prog 162 [.sl (dishRows xs),.fn g caps] (.i (idxFrom q xs 0)):=by
 refine z14 19 Tryz.call162 Tryz.func162 rfl (by decide) fun J=>?_
 simp only [go_sem,St.start,Tryz.ntmps162,Tryz.results162]
 repeat (first | refine nx ?_ | (refine z10 fun K hK=>?_;simp only [go_sem];apply hK;clear hK K))
 refine z15 (fun (i:Nat)=>[(8,.d (.i i))]) (fun _=>[]) (fun i=>i≤xs.length∧idxFrom q xs 0=idxFrom q (xs.drop i) i) (fun i=>xs.length - i) 0 ?_ ⟨Nat.zero_le _,rfl⟩ ?_
 ·simp only [go_sem]
  refine weA ?_ ?_ <;> simp
 ·intro i ⟨hi,hq0⟩
  simp only [go_sem]
  repeat (first | refine nx ?_ | (refine z10 fun K hK=>?_;simp only [go_sem];apply hK;clear hK K))
  refine z13 rfl (fun hb=>?_) (fun hb=>?_)
  ·have hlt:i<xs.length:=by simpa using hb
   have hw:IntKind.i64.wrap ((i:Int) + 1)=((i + 1:Nat):Int):=by rw [z17 (by omega)];simp
   obtain ⟨s,hs⟩:∃ s,xs[i]?=some s:=⟨_,List.getElem?_eq_getElem hlt⟩
   rw [z30 hs,idxFrom] at hq0
   repeat (first | refine nx ?_ | (refine z10 fun K hK=>?_;simp only [go_sem];apply hK;clear hK K))
   refine z10 fun K hK=>?_
   simp only [go_sem,hs,List.getElem?_map,z125 hs,Dish.row,hw]
   refine ⟨_,.lent (hf:=hq s (List.mem_of_getElem? hs)) (hd:=z31 _ _ _ _ rfl) (hr:=rfl),?_⟩
   simp only [go_sem]
   apply hK
   clear hK K
   refine z13 rfl (fun hc=>?_) (fun hc=>?_)
   ·rw [hc,if_pos rfl] at hq0
    repeat (first | refine nx ?_ | (refine z10 fun K hK=>?_;simp only [go_sem];apply hK;clear hK K))
    simp only [go_sem,hq0]
   ·rw [hc] at hq0
    repeat (first | refine nx ?_ | (refine z10 fun K hK=>?_;simp only [go_sem,hw];apply hK;clear hK K))
    refine ⟨rfl,i + 1,?_,⟨hlt,hq0⟩,by omega⟩
    refine weA ?_ ?_ <;> simp
  ·have he:i=xs.length:=by (have:¬ i<xs.length:=by simpa using hb);omega
   subst he
   repeat (first | refine nx ?_ | (refine z10 fun K hK=>?_;simp only [go_sem];apply hK;clear hK K))
   simp only [go_sem,hq0,List.drop_length,idxFrom]
theorem zf127 (xs:List Dish) (g:Nat) (caps:List DV) (q:Dish→Bool) (hq:∀ s ∈ xs,Fn Tryz.prog g (.agg s.row::caps) (.bool (q s))) (hl:xs.length<2 ^ 62):Fn Tryz.prog 127 [.sl (dishRows xs),.fn g caps] (.bool (xs.any q)):=by
 refine z14 9 Tryz.call127 Tryz.func127 rfl (by decide) fun J=>?_
 simp only [go_sem,St.start,Tryz.ntmps127,Tryz.results127]
 repeat (first | refine nx ?_ | (refine z10 fun K hK=>?_;simp only [go_sem];(repeat (first | (refine ⟨_,.lent (hf:=z1206 xs g caps q hq hl) (hd:=rfl) (hr:=rfl),?_⟩;simp only [go_sem]) | (refine ⟨_,.given (hf:=z1206 xs g caps q hq hl) (hd:=rfl) (ha:=rfl),?_⟩;simp only [go_sem])));apply hK;clear hK K))
 simp only [go_sem,z42]
theorem zf128 (s:Dish) (g:Nat) (caps:List DV) (b:Bool) (hq:Fn Tryz.prog g (.agg s.row::caps) (.bool b)):Fn Tryz.prog 128 [.agg s.row,.ptr [.fn g caps] 0] (.bool (!b)):=by
 refine z14 8 Tryz.call128 Tryz.func128 rfl (by decide) fun J=>?_
 simp only [go_sem,St.start,Tryz.ntmps128,Tryz.results128,Dish.row]
 repeat (first | refine nx ?_ | (refine z10 fun K hK=>?_;simp only [go_sem];apply hK;clear hK K))
 refine z10 fun K hK=>?_
 simp only [go_sem]
 refine ⟨_,.lent (hf:=hq) (hd:=z31 _ _ _ _ rfl) (hr:=rfl),?_⟩
 simp only [go_sem]
 apply hK
 clear hK K
 repeat (first | refine nx ?_ | (refine z10 fun K hK=>?_;simp only [go_sem];apply hK;clear hK K))
 simp only [go_sem]
theorem zf94 (xs:List Dish) (g:Nat) (caps:List DV) (q:Dish→Bool) (hq:∀ s ∈ xs,Fn Tryz.prog g (.agg s.row::caps) (.bool (q s))) (hl:xs.length<2 ^ 62):Fn Tryz.prog 94 [.sl (dishRows xs),.fn g caps] (.bool (xs.all q)):=by
 have h:=zf127 xs 128 [.ptr [.fn g caps] 0] (fun s=>!q s) (fun s hs=>zf128 s g caps (q s) (hq s hs)) hl
 refine z14 9 Tryz.call94 Tryz.func94 rfl (by decide) fun J=>?_
 simp only [go_sem,St.start,Tryz.ntmps94,Tryz.results94]
 repeat (first | refine nx ?_ | (refine z10 fun K hK=>?_;simp only [go_sem];(repeat (first | (refine ⟨_,.lent (hf:=h) (hd:=rfl) (hr:=rfl),?_⟩;simp only [go_sem]) | (refine ⟨_,.given (hf:=h) (hd:=rfl) (ha:=rfl),?_⟩;simp only [go_sem])));apply hK;clear hK K))
 simp only [go_sem,z164]
theorem z1208 (xs:List Diners) (g:Nat) (caps:List DV) (q:Diners→Bool) (hq:∀ s ∈ xs,Fn Tryz.prog g (.agg s.row::caps) (.bool (q s))) (hl:xs.length<2 ^ 62):Fn Tryz.prog 160 [.sl (dinRows xs),.fn g caps] (.i (idxFrom q xs 0)):=by
 refine z14 19 Tryz.call160 Tryz.func160 rfl (by decide) fun J=>?_
 simp only [go_sem,St.start,Tryz.ntmps160,Tryz.results160]
 repeat (first | refine nx ?_ | (refine z10 fun K hK=>?_;simp only [go_sem];apply hK;clear hK K))
 refine z15 (fun (i:Nat)=>[(8,.d (.i i))]) (fun _=>[]) (fun i=>i≤xs.length∧idxFrom q xs 0=idxFrom q (xs.drop i) i) (fun i=>xs.length - i) 0 ?_ ⟨Nat.zero_le _,rfl⟩ ?_
 ·simp only [go_sem]
  refine weA ?_ ?_ <;> simp
 ·intro i ⟨hi,hq0⟩
  simp only [go_sem]
  repeat (first | refine nx ?_ | (refine z10 fun K hK=>?_;simp only [go_sem];apply hK;clear hK K))
  refine z13 rfl (fun hb=>?_) (fun hb=>?_)
  ·have hlt:i<xs.length:=by simpa using hb
   have hw:IntKind.i64.wrap ((i:Int) + 1)=((i + 1:Nat):Int):=by rw [z17 (by omega)];simp
   obtain ⟨s,hs⟩:∃ s,xs[i]?=some s:=⟨_,List.getElem?_eq_getElem hlt⟩
   rw [z30 hs,idxFrom] at hq0
   repeat (first | refine nx ?_ | (refine z10 fun K hK=>?_;simp only [go_sem];apply hK;clear hK K))
   refine z10 fun K hK=>?_
   simp only [go_sem,hs,List.getElem?_map,z80 hs,Diners.row,hw]
   refine ⟨_,.lent (hf:=hq s (List.mem_of_getElem? hs)) (hd:=z31 _ _ _ _ rfl) (hr:=rfl),?_⟩
   simp only [go_sem]
   apply hK
   clear hK K
   refine z13 rfl (fun hc=>?_) (fun hc=>?_)
   ·rw [hc,if_pos rfl] at hq0
    repeat (first | refine nx ?_ | (refine z10 fun K hK=>?_;simp only [go_sem];apply hK;clear hK K))
    simp only [go_sem,hq0]
   ·rw [hc] at hq0
    repeat (first | refine nx ?_ | (refine z10 fun K hK=>?_;simp only [go_sem,hw];apply hK;clear hK K))
    refine ⟨rfl,i + 1,?_,⟨hlt,hq0⟩,by omega⟩
    refine weA ?_ ?_ <;> simp
  ·have he:i=xs.length:=by (have:¬ i<xs.length:=by simpa using hb);omega
   subst he
   repeat (first | refine nx ?_ | (refine z10 fun K hK=>?_;simp only [go_sem];apply hK;clear hK K))
   simp only [go_sem,hq0,List.drop_length,idxFrom]
theorem zf123 (xs:List Diners) (g:Nat) (caps:List DV) (q:Diners→Bool) (hq:∀ s ∈ xs,Fn Tryz.prog g (.agg s.row::caps) (.bool (q s))) (hl:xs.length<2 ^ 62):Fn Tryz.prog 123 [.sl (dinRows xs),.fn g caps] (.bool (xs.any q)):=by
 refine z14 9 Tryz.call123 Tryz.func123 rfl (by decide) fun J=>?_
 simp only [go_sem,St.start,Tryz.ntmps123,Tryz.results123]
 repeat (first | refine nx ?_ | (refine z10 fun K hK=>?_;simp only [go_sem];(repeat (first | (refine ⟨_,.lent (hf:=z1208 xs g caps q hq hl) (hd:=rfl) (hr:=rfl),?_⟩;simp only [go_sem]) | (refine ⟨_,.given (hf:=z1208 xs g caps q hq hl) (hd:=rfl) (ha:=rfl),?_⟩;simp only [go_sem])));apply hK;clear hK K))
 simp only [go_sem,z42]
theorem zf124 (s:Diners) (g:Nat) (caps:List DV) (b:Bool) (hq:Fn Tryz.prog g (.agg s.row::caps) (.bool b)):Fn Tryz.prog 124 [.agg s.row,.ptr [.fn g caps] 0] (.bool (!b)):=by
 refine z14 8 Tryz.call124 Tryz.func124 rfl (by decide) fun J=>?_
 simp only [go_sem,St.start,Tryz.ntmps124,Tryz.results124,Diners.row]
 repeat (first | refine nx ?_ | (refine z10 fun K hK=>?_;simp only [go_sem];apply hK;clear hK K))
 refine z10 fun K hK=>?_
 simp only [go_sem]
 refine ⟨_,.lent (hf:=hq) (hd:=z31 _ _ _ _ rfl) (hr:=rfl),?_⟩
 simp only [go_sem]
 apply hK
 clear hK K
 repeat (first | refine nx ?_ | (refine z10 fun K hK=>?_;simp only [go_sem];apply hK;clear hK K))
 simp only [go_sem]
theorem zf92 (xs:List Diners) (g:Nat) (caps:List DV) (q:Diners→Bool) (hq:∀ s ∈ xs,Fn Tryz.prog g (.agg s.row::caps) (.bool (q s))) (hl:xs.length<2 ^ 62):Fn Tryz.prog 92 [.sl (dinRows xs),.fn g caps] (.bool (xs.all q)):=by
 have h:=zf123 xs 124 [.ptr [.fn g caps] 0] (fun s=>!q s) (fun s hs=>zf124 s g caps (q s) (hq s hs)) hl
 refine z14 9 Tryz.call92 Tryz.func92 rfl (by decide) fun J=>?_
 simp only [go_sem,St.start,Tryz.ntmps92,Tryz.results92]
 repeat (first | refine nx ?_ | (refine z10 fun K hK=>?_;simp only [go_sem];(repeat (first | (refine ⟨_,.lent (hf:=h) (hd:=rfl) (hr:=rfl),?_⟩;simp only [go_sem]) | (refine ⟨_,.given (hf:=h) (hd:=rfl) (ha:=rfl),?_⟩;simp only [go_sem])));apply hK;clear hK K))
 simp only [go_sem,z164]
theorem z1205 (xs:List (List Diners)) (g:Nat) (caps:List DV) (q:(List Diners)→Bool) (hq:∀ s ∈ xs,Fn Tryz.prog g (.sl (dinRows s)::caps) (.bool (q s))) (hl:xs.length<2 ^ 62):Fn Tryz.prog 163 [.sl (dayRows xs),.fn g caps] (.i (idxFrom q xs 0)):=by
 refine z14 19 Tryz.call163 Tryz.func163 rfl (by decide) fun J=>?_
 simp only [go_sem,St.start,Tryz.ntmps163,Tryz.results163]
 repeat (first | refine nx ?_ | (refine z10 fun K hK=>?_;simp only [go_sem];apply hK;clear hK K))
 refine z15 (fun (i:Nat)=>[(8,.d (.i i))]) (fun _=>[]) (fun i=>i≤xs.length∧idxFrom q xs 0=idxFrom q (xs.drop i) i) (fun i=>xs.length - i) 0 ?_ ⟨Nat.zero_le _,rfl⟩ ?_
 ·simp only [go_sem]
  refine weA ?_ ?_ <;> simp
 ·intro i ⟨hi,hq0⟩
  simp only [go_sem]
  repeat (first | refine nx ?_ | (refine z10 fun K hK=>?_;simp only [go_sem];apply hK;clear hK K))
  refine z13 rfl (fun hb=>?_) (fun hb=>?_)
  ·have hlt:i<xs.length:=by simpa using hb
   have hw:IntKind.i64.wrap ((i:Int) + 1)=((i + 1:Nat):Int):=by rw [z17 (by omega)];simp
   obtain ⟨s,hs⟩:∃ s,xs[i]?=some s:=⟨_,List.getElem?_eq_getElem hlt⟩
   rw [z30 hs,idxFrom] at hq0
   repeat (first | refine nx ?_ | (refine z10 fun K hK=>?_;simp only [go_sem];apply hK;clear hK K))
   refine z10 fun K hK=>?_
   simp only [go_sem,hs,List.getElem?_map,z81 hs,hw]
   refine ⟨_,.lent (hf:=hq s (List.mem_of_getElem? hs)) (hd:=z31 _ _ _ _ rfl) (hr:=rfl),?_⟩
   simp only [go_sem]
   apply hK
   clear hK K
   refine z13 rfl (fun hc=>?_) (fun hc=>?_)
   ·rw [hc,if_pos rfl] at hq0
    repeat (first | refine nx ?_ | (refine z10 fun K hK=>?_;simp only [go_sem];apply hK;clear hK K))
    simp only [go_sem,hq0]
   ·rw [hc] at hq0
    repeat (first | refine nx ?_ | (refine z10 fun K hK=>?_;simp only [go_sem,hw];apply hK;clear hK K))
    refine ⟨rfl,i + 1,?_,⟨hlt,hq0⟩,by omega⟩
    refine weA ?_ ?_ <;> simp
  ·have he:i=xs.length:=by (have:¬ i<xs.length:=by simpa using hb);omega
   subst he
   repeat (first | refine nx ?_ | (refine z10 fun K hK=>?_;simp only [go_sem];apply hK;clear hK K))
   simp only [go_sem,hq0,List.drop_length,idxFrom]
theorem zf129 (xs:List (List Diners)) (g:Nat) (caps:List DV) (q:(List Diners)→Bool) (hq:∀ s ∈ xs,Fn Tryz.prog g (.sl (dinRows s)::caps) (.bool (q s))) (hl:xs.length<2 ^ 62):Fn Tryz.prog 129 [.sl (dayRows xs),.fn g caps] (.bool (xs.any q)):=by
 refine z14 9 Tryz.call129 Tryz.func129 rfl (by decide) fun J=>?_
 simp only [go_sem,St.start,Tryz.ntmps129,Tryz.results129]
 repeat (first | refine nx ?_ | (refine z10 fun K hK=>?_;simp only [go_sem];(repeat (first | (refine ⟨_,.lent (hf:=z1205 xs g caps q hq hl) (hd:=rfl) (hr:=rfl),?_⟩;simp only [go_sem]) | (refine ⟨_,.given (hf:=z1205 xs g caps q hq hl) (hd:=rfl) (ha:=rfl),?_⟩;simp only [go_sem])));apply hK;clear hK K))
 simp only [go_sem,z42]
theorem zf130 (s:(List Diners)) (g:Nat) (caps:List DV) (b:Bool) (hq:Fn Tryz.prog g (.sl (dinRows s)::caps) (.bool b)):Fn Tryz.prog 130 [.sl (dinRows s),.ptr [.fn g caps] 0] (.bool (!b)):=by
 refine z14 8 Tryz.call130 Tryz.func130 rfl (by decide) fun J=>?_
 simp only [go_sem,St.start,Tryz.ntmps130,Tryz.results130]
 repeat (first | refine nx ?_ | (refine z10 fun K hK=>?_;simp only [go_sem];apply hK;clear hK K))
 refine z10 fun K hK=>?_
 simp only [go_sem]
 refine ⟨_,.lent (hf:=hq) (hd:=z31 _ _ _ _ rfl) (hr:=rfl),?_⟩
 simp only [go_sem]
 apply hK
 clear hK K
 repeat (first | refine nx ?_ | (refine z10 fun K hK=>?_;simp only [go_sem];apply hK;clear hK K))
 simp only [go_sem]
theorem zf95 (xs:List (List Diners)) (g:Nat) (caps:List DV) (q:(List Diners)→Bool) (hq:∀ s ∈ xs,Fn Tryz.prog g (.sl (dinRows s)::caps) (.bool (q s))) (hl:xs.length<2 ^ 62):Fn Tryz.prog 95 [.sl (dayRows xs),.fn g caps] (.bool (xs.all q)):=by
 have h:=zf129 xs 130 [.ptr [.fn g caps] 0] (fun s=>!q s) (fun s hs=>zf130 s g caps (q s) (hq s hs)) hl
 refine z14 9 Tryz.call95 Tryz.func95 rfl (by decide) fun J=>?_
 simp only [go_sem,St.start,Tryz.ntmps95,Tryz.results95]
 repeat (first | refine nx ?_ | (refine z10 fun K hK=>?_;simp only [go_sem];(repeat (first | (refine ⟨_,.lent (hf:=h) (hd:=rfl) (hr:=rfl),?_⟩;simp only [go_sem]) | (refine ⟨_,.given (hf:=h) (hd:=rfl) (ha:=rfl),?_⟩;simp only [go_sem])));apply hK;clear hK K))
 simp only [go_sem,z164]
end Go.Ab
namespace Go.Ab
open Go.RowKit Go.Proofs
set_option maxHeartbeats 8000000
set_option maxRecDepth 20000
attribute [local irreducible] WalkL Walk
def setB (n:Int):Bool:=withinB n 0 255
def batchB (goods:Int) (b:Batch):Bool:=withinB b.good 0 (goods - 1) && (withinB b.amount 0 1000000 && withinB b.last 0 30)
def needB (n:Int):Bool:=withinB n 0 5000
def dishB (goods:Int) (d:Dish):Bool:=((d.needs.length:Int) == goods) && d.needs.all needB
def groupB (g:Diners):Bool:=setB g.no && (decide (0≤g.count.lo) && (decide (g.count.lo≤g.count.hi) && decide (g.count.hi≤100)))
def dayB (l:List Diners):Bool:=decide ((l.length:Int)≤3) && l.all groupB
def badKit (k:Kitchen):Bool:=!withinB (k.allerg.length:Int) 1 6 || (!k.allerg.all setB || (decide ((k.batches.length:Int) > 10) || (!k.batches.all (batchB k.allerg.length) || (!withinB (k.dishes.length:Int) 1 5 || (!k.dishes.all (dishB k.allerg.length) || (!withinB (k.days.length:Int) 1 6 || !k.days.all dayB))))))
def kitE (k:Kitchen):Int:=if badKit k then 70 else 0
theorem z1074 (n lo hi:Int):Fn Tryz.prog 59 [.i n,.i lo,.i hi] (.bool (withinB n lo hi)):=by
 unfold withinB
 refine z14 15 Tryz.call59 Tryz.func59 rfl (by decide) fun J=>?_
 simp only [go_sem,St.start,Tryz.ntmps59,Tryz.results59]
 cases q:decide (lo≤n)
 ·repeat (first | refine nx ?_ | (refine z10 fun K hK=>?_;simp only [go_sem,q];apply hK;clear hK K))
  simp only [go_sem,Bool.false_and]
 ·repeat (first | refine nx ?_ | (refine z10 fun K hK=>?_;simp only [go_sem,q];apply hK;clear hK K))
  simp only [go_sem,Bool.true_and]
theorem zf90 (n:Int):Fn Tryz.prog 90 [.i n] (.bool (setB n)):=by
 have h:=z1074 n 0 255
 refine z14 5 Tryz.call90 Tryz.func90 rfl (by decide) fun J=>?_
 simp only [go_sem,St.start,Tryz.ntmps90,Tryz.results90]
 repeat (first | refine nx ?_ | (refine z10 fun K hK=>?_;simp only [go_sem];(repeat (first | (refine ⟨_,.lent (hf:=h) (hd:=rfl) (hr:=rfl),?_⟩;simp only [go_sem]) | (refine ⟨_,.given (hf:=h) (hd:=rfl) (ha:=rfl),?_⟩;simp only [go_sem])));apply hK;clear hK K))
 simp only [go_sem,setB]
theorem zf86 (n:Int):Fn Tryz.prog 86 [.i n] (.bool (needB n)):=by
 have h:=z1074 n 0 5000
 refine z14 5 Tryz.call86 Tryz.func86 rfl (by decide) fun J=>?_
 simp only [go_sem,St.start,Tryz.ntmps86,Tryz.results86]
 repeat (first | refine nx ?_ | (refine z10 fun K hK=>?_;simp only [go_sem];(repeat (first | (refine ⟨_,.lent (hf:=h) (hd:=rfl) (hr:=rfl),?_⟩;simp only [go_sem]) | (refine ⟨_,.given (hf:=h) (hd:=rfl) (ha:=rfl),?_⟩;simp only [go_sem])));apply hK;clear hK K))
 simp only [go_sem,needB]
theorem zf85 (goods:Int) (b:Batch) (hg:0≤goods∧goods<2 ^ 30):Fn Tryz.prog 85 [.agg b.row,.ptr [.i goods] 0] (.bool (batchB goods b)):=by
 have h1:=z1074 b.good 0 (goods - 1)
 have h2:=z1074 b.amount 0 1000000
 have h3:=z1074 b.last 0 30
 have w:IntKind.i64.wrap (goods - 1)=goods - 1:=z17 (by omega)
 unfold batchB
 obtain ⟨b1,e1⟩:∃ x,x=withinB b.good 0 (goods - 1):=⟨_,rfl⟩
 obtain ⟨b2,e2⟩:∃ x,x=withinB b.amount 0 1000000:=⟨_,rfl⟩
 obtain ⟨b3,e3⟩:∃ x,x=withinB b.last 0 30:=⟨_,rfl⟩
 rw [← e1] at h1 ⊢
 rw [← e2] at h2 ⊢
 rw [← e3] at h3 ⊢
 refine z14 19 Tryz.call85 Tryz.func85 rfl (by decide) fun J=>?_
 simp only [go_sem,St.start,Tryz.ntmps85,Tryz.results85,Batch.row]
 cases b1 <;> cases b2
 all_goals
  repeat (first | refine nx ?_ | (refine z10 fun K hK=>?_;simp only [go_sem,w];(repeat (first | (refine ⟨_,.lent (hf:=h1) (hd:=rfl) (hr:=rfl),?_⟩;simp only [go_sem,w]) | (refine ⟨_,.lent (hf:=h2) (hd:=rfl) (hr:=rfl),?_⟩;simp only [go_sem,w]) | (refine ⟨_,.lent (hf:=h3) (hd:=rfl) (hr:=rfl),?_⟩;simp only [go_sem,w]) | (refine ⟨_,.given (hf:=h1) (hd:=rfl) (ha:=rfl),?_⟩;simp only [go_sem,w]) | (refine ⟨_,.given (hf:=h2) (hd:=rfl) (ha:=rfl),?_⟩;simp only [go_sem,w]) | (refine ⟨_,.given (hf:=h3) (hd:=rfl) (ha:=rfl),?_⟩;simp only [go_sem,w])));apply hK;clear hK K))
  simp only [go_sem,Bool.false_and,Bool.true_and]
theorem zf87 (goods:Int) (d:Dish) (hd:d.needs.length<2 ^ 30):Fn Tryz.prog 87 [.agg d.row,.ptr [.i goods] 0,.ptr [.fn 86 []] 0] (.bool (dishB goods d)):=by
 have h:=zf88 d.needs 86 [] needB (fun n _=>zf86 n) (by omega)
 unfold dishB
 obtain ⟨b1,e1⟩:∃ x,((d.needs.length:Int) == goods)=x:=⟨_,rfl⟩
 rw [e1]
 refine z14 16 Tryz.call87 Tryz.func87 rfl (by decide) fun J=>?_
 simp only [go_sem,St.start,Tryz.ntmps87,Tryz.results87,Dish.row]
 cases b1
 all_goals
  repeat (first | refine nx ?_ | (refine z10 fun K hK=>?_;simp only [go_sem,e1];(repeat (first | (refine ⟨_,.lent (hf:=h) (hd:=rfl) (hr:=rfl),?_⟩;simp only [go_sem,e1]) | (refine ⟨_,.given (hf:=h) (hd:=rfl) (ha:=rfl),?_⟩;simp only [go_sem,e1])));apply hK;clear hK K))
  simp only [go_sem,Bool.false_and,Bool.true_and]
theorem zf89 (g:Diners):Fn Tryz.prog 89 [.agg g.row] (.bool (groupB g)):=by
 have h:=zf90 g.no
 unfold groupB
 obtain ⟨b1,e1⟩:∃ x,x=setB g.no:=⟨_,rfl⟩
 obtain ⟨b2,e2⟩:∃ x,decide (0≤g.count.lo)=x:=⟨_,rfl⟩
 obtain ⟨b3,e3⟩:∃ x,decide (g.count.lo≤g.count.hi)=x:=⟨_,rfl⟩
 rw [← e1] at h ⊢
 rw [e2,e3]
 refine z14 27 Tryz.call89 Tryz.func89 rfl (by decide) fun J=>?_
 simp only [go_sem,St.start,Tryz.ntmps89,Tryz.results89,Diners.row]
 cases b1 <;> cases b2 <;> cases b3
 all_goals
  repeat (first | refine nx ?_ | (refine z10 fun K hK=>?_;simp only [go_sem,e2,e3];(repeat (first | (refine ⟨_,.lent (hf:=h) (hd:=rfl) (hr:=rfl),?_⟩;simp only [go_sem,e2,e3]) | (refine ⟨_,.given (hf:=h) (hd:=rfl) (ha:=rfl),?_⟩;simp only [go_sem,e2,e3])));apply hK;clear hK K))
  simp only [go_sem,Bool.false_and,Bool.true_and]
theorem zf91 (l:List Diners) (hl:l.length<2 ^ 30):Fn Tryz.prog 91 [.sl (dinRows l),.ptr [.fn 89 []] 0] (.bool (dayB l)):=by
 have h:=zf92 l 89 [] groupB (fun g _=>zf89 g) (by omega)
 unfold dayB
 obtain ⟨b1,e1⟩:∃ x,decide ((l.length:Int)≤3)=x:=⟨_,rfl⟩
 rw [e1]
 refine z14 12 Tryz.call91 Tryz.func91 rfl (by decide) fun J=>?_
 simp only [go_sem,St.start,Tryz.ntmps91,Tryz.results91]
 cases b1
 all_goals
  repeat (first | refine nx ?_ | (refine z10 fun K hK=>?_;simp only [go_sem,e1];(repeat (first | (refine ⟨_,.lent (hf:=h) (hd:=rfl) (hr:=rfl),?_⟩;simp only [go_sem,e1]) | (refine ⟨_,.given (hf:=h) (hd:=rfl) (ha:=rfl),?_⟩;simp only [go_sem,e1])));apply hK;clear hK K))
  simp only [go_sem,Bool.false_and,Bool.true_and]
theorem zf61 (k:Kitchen) (hs:KitSmall k):Fn Tryz.prog 61 [.agg k.cells] (.i (kitE k)):=by
 have a1:=hs.allerg
 have h1:=z1074 (k.allerg.length:Int) 1 6
 have h2:=zf88 k.allerg 90 [] setB (fun n _=>zf90 n) (by omega)
 have h4:=zf93 k.batches 85 [.ptr [.i (k.allerg.length:Int)] 0] (batchB k.allerg.length) (fun b _=>zf85 _ b (by omega)) (by have:=hs.batches;omega)
 have h5:=z1074 (k.dishes.length:Int) 1 5
 have h6:=zf94 k.dishes 87 [.ptr [.i (k.allerg.length:Int)] 0,.ptr [.fn 86 []] 0] (dishB k.allerg.length) (fun d hd=>zf87 _ d (hs.needs d hd)) (by have:=hs.dishes;omega)
 have h7:=z1074 (k.days.length:Int) 1 6
 have h8:=zf95 k.days 91 [.ptr [.fn 89 []] 0] dayB (fun d hd=>zf91 d (hs.groups d hd)) (by have:=hs.days;omega)
 unfold kitE
 refine z14 65 Tryz.call61 Tryz.func61 rfl (by decide) fun J=>?_
 simp only [go_sem,St.start,Tryz.ntmps61,Tryz.results61,Kitchen.cells]
 repeat (first | refine nx ?_ | (refine z10 fun K hK=>?_;simp only [go_sem];apply hK;clear hK K))
 refine z56 [(64,.d (.bool (badKit k)))] [] ?_ ?_
 ·refine z10 fun K hK=>?_
  simp only [go_sem]
  refine ⟨_,.lent (hf:=h1) (hd:=rfl) (hr:=rfl),?_⟩
  simp only [go_sem]
  by_cases ho0:(!withinB (k.allerg.length:Int) 1 6)=true
  ·simp only [go_sem,ho0]
   apply hK
   clear hK K
   refine z21 ?_
   refine z19 ?_
   refine ⟨rfl,?_⟩
   rw [show (badKit k)=(true) from by simp [badKit,ho0]]
   simp only [go_sem]
   refine weA ?_ ?_ <;> simp
  ·simp only [go_sem,ho0]
   refine ⟨_,.lent (hf:=h2) (hd:=rfl) (hr:=rfl),?_⟩
   simp only [go_sem,ho0]
   by_cases ho1:(!k.allerg.all setB)=true
   ·simp only [go_sem,ho0,ho1]
    apply hK
    clear hK K
    refine z21 ?_
    refine z19 ?_
    refine ⟨rfl,?_⟩
    rw [show (badKit k)=(true) from by simp [badKit,ho0,ho1]]
    simp only [go_sem]
    refine weA ?_ ?_ <;> simp
   ·simp only [go_sem,ho0,ho1]
    by_cases ho2:(decide ((k.batches.length:Int) > 10))=true
    ·simp only [go_sem,ho0,ho1,ho2]
     apply hK
     clear hK K
     refine z21 ?_
     refine z19 ?_
     refine ⟨rfl,?_⟩
     rw [show (badKit k)=(true) from by simp [badKit,ho0,ho1,ho2]]
     simp only [go_sem]
     refine weA ?_ ?_ <;> simp
    ·simp only [go_sem,ho0,ho1,ho2]
     refine ⟨_,.lent (hf:=h4) (hd:=rfl) (hr:=rfl),?_⟩
     simp only [go_sem,ho0,ho1,ho2]
     by_cases ho3:(!k.batches.all (batchB k.allerg.length))=true
     ·simp only [go_sem,ho0,ho1,ho2,ho3]
      apply hK
      clear hK K
      refine z21 ?_
      refine z19 ?_
      refine ⟨rfl,?_⟩
      rw [show (badKit k)=(true) from by simp [badKit,ho0,ho1,ho2,ho3]]
      simp only [go_sem]
      refine weA ?_ ?_ <;> simp
     ·simp only [go_sem,ho0,ho1,ho2,ho3]
      refine ⟨_,.lent (hf:=h5) (hd:=rfl) (hr:=rfl),?_⟩
      simp only [go_sem,ho0,ho1,ho2,ho3]
      by_cases ho4:(!withinB (k.dishes.length:Int) 1 5)=true
      ·simp only [go_sem,ho0,ho1,ho2,ho3,ho4]
       apply hK
       clear hK K
       refine z21 ?_
       refine z19 ?_
       refine ⟨rfl,?_⟩
       rw [show (badKit k)=(true) from by simp [badKit,ho0,ho1,ho2,ho3,ho4]]
       simp only [go_sem]
       refine weA ?_ ?_ <;> simp
      ·simp only [go_sem,ho0,ho1,ho2,ho3,ho4]
       refine ⟨_,.lent (hf:=h6) (hd:=rfl) (hr:=rfl),?_⟩
       simp only [go_sem,ho0,ho1,ho2,ho3,ho4]
       by_cases ho5:(!k.dishes.all (dishB k.allerg.length))=true
       ·simp only [go_sem,ho0,ho1,ho2,ho3,ho4,ho5]
        apply hK
        clear hK K
        refine z21 ?_
        refine z19 ?_
        refine ⟨rfl,?_⟩
        rw [show (badKit k)=(true) from by simp [badKit,ho0,ho1,ho2,ho3,ho4,ho5]]
        simp only [go_sem]
        refine weA ?_ ?_ <;> simp
       ·simp only [go_sem,ho0,ho1,ho2,ho3,ho4,ho5]
        refine ⟨_,.lent (hf:=h7) (hd:=rfl) (hr:=rfl),?_⟩
        simp only [go_sem,ho0,ho1,ho2,ho3,ho4,ho5]
        by_cases ho6:(!withinB (k.days.length:Int) 1 6)=true
        ·simp only [go_sem,ho0,ho1,ho2,ho3,ho4,ho5,ho6]
         apply hK
         clear hK K
         refine z21 ?_
         refine z19 ?_
         refine ⟨rfl,?_⟩
         rw [show (badKit k)=(true) from by simp [badKit,ho0,ho1,ho2,ho3,ho4,ho5,ho6]]
         simp only [go_sem]
         refine weA ?_ ?_ <;> simp
        ·simp only [go_sem,ho0,ho1,ho2,ho3,ho4,ho5,ho6]
         refine ⟨_,.lent (hf:=h8) (hd:=rfl) (hr:=rfl),?_⟩
         simp only [go_sem,ho0,ho1,ho2,ho3,ho4,ho5,ho6]
         apply hK
         clear hK K
         refine z21 ?_
         refine z19 ?_
         refine ⟨rfl,?_⟩
         rw [show (badKit k)=(!k.days.all dayB) from by simp [badKit,ho0,ho1,ho2,ho3,ho4,ho5,ho6]]
         simp only [go_sem]
         refine weA ?_ ?_ <;> simp
 simp only [go_sem]
 repeat (first | refine nx ?_ | (refine z10 fun K hK=>?_;simp only [go_sem];apply hK;clear hK K))
 refine z13 rfl (fun hc=>?_) (fun hc=>?_)
 ·rw [hc]
  repeat (first | refine nx ?_ | (refine z10 fun K hK=>?_;simp only [go_sem];apply hK;clear hK K))
  simp only [go_sem,if_true]
 ·rw [hc]
  repeat (first | refine nx ?_ | (refine z10 fun K hK=>?_;simp only [go_sem];apply hK;clear hK K))
  simp only [go_sem,Bool.false_eq_true,if_false]
end Go.Ab
namespace Go.Ab
open Go.RowKit Go.Proofs
set_option maxHeartbeats 8000000
set_option maxRecDepth 20000
attribute [local irreducible] WalkL Walk
def badGood (a:List Int) (needs:List Int) (no:Int) (i:Nat):Bool:=decide (getI needs (i:Int) > 0) && (bAnd .i64 (getI a (i:Int)) no != 0)
def suitTo (a:List Int) (needs:List Int) (no:Int):Nat→Bool
 | 0=>true
 | i + 1=>suitTo a needs no i && !badGood a needs no i
def noDish:Dish:=⟨[]⟩
def dishAt (k:Kitchen) (n:Int):Dish:=k.dishes.getD n.toNat noDish
def suitsB (k:Kitchen) (n:Int) (no:Int):Bool:=suitTo k.allerg (dishAt k n).needs no (dishAt k n).needs.length
theorem z325 {a needs:List Int} {no:Int} {i:Nat} (h:badGood a needs no i=true):∀ {m:Nat},i<m→suitTo a needs no m=false:=by
 intro m hm
 induction hm with
 | refl=>rw [suitTo,h];simp
 | step _ ih=>rw [suitTo,ih];rfl
theorem z27 {l:List Int} {i:Nat} (h:i<l.length):(intRows l)[i]?=some [.i (getI l (i:Int))]:=by
 obtain ⟨x,hx⟩:∃ x,l[i]?=some x:=⟨_,List.getElem?_eq_getElem h⟩
 rw [z38 hx,getI,Int.toNat_natCast,List.getD,hx]
 rfl
theorem z538 {k:Kitchen} {n:Nat} (h:n<k.dishes.length):(dishRows k.dishes)[n]?=some [.sl (intRows (dishAt k (n:Int)).needs)]:=by
 obtain ⟨x,hx⟩:∃ x,k.dishes[n]?=some x:=⟨_,List.getElem?_eq_getElem h⟩
 rw [z125 hx,dishAt,Int.toNat_natCast,List.getD,hx]
 rfl
structure KitGood (k:Kitchen):Prop where
 goods:1≤k.allerg.length∧k.allerg.length≤6
 allerg:∀ n ∈ k.allerg,0≤n∧n≤255
 batches:k.batches.length≤10
 batch:∀ b ∈ k.batches,(0≤b.good∧b.good<k.allerg.length)∧(0≤b.amount∧b.amount≤1000000)∧(0≤b.last∧b.last≤30)
 dishes:1≤k.dishes.length∧k.dishes.length≤5
 needs:∀ d ∈ k.dishes,d.needs.length=k.allerg.length∧∀ n ∈ d.needs,0≤n∧n≤5000
 days:1≤k.days.length∧k.days.length≤6
 groups:∀ d ∈ k.days,d.length≤3∧∀ g ∈ d,(0≤g.no∧g.no≤255)∧(0≤g.count.lo∧g.count.lo≤g.count.hi∧g.count.hi≤100)
theorem z192 {k:Kitchen} (h:badKit k=false):KitGood k:=by
 simp only [badKit,Bool.or_eq_false_iff,Bool.not_eq_false',decide_eq_false_iff_not,List.all_eq_true] at h
 obtain ⟨h1,h2,h3,h4,h5,h6,h7,h8⟩:=h
 have h1:=z24.1 h1
 have h5:=z24.1 h5
 have h7:=z24.1 h7
 refine ⟨by omega,fun n hn=>z24.1 (h2 n hn),by omega,fun b hb=>?_,by omega,fun d hd=>?_,by omega,fun d hd=>?_⟩
 ·have:=h4 b hb
  simp only [batchB,Bool.and_eq_true] at this
  have q1:=z24.1 this.1
  exact ⟨by omega,z24.1 this.2.1,z24.1 this.2.2⟩
 ·have:=h6 d hd
  simp only [dishB,Bool.and_eq_true,beq_iff_eq,List.all_eq_true] at this
  exact ⟨by omega,fun n hn=>z24.1 (this.2 n hn)⟩
 ·have:=h8 d hd
  simp only [dayB,Bool.and_eq_true,decide_eq_true_eq,List.all_eq_true] at this
  refine ⟨by omega,fun g hg=>?_⟩
  have:=this.2 g hg
  simp only [groupB,Bool.and_eq_true,decide_eq_true_eq] at this
  exact ⟨z24.1 this.1,this.2⟩
theorem z179 {k:Kitchen}:kitE k=0↔badKit k=false:=by
 unfold kitE
 cases badKit k <;> simp
theorem z300 {k:Kitchen} (hg:KitGood k) {n:Nat} (h:n<k.dishes.length):(dishAt k (n:Int)).needs.length=k.allerg.length:=by
 obtain ⟨x,hx⟩:∃ x,k.dishes[n]?=some x:=⟨_,List.getElem?_eq_getElem h⟩
 have:dishAt k (n:Int)=x:=by rw [dishAt,Int.toNat_natCast,List.getD,hx];rfl
 rw [this]
 exact (hg.needs x (List.mem_of_getElem? hx)).1
theorem zf117 (k:Kitchen) (hg:KitGood k) (n:Nat) (no:Int) (hn:n<k.dishes.length):Fn Tryz.prog 117 [.agg k.cells,.i (n:Int),.i no] (.bool (suitsB k (n:Int) no)):=by
 have gd:=z538 hn
 have hl:=z300 hg hn
 have hgo:=hg.goods
 have hnn:¬ ((n:Int)<0):=by omega
 unfold suitsB
 obtain ⟨N,hN⟩:∃ N,N=(dishAt k (n:Int)).needs:=⟨_,rfl⟩
 rw [← hN] at gd hl ⊢
 refine z14 36 Tryz.call117 Tryz.func117 rfl (by decide) fun J=>?_
 simp only [go_sem,St.start,Tryz.ntmps117,Tryz.results117,Kitchen.cells]
 repeat (first | refine nx ?_ | (refine z10 fun K hK=>?_;simp only [go_sem,gd,hnn];apply hK;clear hK K))
 refine z15 (fun (i:Nat)=>[(17,.d (.i (i:Int)))]) (fun _=>[]) (fun i=>i≤N.length∧suitTo k.allerg N no i=true) (fun i=>N.length - i) 0 ?_ ⟨Nat.zero_le _,rfl⟩ ?_
 ·simp only [go_sem]
  refine weA ?_ ?_ <;> simp
 ·rintro i ⟨hi,hs⟩
  simp only [go_sem]
  repeat (first | refine nx ?_ | (refine z10 fun K hK=>?_;simp only [go_sem];apply hK;clear hK K))
  refine z13 rfl (fun hb=>?_) (fun hb=>?_)
  ·have hlt:i<N.length:=by simpa using hb
   have hw:IntKind.i64.wrap ((i:Int) + 1)=((i + 1:Nat):Int):=by rw [z17 (by omega)];simp
   have g1:=z27 hlt
   have g2:=z27 (l:=k.allerg) (i:=i) (by omega)
   have hni:¬ ((i:Int)<0):=by omega
   cases q1:decide (getI N (i:Int) > 0)
   ·have hbg:badGood k.allerg N no i=false:=by rw [badGood,q1];rfl
    repeat (first | refine z12 rfl ?_ | refine z11 rfl ?_ | refine nx ?_ | (refine z10 fun K hK=>?_;simp only [go_sem,g1,q1,hw];apply hK;clear hK K))
    refine ⟨rfl,i + 1,?_,⟨hlt,by rw [suitTo,hs,hbg];rfl⟩,by omega⟩
    refine weA ?_ ?_ <;> simp
   ·cases q2:(bAnd .i64 (getI k.allerg (i:Int)) no != 0)
    ·have hbg:badGood k.allerg N no i=false:=by rw [badGood,q2,Bool.and_false]
     repeat (first | refine z12 rfl ?_ | refine z11 rfl ?_ | refine nx ?_ | (refine z10 fun K hK=>?_;simp only [go_sem,g1,g2,q1,q2,hni,hw];apply hK;clear hK K))
     refine ⟨rfl,i + 1,?_,⟨hlt,by rw [suitTo,hs,hbg];rfl⟩,by omega⟩
     refine weA ?_ ?_ <;> simp
    ·have hbg:badGood k.allerg N no i=true:=by rw [badGood,q1,q2];rfl
     rw [z325 hbg hlt]
     repeat (first | refine z12 rfl ?_ | refine z11 rfl ?_ | refine nx ?_ | (refine z10 fun K hK=>?_;simp only [go_sem,g1,g2,q1,q2,hni];apply hK;clear hK K))
     simp only [go_sem]
  ·have he:i=N.length:=by (have:¬ i<N.length:=by simpa using hb);omega
   subst he
   rw [hs]
   repeat (first | refine nx ?_ | (refine z10 fun K hK=>?_;simp only [go_sem];apply hK;clear hK K))
   simp only [go_sem]
def menuB (k:Kitchen) (n:Int) (g:Diners):Bool:=withinB n 0 ((k.dishes.length:Int) - 1) && suitsB k n g.no
theorem zf78 (k:Kitchen) (hg:KitGood k) (n:Int) (g:Diners):Fn Tryz.prog 78 [.agg k.cells,.i n,.agg g.row] (.bool (menuB k n g)):=by
 have hd:=hg.dishes
 have h1:=z1074 n 0 ((k.dishes.length:Int) - 1)
 have w:IntKind.i64.wrap ((k.dishes.length:Int) - 1)=(k.dishes.length:Int) - 1:=z17 (by omega)
 unfold menuB
 cases q:withinB n 0 ((k.dishes.length:Int) - 1)
 ·rw [q] at h1
  refine z14 21 Tryz.call78 Tryz.func78 rfl (by decide) fun J=>?_
  simp only [go_sem,St.start,Tryz.ntmps78,Tryz.results78,Kitchen.cells,Diners.row]
  repeat (first | refine nx ?_ | (refine z10 fun K hK=>?_;simp only [go_sem,w];(repeat (first | (refine ⟨_,.lent (hf:=h1) (hd:=rfl) (hr:=rfl),?_⟩;simp only [go_sem,w]) | (refine ⟨_,.given (hf:=h1) (hd:=rfl) (ha:=rfl),?_⟩;simp only [go_sem,w])));apply hK;clear hK K))
  simp only [go_sem,Bool.false_and]
 ·rw [q] at h1
  have r:=z24.1 q
  obtain ⟨m,rfl⟩:∃ m:Nat,n=m:=⟨n.toNat,by omega⟩
  have h2:=zf117 k hg m g.no (by omega)
  rw [Kitchen.cells] at h2
  refine z14 21 Tryz.call78 Tryz.func78 rfl (by decide) fun J=>?_
  simp only [go_sem,St.start,Tryz.ntmps78,Tryz.results78,Kitchen.cells,Diners.row]
  repeat (first | refine nx ?_ | (refine z10 fun K hK=>?_;simp only [go_sem,w];(repeat (first | (refine ⟨_,.lent (hf:=h1) (hd:=rfl) (hr:=rfl),?_⟩;simp only [go_sem,w]) | (refine ⟨_,.lent (hf:=h2) (hd:=rfl) (hr:=rfl),?_⟩;simp only [go_sem,w]) | (refine ⟨_,.given (hf:=h1) (hd:=rfl) (ha:=rfl),?_⟩;simp only [go_sem,w]) | (refine ⟨_,.given (hf:=h2) (hd:=rfl) (ha:=rfl),?_⟩;simp only [go_sem,w])));apply hK;clear hK K))
  simp only [go_sem,Bool.true_and]
def rowOk (q:Int→Diners→Bool):List Int→List Diners→Bool
 | [],[]=>true
 | n::l,g::gs=>q n g && rowOk q l gs
 | _,_=>false
def shapedB (q:Int→Diners→Bool):List (List Int)→List (List Diners)→Bool
 | [],[]=>true
 | r::l,d::ds=>rowOk q r d && shapedB q l ds
 | _,_=>false
theorem z99 {q:Int→Diners→Bool}:∀ {l:List Int} {d:List Diners},rowOk q l d=true→l.length=d.length
 | [],[],_=>rfl
 | _::l,_::d,h=>by
  rw [rowOk,Bool.and_eq_true] at h
  simp [z99 h.2]
 | [],_::_,h=>by cases h
 | _::_,[],h=>by cases h
theorem z54 {q:Int→Diners→Bool}:∀ {l:List (List Int)} {d:List (List Diners)},shapedB q l d=true→l.length=d.length
 | [],[],_=>rfl
 | _::l,_::d,h=>by
  rw [shapedB,Bool.and_eq_true] at h
  simp [z54 h.2]
 | [],_::_,h=>by cases h
 | _::_,[],h=>by cases h
theorem zf57m (k:Kitchen) (hg:KitGood k) (M:List (List Int)) (hM:M.length<2 ^ 30) (hMr:∀ r ∈ M,r.length<2 ^ 30):Fn Tryz.prog 57 [.agg k.cells,.sl (listRows M),.bnd 78 [.agg k.cells]] (.bool (shapedB (menuB k) M k.days)):=by
 have hdd:=hg.days
 have hgr:=hg.groups
 obtain ⟨q,hq⟩:∃ q,q=menuB k:=⟨_,rfl⟩
 have h137:=fun (n:Int) (g:Diners)=>zf78 k hg n g
 simp only [← hq] at h137
 rw [← hq]
 rw [Kitchen.cells] at h137
 obtain ⟨R,hR⟩:∃ R,R=shapedB q M k.days:=⟨_,rfl⟩
 rw [← hR]
 cases q1:((M.length:Int) != (k.days.length:Int))
 ·have hl:M.length=k.days.length:=by
   simp only [bne_eq_false_iff_eq] at q1
   omega
  refine z14 55 Tryz.call57 Tryz.func57 rfl (by decide) fun J=>?_
  simp only [go_sem,St.start,Tryz.ntmps57,Tryz.results57,Kitchen.cells]
  repeat (first | refine z12 rfl ?_ | refine z11 rfl ?_ | refine nx ?_ | (refine z10 fun K hK=>?_;simp only [go_sem,q1];apply hK;clear hK K))
  refine z15 (fun (i:Nat)=>[(22,.d (.i (i:Int)))]) (fun _=>[]) (fun i=>i≤k.days.length∧R=shapedB q (M.drop i) (k.days.drop i)) (fun i=>k.days.length - i) 0 ?_ ⟨Nat.zero_le _,hR⟩ ?_
  ·simp only [go_sem]
   refine weA ?_ ?_ <;> simp
  ·rintro i ⟨hi,hRi⟩
   simp only [go_sem]
   repeat (first | refine nx ?_ | (refine z10 fun K hK=>?_;simp only [go_sem];apply hK;clear hK K))
   refine z13 rfl (fun hb=>?_) (fun hb=>?_)
   ·have hlt:i<k.days.length:=by simpa using hb
    have hw:IntKind.i64.wrap ((i:Int) + 1)=((i + 1:Nat):Int):=by rw [z17 (by omega)];simp
    obtain ⟨d,hd⟩:∃ d,k.days[i]?=some d:=⟨_,List.getElem?_eq_getElem hlt⟩
    obtain ⟨r,hr⟩:∃ r,M[i]?=some r:=⟨_,List.getElem?_eq_getElem (by omega)⟩
    have g1:=z81 hd
    have g2:=z40 hr
    have hni:¬ ((i:Int)<0):=by omega
    have hd3:=(hgr d (List.mem_of_getElem? hd)).1
    rw [z30 hd,z30 hr,shapedB] at hRi
    cases q2:((r.length:Int) != (d.length:Int))
    ·have hrl:r.length=d.length:=by
      simp only [bne_eq_false_iff_eq] at q2
      omega
     repeat (first | refine z12 rfl ?_ | refine z11 rfl ?_ | refine nx ?_ | (refine z10 fun K hK=>?_;simp only [go_sem,g1,g2,hni,q2];apply hK;clear hK K))
     refine z15 (fun (j:Nat)=>[(37,.d (.i (j:Int)))]) (fun _=>[]) (fun j=>j≤d.length∧R=(rowOk q (r.drop j) (d.drop j) && shapedB q (M.drop (i + 1)) (k.days.drop (i + 1)))) (fun j=>d.length - j) 0 ?_ ⟨Nat.zero_le _,hRi⟩ ?_
     ·simp only [go_sem]
      refine weA ?_ ?_ <;> simp
     ·rintro j ⟨hj,hRj⟩
      simp only [go_sem]
      repeat (first | refine nx ?_ | (refine z10 fun K hK=>?_;simp only [go_sem];apply hK;clear hK K))
      refine z13 rfl (fun hb=>?_) (fun hb=>?_)
      ·have hltj:j<d.length:=by simpa using hb
       have hwj:IntKind.i64.wrap ((j:Int) + 1)=((j + 1:Nat):Int):=by rw [z17 (by omega)];simp
       obtain ⟨g,hgj⟩:∃ g,d[j]?=some g:=⟨_,List.getElem?_eq_getElem hltj⟩
       obtain ⟨n,hnj⟩:∃ n,r[j]?=some n:=⟨_,List.getElem?_eq_getElem (by omega)⟩
       have g3:=z80 hgj
       have g4:=z38 hnj
       rw [Diners.row] at g3
       have hnjj:¬ ((j:Int)<0):=by omega
       have hc:=h137 n g
       rw [Diners.row] at hc
       rw [z30 hgj,z30 hnj,rowOk] at hRj
       cases q3:q n g
       ·rw [q3] at hRj hc
        rw [Bool.false_and,Bool.false_and] at hRj
        rw [hRj]
        repeat (first | refine nx ?_ | (refine z10 fun K hK=>?_;simp only [go_sem,g3];apply hK;clear hK K))
        refine z16 (by kernel_rfl) (by kernel_rfl) fun K hK=>?_
        simp only [go_sem,g2,g4,hni,hnjj]
        refine ⟨_,.fn (hf:=hc) (hd:=rfl) (hr:=.inl rfl),?_⟩
        simp only [go_sem]
        refine ⟨by kernel_rfl,hK _ ?_⟩
        clear hK K
        repeat (first | refine z12 rfl ?_ | refine z11 rfl ?_ | refine nx ?_ | (refine z10 fun K hK=>?_;simp only [go_sem];apply hK;clear hK K))
        simp only [go_sem]
       ·rw [q3] at hRj hc
        rw [Bool.true_and] at hRj
        repeat (first | refine nx ?_ | (refine z10 fun K hK=>?_;simp only [go_sem,g3];apply hK;clear hK K))
        refine z16 (by kernel_rfl) (by kernel_rfl) fun K hK=>?_
        simp only [go_sem,g2,g4,hni,hnjj]
        refine ⟨_,.fn (hf:=hc) (hd:=rfl) (hr:=.inl rfl),?_⟩
        simp only [go_sem]
        refine ⟨by kernel_rfl,hK _ ?_⟩
        clear hK K
        repeat (first | refine z12 rfl ?_ | refine z11 rfl ?_ | refine nx ?_ | (refine z10 fun K hK=>?_;simp only [go_sem,hwj];apply hK;clear hK K))
        refine ⟨rfl,j + 1,?_,⟨hltj,hRj⟩,by omega⟩
        refine weA ?_ ?_ <;> simp
      ·have he:j=d.length:=by (have:¬ j<d.length:=by simpa using hb);omega
       subst he
       rw [List.drop_length,← hrl,List.drop_length,rowOk,Bool.true_and] at hRj
       repeat (first | refine nx ?_ | (refine z10 fun K hK=>?_;simp only [go_sem,hw];apply hK;clear hK K))
       refine ⟨rfl,i + 1,?_,⟨hlt,hRj⟩,by omega⟩
       refine weA ?_ ?_ <;> simp
    ·have hf:rowOk q r d=false:=by
      cases hx:rowOk q r d with
      | false=>rfl
      | true =>
       have:=z99 hx
       rw [this] at q2
       simp at q2
     rw [hf,Bool.false_and] at hRi
     rw [hRi]
     repeat (first | refine z12 rfl ?_ | refine z11 rfl ?_ | refine nx ?_ | (refine z10 fun K hK=>?_;simp only [go_sem,g1,g2,hni,q2];apply hK;clear hK K))
     simp only [go_sem]
   ·have he:i=k.days.length:=by (have:¬ i<k.days.length:=by simpa using hb);omega
    subst he
    rw [List.drop_length,← hl,List.drop_length,shapedB] at hRi
    rw [hRi]
    repeat (first | refine nx ?_ | (refine z10 fun K hK=>?_;simp only [go_sem];apply hK;clear hK K))
    simp only [go_sem]
 ·have hf:R=false:=by
   rw [hR]
   cases hx:shapedB q M k.days with
   | false=>rfl
   | true =>
    have:=z54 hx
    rw [this] at q1
    simp at q1
  rw [hf]
  refine z14 55 Tryz.call57 Tryz.func57 rfl (by decide) fun J=>?_
  simp only [go_sem,St.start,Tryz.ntmps57,Tryz.results57,Kitchen.cells]
  repeat (first | refine z12 rfl ?_ | refine z11 rfl ?_ | refine nx ?_ | (refine z10 fun K hK=>?_;simp only [go_sem,q1];apply hK;clear hK K))
  simp only [go_sem]
def openK (k:Kitchen) (M:List (List Int)):Int:=if kitE k=0 then (if shapedB (menuB k) M k.days then 0 else 71) else kitE k
theorem zf41 (k:Kitchen) (M:List (List Int)) (hs:KitSmall k) (hM:M.length<2 ^ 30) (hMr:∀ r ∈ M,r.length<2 ^ 30):Fn Tryz.prog 41 [.agg k.cells,.sl (listRows M)] (.tup [.agg k.cells,.i (openK k M)]):=by
 have h135:=zf61 k hs
 unfold openK
 rw [Kitchen.cells] at h135
 by_cases h0:kitE k=0
 ·rw [if_pos h0]
  rw [h0] at h135
  have h136:=zf57m k (z192 (z179.1 h0)) M hM hMr
  rw [Kitchen.cells] at h136
  cases q:shapedB (menuB k) M k.days
  ·rw [q] at h136
   refine z14 24 Tryz.call41 Tryz.func41 rfl (by decide) fun J=>?_
   simp only [go_sem,St.start,Tryz.ntmps41,Tryz.results41,Kitchen.cells]
   repeat (first | refine z12 rfl ?_ | refine z11 rfl ?_ | refine nx ?_ | (refine z10 fun K hK=>?_;simp only [go_sem];(repeat (first | (refine ⟨_,.lent (hf:=h135) (hd:=rfl) (hr:=rfl),?_⟩;simp only [go_sem]) | (refine ⟨_,.lent (hf:=h136) (hd:=rfl) (hr:=rfl),?_⟩;simp only [go_sem]) | (refine ⟨_,.given (hf:=h135) (hd:=rfl) (ha:=rfl),?_⟩;simp only [go_sem]) | (refine ⟨_,.given (hf:=h136) (hd:=rfl) (ha:=rfl),?_⟩;simp only [go_sem])));apply hK;clear hK K))
   simp only [go_sem]
  ·rw [q] at h136
   refine z14 24 Tryz.call41 Tryz.func41 rfl (by decide) fun J=>?_
   simp only [go_sem,St.start,Tryz.ntmps41,Tryz.results41,Kitchen.cells]
   repeat (first | refine z12 rfl ?_ | refine z11 rfl ?_ | refine nx ?_ | (refine z10 fun K hK=>?_;simp only [go_sem];(repeat (first | (refine ⟨_,.lent (hf:=h135) (hd:=rfl) (hr:=rfl),?_⟩;simp only [go_sem]) | (refine ⟨_,.lent (hf:=h136) (hd:=rfl) (hr:=rfl),?_⟩;simp only [go_sem]) | (refine ⟨_,.given (hf:=h135) (hd:=rfl) (ha:=rfl),?_⟩;simp only [go_sem]) | (refine ⟨_,.given (hf:=h136) (hd:=rfl) (ha:=rfl),?_⟩;simp only [go_sem])));apply hK;clear hK K))
   simp only [go_sem]
 ·rw [if_neg h0]
  have hz:(kitE k != 0)=true:=by simpa using h0
  obtain ⟨e,he⟩:∃ e,e=kitE k:=⟨_,rfl⟩
  rw [← he] at h135 hz ⊢
  refine z14 24 Tryz.call41 Tryz.func41 rfl (by decide) fun J=>?_
  simp only [go_sem,St.start,Tryz.ntmps41,Tryz.results41,Kitchen.cells]
  repeat (first | refine z12 rfl ?_ | refine z11 rfl ?_ | refine nx ?_ | (refine z10 fun K hK=>?_;simp only [go_sem,hz];(repeat (first | (refine ⟨_,.lent (hf:=h135) (hd:=rfl) (hr:=rfl),?_⟩;simp only [go_sem,hz]) | (refine ⟨_,.given (hf:=h135) (hd:=rfl) (ha:=rfl),?_⟩;simp only [go_sem,hz])));apply hK;clear hK K))
  simp only [go_sem]
end Go.Ab
/- Memory of the call's own that is handed over whole;drawn regions whose calls stand in an order. -/
namespace Go.Ab
open Go.RowKit
theorem CallR.own {P:Program} {st:St} {dst:Option Tmp} {g:FuncId} {xs:List AV} {m0:List Blk} {pins:List Nat} {args:List AV} {r:AV} {m1:List Blk} (ns news bads rd:List Nat) (hf:FnG P g m0 pins args r m1)
  (hnd:(ns++news).Nodup) (hl0:ns.length=m0.length) (hl1:(ns++news).length=m1.length) (hm:blksG st ns ns m0) (hnew:news.all st.fresh=true) (hla:xs.length=args.length)
  (ha:∀ (i:Nat) x y,xs[i]?=some x→args[i]?=some y→argG st ns rd x y) (hrd:rd.all (fun n=>!ns.contains n)=true) (hsh:shutG st rd) (hb:(List.range ns.length).all (fun i=>pins.contains i || bads.contains (ns.getD i 0))=true)
  (hfl:rd=[]∨(r.flatA=true∧m1.all Blk.flatB=true)) :
  CallR P st dst g xs (({ (st.keep bads) with m:=putM (ns++news) (m1.map (Blk.mapN fun i=>(ns++news)[i]?)) (st.keep bads).m }:St).put dst (r.mapN fun i=>(ns++news)[i]?)) :=
 CallR.gen m0 pins args r m1 ns news rd bads hf hnd hl0 hl1 (z363 hm).2 (fun n hn=>z43 (List.all_eq_true.1 hnew n hn)) hla ha (fun n hn=>by simpa using List.all_eq_true.1 hrd n hn) hsh
  (fun i n hi hn=>by
   have hil:=(List.getElem?_eq_some_iff.1 hi).1
   have:=List.all_eq_true.1 hb i (List.mem_range.2 hil)
   rw [Bool.or_eq_true] at this
   rcases this with h | h
   ·simpa using h
   ·rw [List.getD,hi] at h
    exact absurd (by simpa using h) hn) hfl
theorem z23 (st:St):shutG st []:=fun n hn=>by cases hn
theorem z1053 {e z:Nat} {rows:List (List DV)} (h:rowsFlat rows):Blk.flatB (.arr e z rows)=true:=by
 simp only [Blk.flatB,List.all_eq_true]
 intro r hr
 exact h r hr
def offM (m:Nat→Bool) (i:Nat):Nat→Bool:=fun j=>if j=i then false else m j
def depsM (m:Nat→Bool):List Edge→Prop
 | []=>True
 | e::es=>(Region.binds .any e=true→m e.on=false)∧depsM m es
theorem z236 {m:Nat→Bool}:∀ {es:List Edge},(∀ e ∈ es,Region.binds .any e=true→m e.on=false)→depsM m es
 | [],_=>trivial
 | e::es,h=>⟨h e (by simp),z236 fun e he=>h e (by simp [he])⟩
def stepsM (P:Program) (G:(Nat→Bool)→St):List Oper→Nat→Prop
 | [],_=>True
 | o::os,i=>(∀ m:Nat→Bool,m i=true→depsM m o.after.toList→dstOk o=true∧o.guard=none∧stepK P o (G m) (fun s=>s=G (offM m i)))∧stepsM P G os (i + 1)
def StepM (P:Program) (G:(Nat→Bool)→St) (o:Oper) (i:Nat):Prop:=∀ m:Nat→Bool,m i=true→depsM m o.after.toList→dstOk o=true∧o.guard=none∧stepK P o (G m) (fun s=>s=G (offM m i))
theorem z1151 {ops:Array Oper} (hb:backB ops=true) {i j:Nat} (h:Anc ops i j):i<j:=by
 induction h with
 | edge ho he hbi=>exact z127 hb ho he hbi
 | step _ _ h1 h2=>omega
structure LeftC (ops:Array Oper) (G:(Nat→Bool)→St) (rs:List Nat) (s s':St):Prop where
 now:s=G fun i=>rs.contains i
 fin:s'=G fun _=>false
 nodup:rs.Nodup
 ord:rs.Pairwise fun a b=>¬ Anc ops b a
 size:∀ i ∈ rs,i<ops.size
section
variable {P:Program} {rd:Option Nat} {n:Nat} {J:Env} {ops:Array Oper} {cs:List Code} {k:Option Nat} {st:St} {Q:Exit→Option Nat→St→Prop}
end
attribute [go_sem] offM
end Go.Ab
namespace Go.Ab
open Go.RowKit Go.Proofs
set_option maxHeartbeats 8000000
set_option maxRecDepth 20000
attribute [local irreducible] WalkL Walk
def cmpI (a b:Int):Int:=if a<b then -1 else if a > b then 1 else 0
theorem zf119 (n:Int):Fn Tryz.prog 119 [.i n] (.bool false):=by
 have q:(n != n)=false:=by simp
 refine z14 6 Tryz.call119 Tryz.func119 rfl (by decide) fun J=>?_
 simp only [go_sem,St.start,Tryz.ntmps119,Tryz.results119]
 repeat (first | refine nx ?_ | (refine z10 fun K hK=>?_;simp only [go_sem,q];apply hK;clear hK K))
 simp only [go_sem]
theorem zf81 (a b:Int):Fn Tryz.prog 81 [.i a,.i b] (.i (cmpI a b)):=by
 have h1:=zf119 a
 have h2:=zf119 b
 unfold cmpI
 by_cases q1:a<b
 ·rw [if_pos q1]
  have d:decide (a<b)=true:=decide_eq_true q1
  refine z14 20 Tryz.call81 Tryz.func81 rfl (by decide) fun J=>?_
  simp only [go_sem,St.start,Tryz.ntmps81,Tryz.results81]
  repeat (first | refine z12 rfl ?_ | refine z11 rfl ?_ | refine nx ?_ | (refine z10 fun K hK=>?_;simp only [go_sem,d];(repeat (first | (refine ⟨_,.lent (hf:=h1) (hd:=rfl) (hr:=rfl),?_⟩;simp only [go_sem,d]) | (refine ⟨_,.lent (hf:=h2) (hd:=rfl) (hr:=rfl),?_⟩;simp only [go_sem,d]) | (refine ⟨_,.given (hf:=h1) (hd:=rfl) (ha:=rfl),?_⟩;simp only [go_sem,d]) | (refine ⟨_,.given (hf:=h2) (hd:=rfl) (ha:=rfl),?_⟩;simp only [go_sem,d])));apply hK;clear hK K))
  simp only [go_sem]
 ·rw [if_neg q1]
  have d:decide (a<b)=false:=decide_eq_false q1
  by_cases q2:a > b
  ·rw [if_pos q2]
   have d2:decide (a > b)=true:=decide_eq_true q2
   refine z14 20 Tryz.call81 Tryz.func81 rfl (by decide) fun J=>?_
   simp only [go_sem,St.start,Tryz.ntmps81,Tryz.results81]
   repeat (first | refine z12 rfl ?_ | refine z11 rfl ?_ | refine nx ?_ | (refine z10 fun K hK=>?_;simp only [go_sem,d,d2];(repeat (first | (refine ⟨_,.lent (hf:=h1) (hd:=rfl) (hr:=rfl),?_⟩;simp only [go_sem,d,d2]) | (refine ⟨_,.lent (hf:=h2) (hd:=rfl) (hr:=rfl),?_⟩;simp only [go_sem,d,d2]) | (refine ⟨_,.given (hf:=h1) (hd:=rfl) (ha:=rfl),?_⟩;simp only [go_sem,d,d2]) | (refine ⟨_,.given (hf:=h2) (hd:=rfl) (ha:=rfl),?_⟩;simp only [go_sem,d,d2])));apply hK;clear hK K))
   simp only [go_sem]
  ·rw [if_neg q2]
   have d2:decide (a > b)=false:=decide_eq_false q2
   refine z14 20 Tryz.call81 Tryz.func81 rfl (by decide) fun J=>?_
   simp only [go_sem,St.start,Tryz.ntmps81,Tryz.results81]
   repeat (first | refine z12 rfl ?_ | refine z11 rfl ?_ | refine nx ?_ | (refine z10 fun K hK=>?_;simp only [go_sem,d,d2];(repeat (first | (refine ⟨_,.lent (hf:=h1) (hd:=rfl) (hr:=rfl),?_⟩;simp only [go_sem,d,d2]) | (refine ⟨_,.lent (hf:=h2) (hd:=rfl) (hr:=rfl),?_⟩;simp only [go_sem,d,d2]) | (refine ⟨_,.given (hf:=h1) (hd:=rfl) (ha:=rfl),?_⟩;simp only [go_sem,d,d2]) | (refine ⟨_,.given (hf:=h2) (hd:=rfl) (ha:=rfl),?_⟩;simp only [go_sem,d,d2])));apply hK;clear hK K))
   simp only [go_sem]
def noBatch:Batch:=⟨0,0,0⟩
def batAt (k:Kitchen) (i:Nat):Batch:=k.batches.getD i noBatch
theorem z167 {k:Kitchen} {i:Nat} (h:i<k.batches.length):(batRows k.batches)[i]?=some (batAt k i).row:=by
 obtain ⟨x,hx⟩:∃ x,k.batches[i]?=some x:=⟨_,List.getElem?_eq_getElem h⟩
 rw [z267 hx,batAt,List.getD,hx]
 rfl
theorem zf80 (k:Kitchen) (a b:Nat) (ha:a<k.batches.length) (hb:b<k.batches.length):Fn Tryz.prog 80 [.i (a:Int),.i (b:Int),.ptr k.cells 0] (.i (cmpI (batAt k a).last (batAt k b).last)):=by
 have h:=zf81 (batAt k a).last (batAt k b).last
 have ga:=z167 ha
 have gb:=z167 hb
 have na:¬ ((a:Int)<0):=by omega
 have nb:¬ ((b:Int)<0):=by omega
 rw [Batch.row] at ga gb
 refine z14 21 Tryz.call80 Tryz.func80 rfl (by decide) fun J=>?_
 simp only [go_sem,St.start,Tryz.ntmps80,Tryz.results80,Kitchen.cells]
 repeat (first | refine nx ?_ | (refine z10 fun K hK=>?_;simp only [go_sem];apply hK;clear hK K))
 refine z16 (by kernel_rfl) (by kernel_rfl) fun K hK=>?_
 simp only [go_sem,ga,gb,na,nb]
 refine ⟨_,.fn (hf:=h) (hd:=rfl) (hr:=.inl rfl),?_⟩
 simp only [go_sem]
 refine ⟨by kernel_rfl,hK _ ?_⟩
 clear hK K
 repeat (first | refine nx ?_ | (refine z10 fun K hK=>?_;simp only [go_sem];apply hK;clear hK K))
 simp only [go_sem]
def swapN (L:List Nat) (j:Nat):List Nat:=(L.set (j + 1) (L.getD j 0)).set j (L.getD (j + 1) 0)
def sinkN (f:Nat→Int):List Nat→Nat→List Nat
 | L,0=>L
 | L,j + 1=>if f (L.getD (j + 1) 0)<f (L.getD j 0) then sinkN f (swapN L j) j else L
def insN (f:Nat→Int) (L:List Nat):Nat→List Nat
 | 0=>L
 | i + 1=>sinkN f (insN f L i) (i + 1)
def natRows (L:List Nat):List (List DV):=L.map fun (n:Nat)=>[DV.i (n:Int)]
theorem z852 (L:List Nat):(natRows L).length=L.length:=by simp [natRows]
theorem z673 (L:List Nat):headIs 1 (natRows L)=true:=by cases L <;> rfl
theorem z111 {L:List Nat} {i:Nat} (h:i<L.length):(natRows L)[i]?=some [.i ((L.getD i 0:Nat):Int)]:=by
 obtain ⟨x,hx⟩:∃ x,L[i]?=some x:=⟨_,List.getElem?_eq_getElem h⟩
 rw [natRows,List.getElem?_map,hx,List.getD,hx]
 rfl
theorem z337 (L:List Nat) (i x:Nat):(natRows L).set i [.i (x:Int)]=natRows (L.set i x):=by simp [natRows,List.map_set]
attribute [go_sem] z852 z673
theorem z320 (L:List Nat) (j:Nat):(swapN L j).length=L.length:=by simp [swapN]
theorem z641 {L:List Nat} {j:Nat} (hj:j + 1<L.length) {x:Nat} (h:x ∈ swapN L j):x ∈ L:=by
 have g1:L.getD j 0 ∈ L:=by
  rw [List.getD,List.getElem?_eq_getElem (by omega)]
  exact List.getElem_mem _
 have g2:L.getD (j + 1) 0 ∈ L:=by
  rw [List.getD,List.getElem?_eq_getElem hj]
  exact List.getElem_mem _
 rcases List.mem_or_eq_of_mem_set h with h | h
 ·rcases List.mem_or_eq_of_mem_set h with h | h
  ·exact h
  ·rw [h];exact g1
 ·rw [h];exact g2
theorem z647 (f:Nat→Int):∀ (j:Nat) (L:List Nat),(sinkN f L j).length=L.length
 | 0,_=>rfl
 | j + 1,L=>by
  rw [sinkN]
  split
  ·rw [z647 f j,z320]
  ·rfl
theorem z646 (f:Nat→Int):∀ (j:Nat) (L:List Nat),j<L.length→∀ x ∈ sinkN f L j,x ∈ L
 | 0,_,_,_,h=>h
 | j + 1,L,hj,x,h=>by
  rw [sinkN] at h
  split at h
  ·exact z641 hj (z646 f j _ (by rw [z320];omega) x h)
  ·exact h
theorem z297 (f:Nat→Int) (L:List Nat):∀ i,(insN f L i).length=L.length
 | 0=>rfl
 | i + 1=>by rw [insN,z647,z297 f L i]
theorem z530 (f:Nat→Int) (L:List Nat):∀ i,i<L.length∨i=0→∀ x ∈ insN f L i,x ∈ L
 | 0,_,_,h=>h
 | i + 1,hi,x,h=>z530 f L i (by omega) x (z646 f (i + 1) _ (by rw [z297];omega) x h)
def ordK (k:Kitchen):List Nat:=insN (fun i=>(batAt k i).last) (List.range k.batches.length) (k.batches.length - 1)
theorem z102 (k:Kitchen):(ordK k).length=k.batches.length:=by rw [ordK,z297,List.length_range]
theorem z49 {k:Kitchen} {x:Nat} (h:x ∈ ordK k):x<k.batches.length:=List.mem_range.1 (z530 _ _ _ (by rw [List.length_range];omega) x h)
theorem zf156 (k:Kitchen) (L:List Nat) (hL:∀ x ∈ L,x<k.batches.length) (hl:L.length<2 ^ 30) :
  FnG Tryz.prog 156 [.arr 3 1 (natRows L)] [0] [.own 0,.d (.i 0),.d (.i (L.length:Int)),.d (.fn 80 [.ptr k.cells 0])] (.tup []) [.arr 3 1 (natRows (insN (fun i=>(batAt k i).last) L (L.length - 1)))]:=by
 obtain ⟨f,hf⟩:∃ f:Nat→Int,f=fun i=>(batAt k i).last:=⟨_,rfl⟩
 rw [← hf]
 have hcmp:=fun a b ha hb=>zf80 k a b ha hb
 have e1:IntKind.i64.wrap (0 + 1)=((0 + 1:Nat):Int):=by decide
 rw [Kitchen.cells] at hcmp
 rw [Kitchen.cells]
 have hcm:∀ a b:Int,decide (cmpI a b<0)=decide (a<b):=fun a b=>by
  unfold cmpI
  split
  ·simp [*]
  ·split <;> simp [*]
 refine z65 53 Tryz.call156 Tryz.func156 rfl (by decide) [] [(0,0)] (by simp only [List.length_cons,List.length_nil];decide) (by kernel_rfl) fun J=>?_
 simp only [go_sem,St.startG,Tryz.ntmps156,Tryz.results156,List.map_cons,List.map_nil,List.range_succ]
 repeat (first | refine nx ?_ | (refine z10 fun K hK=>?_;simp only [go_sem,e1];apply hK;clear hK K))
 refine z15 (fun (a:Nat)=>[(8,.d (.i ((a + 1:Nat):Int)))]) (fun a=>[(53,some (.arr 3 1 (natRows (insN f L a))))]) (fun a=>a=0∨a + 1≤L.length) (fun a=>L.length - a) 0 ?_ (.inl rfl) ?_
 ·simp only [go_sem,insN]
  refine weA ?_ ?_ <;> simp
  all_goals first | done | rfl
 ·intro a ha
  have hAl:=z297 f L a
  have hAm:=z530 f L a (by omega)
  simp only [go_sem]
  repeat (first | refine nx ?_ | (refine z10 fun K hK=>?_;simp only [go_sem];apply hK;clear hK K))
  refine z13 rfl (fun hb=>?_) (fun hb=>?_)
  ·have hlt:a + 1<L.length:=by have:=of_decide_eq_true hb;omega
   have hw:IntKind.i64.wrap (((a + 1:Nat):Int) + 1)=((a + 1 + 1:Nat):Int):=by rw [z17 (by omega)];omega
   obtain ⟨A,hA⟩:∃ A,A=insN f L a:=⟨_,rfl⟩
   have hnx:insN f L (a + 1)=sinkN f A (a + 1):=by rw [insN,hA]
   rw [← hA] at hAl hAm ⊢
   repeat (first | refine nx ?_ | (refine z10 fun K hK=>?_;simp only [go_sem];apply hK;clear hK K))
   refine z15 (fun (q:Nat × List Nat)=>[(9,.d (.i (q.1:Int)))]) (fun q=>[(53,some (.arr 3 1 (natRows q.2)))]) (fun q=>q.1≤a + 1∧q.2.length=L.length∧(∀ x ∈ q.2,x<k.batches.length)∧sinkN f q.2 q.1=sinkN f A (a + 1)) (fun q=>q.1) (a + 1,A) ?_ ⟨Nat.le_refl _,hAl,fun x hx=>hL x (hAm x hx),rfl⟩ ?_
   ·simp only [go_sem]
    refine weA ?_ ?_ <;> simp
    all_goals first | done | rfl
   ·rintro ⟨j,cur⟩ ⟨hj,hcl,hcx,hsk⟩
    dsimp only at hj hcl hcx hsk
    have fin:∀ X:List Nat,X=sinkN f A (a + 1)→natRows X=natRows (insN f L (a + 1)):=fun X h=>by rw [hnx,h]
    cases j with
    | zero =>
     have hX:cur=insN f L (a + 1):=by rw [hnx,← hsk];rfl
     have d0:decide ((0:Int) > 0)=false:=rfl
     simp only [go_sem]
     repeat (first | refine nx ?_ | (refine z10 fun K hK=>?_;simp only [go_sem];apply hK;clear hK K))
     refine z16 (by kernel_rfl) (by kernel_rfl) fun K hK=>?_
     simp only [go_sem,d0]
     refine ⟨by kernel_rfl,hK _ ?_⟩
     clear hK K
     repeat (first | refine z12 rfl ?_ | refine z11 rfl ?_ | refine nx ?_ | (refine z10 fun K hK=>?_;simp only [go_sem,hw];apply hK;clear hK K))
     refine ⟨rfl,a + 1,?_,.inr (by omega),by omega⟩
     rw [hX]
     refine weA ?_ ?_ <;> simp
     all_goals first | done | rfl
    | succ j =>
     have w1:IntKind.i64.wrap (((j + 1:Nat):Int) - 1)=(j:Int):=by rw [z17 (by omega)];omega
     have d1:decide (((j + 1:Nat):Int) > 0)=true:=decide_eq_true (by omega)
     have n1:¬ (((j + 1:Nat):Int)<0):=by omega
     have n0:¬ ((j:Int)<0):=by omega
     have k1:j + 1<cur.length:=by omega
     have k0:j<cur.length:=by omega
     have g1:=z111 (L:=cur) (i:=j + 1) (by omega)
     have g0:=z111 (L:=cur) (i:=j) (by omega)
     obtain ⟨x,hx⟩:∃ x,cur.getD (j + 1) 0=x:=⟨_,rfl⟩
     obtain ⟨y,hy⟩:∃ y,cur.getD j 0=y:=⟨_,rfl⟩
     have hxm:x ∈ cur:=by
      rw [← hx,List.getD,List.getElem?_eq_getElem (by omega:j + 1<cur.length)]
      exact List.getElem_mem _
     have hym:y ∈ cur:=by
      rw [← hy,List.getD,List.getElem?_eq_getElem (by omega:j<cur.length)]
      exact List.getElem_mem _
     rw [hx] at g1
     rw [hy] at g0
     have hc:=hcmp x y (hcx x hxm) (hcx y hym)
     have hfx:(batAt k x).last=f x:=by rw [hf]
     have hfy:(batAt k y).last=f y:=by rw [hf]
     rw [hfx,hfy] at hc
     rw [sinkN,hx,hy] at hsk
     have hd:=hcm (f x) (f y)
     obtain ⟨cv,hcv⟩:∃ cv,cv=cmpI (f x) (f y):=⟨_,rfl⟩
     rw [← hcv] at hc hd
     by_cases hlt2:f x<f y
     ·rw [if_pos hlt2] at hsk
      rw [decide_eq_true hlt2] at hd
      obtain ⟨C1,hC1⟩:∃ C1,C1=cur.set (j + 1) y:=⟨_,rfl⟩
      have su1:(natRows cur).set (j + 1) [.i (y:Int)]=natRows C1:=by rw [z337,hC1]
      have hC1l:C1.length=cur.length:=by rw [hC1];simp
      have g2:(natRows C1)[j]?=some [.i (y:Int)]:=by
       have:=z111 (L:=C1) (i:=j) (by omega)
       rw [this,hC1,List.getD,List.getElem?_set_ne (by omega),← List.getD,hy]
      have su2:(natRows C1).set j [.i (x:Int)]=natRows (swapN cur j):=by rw [z337,hC1,swapN,hx,hy]
      simp only [go_sem]
      repeat (first | refine nx ?_ | (refine z10 fun K hK=>?_;simp only [go_sem];apply hK;clear hK K))
      refine z16 (by kernel_rfl) (by kernel_rfl) fun K hK=>?_
      simp only [go_sem,d1,w1,n1,n0,k1,k0,g1,g0]
      refine ⟨_,.fn (hf:=hc) (hd:=rfl) (hr:=.inl rfl),?_⟩
      simp only [go_sem,hd]
      refine ⟨by kernel_rfl,hK _ ?_⟩
      clear hK K
      refine z12 rfl ?_
      repeat (first | refine nx ?_ | (refine z10 fun K hK=>?_;simp only [go_sem];apply hK;clear hK K))
      have k2:j<C1.length:=by omega
      refine z16 (by kernel_rfl) (by kernel_rfl) fun K hK=>?_
      simp only [go_sem,w1,n1,n0,k1,k0,k2,g1,g0,su1,g2,su2]
      refine ⟨by kernel_rfl,hK _ ?_⟩
      clear hK K
      repeat (first | refine nx ?_ | (refine z10 fun K hK=>?_;simp only [go_sem,w1];apply hK;clear hK K))
      refine ⟨rfl,(j,swapN cur j),?_,⟨by dsimp only;omega,by dsimp only;rw [z320];exact hcl,fun z hz=>hcx z (z641 (by omega) hz),hsk⟩,by dsimp only;omega⟩
      refine weA ?_ ?_ <;> simp
      all_goals first | done | rfl
     ·rw [if_neg hlt2] at hsk
      rw [decide_eq_false hlt2] at hd
      have hX:cur=insN f L (a + 1):=by rw [hnx,← hsk]
      simp only [go_sem]
      repeat (first | refine nx ?_ | (refine z10 fun K hK=>?_;simp only [go_sem];apply hK;clear hK K))
      refine z16 (by kernel_rfl) (by kernel_rfl) fun K hK=>?_
      simp only [go_sem,d1,w1,n1,n0,k1,k0,g1,g0]
      refine ⟨_,.fn (hf:=hc) (hd:=rfl) (hr:=.inl rfl),?_⟩
      simp only [go_sem,hd]
      refine ⟨by kernel_rfl,hK _ ?_⟩
      clear hK K
      repeat (first | refine z12 rfl ?_ | refine z11 rfl ?_ | refine nx ?_ | (refine z10 fun K hK=>?_;simp only [go_sem,hw];apply hK;clear hK K))
      refine ⟨rfl,a + 1,?_,.inr (by omega),by omega⟩
      rw [← hX]
      refine weA ?_ ?_ <;> simp
      all_goals first | done | rfl
  ·have he:a=L.length - 1:=by (have:¬ a + 1<L.length:=by intro h;have:=decide_eq_true (p:=((a + 1:Nat):Int)<(L.length:Int)) (by omega);rw [this] at hb;cases hb);omega
   subst he
   repeat (first | refine nx ?_ | (refine z10 fun K hK=>?_;simp only [go_sem];apply hK;clear hK K))
   simp only [go_sem,retG]
end Go.Ab
namespace Go.Ab
open Go.RowKit Go.Proofs
set_option maxHeartbeats 8000000
set_option maxRecDepth 20000
attribute [local irreducible] WalkL Walk
def sortK (k:Kitchen) (L:List Nat):List Nat:=insN (fun i=>(batAt k i).last) L (L.length - 1)
theorem z674 (L:List Nat):rowsFlat (natRows L):=by
 intro r hr d hd
 obtain ⟨x,_,rfl⟩:=List.mem_map.1 hr
 rw [List.mem_singleton.1 hd]
 rfl
theorem zf118 (k:Kitchen) (L:List Nat) (hL:∀ x ∈ L,x<k.batches.length) (hl:L.length≤10) :
  FnG Tryz.prog 118 [.arr 3 1 (natRows L)] [0] [.own 0,.d (.i (L.length:Int)),.d (.fn 80 [.ptr k.cells 0])] (.tup []) [.arr 3 1 (natRows (sortK k L))]:=by
 have h:=zf156 k L hL (by omega)
 change FnG Tryz.prog 156 _ _ _ _ [.arr 3 1 (natRows (sortK k L))] at h
 rw [Kitchen.cells] at h ⊢
 have d1:decide ((20:Int)≤(L.length:Int))=false:=decide_eq_false (by omega)
 have d2:decide ((20:Int)<(L.length:Int))=false:=decide_eq_false (by omega)
 obtain ⟨S,hS⟩:∃ S,S=sortK k L:=⟨_,rfl⟩
 rw [← hS] at h ⊢
 refine z65 63 Tryz.call118 Tryz.func118 rfl (by decide) [] [(0,0)] (by simp only [List.length_cons,List.length_nil];decide) (by kernel_rfl) fun J=>?_
 simp only [go_sem,St.startG,Tryz.ntmps118,Tryz.results118,List.map_cons,List.map_nil,List.range_succ]
 repeat (first | refine nx ?_ | (refine z10 fun K hK=>?_;simp only [go_sem];apply hK;clear hK K))
 refine z15 (fun (_:Unit)=>[(7,.d (.i 0)),(8,.d (.i 20))]) (fun _=>[]) (fun _=>True) (fun _=>0) () ?_ trivial ?_
 ·simp only [go_sem]
  refine weA ?_ ?_ <;> simp
 ·intro _ _
  simp only [go_sem]
  repeat (first | refine z12 rfl ?_ | refine z11 rfl ?_ | refine nx ?_ | (refine z10 fun K hK=>?_;simp only [go_sem,d1];apply hK;clear hK K))
  refine z10 fun K hK=>?_
  simp only [go_sem]
  refine ⟨_,.own (ns:=[63]) (news:=[]) (bads:=[]) (rd:=[]) (hf:=h) (hnd:=by decide) (hl0:=rfl) (hl1:=rfl) (hm:=by repeat (first | exact trivial | refine And.intro ?_ ?_ | rfl)) (hnew:=rfl) (hla:=rfl) (ha:=z28 (by repeat (first | exact trivial | refine And.intro ?_ ?_ | exact z29 rfl | exact z22 rfl rfl))) (hrd:=rfl) (hsh:=z23 _) (hb:=rfl) (hfl:=.inl rfl),?_⟩
  simp only [go_sem,List.map_cons,List.map_nil]
  apply hK
  clear hK K
  repeat (first | refine nx ?_ | (refine z10 fun K hK=>?_;simp only [go_sem];apply hK;clear hK K))
  refine z15 (fun (_:Unit)=>[(6,.d (.i 20))]) (fun _=>[(63,some (.arr 3 1 (natRows S)))]) (fun _=>True) (fun _=>0) () ?_ trivial ?_
  ·simp only [go_sem]
   refine weA ?_ ?_ <;> simp
  ·intro _ _
   simp only [go_sem]
   repeat (first | refine z12 rfl ?_ | refine z11 rfl ?_ | refine nx ?_ | (refine z10 fun K hK=>?_;simp only [go_sem,d2];apply hK;clear hK K))
   simp only [go_sem,retG]
theorem zf79 (k:Kitchen) (L:List Nat) (hL:∀ x ∈ L,x<k.batches.length) (hl:L.length≤10) :
  FnG Tryz.prog 79 [.arr 3 1 (natRows L)] [0] [.own 0,.d (.fn 80 [.ptr k.cells 0])] (.tup []) [.arr 3 1 (natRows (sortK k L))]:=by
 have h:=zf118 k L hL hl
 rw [Kitchen.cells] at h ⊢
 obtain ⟨S,hS⟩:∃ S,S=sortK k L:=⟨_,rfl⟩
 rw [← hS] at h ⊢
 refine z65 9 Tryz.call79 Tryz.func79 rfl (by decide) [] [(0,0)] (by simp only [List.length_cons,List.length_nil];decide) (by kernel_rfl) fun J=>?_
 simp only [go_sem,St.startG,Tryz.ntmps79,Tryz.results79,List.map_cons,List.map_nil,List.range_succ]
 repeat (first | refine nx ?_ | (refine z10 fun K hK=>?_;simp only [go_sem];apply hK;clear hK K))
 refine z10 fun K hK=>?_
 simp only [go_sem]
 refine ⟨_,.own (ns:=[9]) (news:=[]) (bads:=[]) (rd:=[]) (hf:=h) (hnd:=by decide) (hl0:=rfl) (hl1:=rfl) (hm:=by repeat (first | exact trivial | refine And.intro ?_ ?_ | rfl)) (hnew:=rfl) (hla:=rfl) (ha:=z28 (by repeat (first | exact trivial | refine And.intro ?_ ?_ | exact z29 rfl | exact z22 rfl rfl))) (hrd:=rfl) (hsh:=z23 _) (hb:=rfl) (hfl:=.inl rfl),?_⟩
 simp only [go_sem,List.map_cons,List.map_nil]
 apply hK
 clear hK K
 repeat (first | refine nx ?_ | (refine z10 fun K hK=>?_;simp only [go_sem];apply hK;clear hK K))
 simp only [go_sem,retG]
def amtK (k:Kitchen):List Int:=k.batches.map (·.amount)
def lardRow (k:Kitchen) (l o:AV) (w:Int):List AV:=[.d (.sl (intRows k.allerg)),.d (.sl (batRows k.batches)),.d (.sl (dishRows k.dishes)),.d (.sl (dayRows k.days)),l,o,.d (.i w)]
theorem z1199 (k:Kitchen) (hb:k.batches.length≤10):FnG Tryz.prog 42 [] [] [.d (.agg k.cells)] (.box 0 0) [.box (lardRow k (.own 1) (.own 2) 0),.arr 3 1 (intRows (amtK k)),.arr 3 1 (natRows (ordK k))]:=by
 have h:=zf79 k (List.range k.batches.length) (fun x hx=>List.mem_range.1 hx) (by simpa using hb)
 have hord:sortK k (List.range k.batches.length)=ordK k:=by rw [sortK,ordK,List.length_range]
 rw [hord] at h
 obtain ⟨O,hO⟩:∃ O,O=ordK k:=⟨_,rfl⟩
 rw [← hO] at h ⊢
 rw [Kitchen.cells] at h
 refine z65 47 Tryz.call42 Tryz.func42 rfl (by decide) [8,26,36] [] (by simp only [List.length_cons,List.length_nil];decide) (by kernel_rfl) fun J=>?_
 simp only [go_sem,St.startG,Tryz.ntmps42,Tryz.results42,List.map_cons,List.map_nil,List.range_succ,  Kitchen.cells,lardRow]
 repeat (first | refine nx ?_ | (refine z10 fun K hK=>?_;simp only [go_sem];apply hK;clear hK K))
 refine z15 (fun (i:Nat)=>[(13,.d (.i (i:Int)))]) (fun i=>[(8,some (.box (lardRow k (.own 26) (.own 36) 0))),(26,some (.arr 3 1 (intRows ((amtK k).take i)))),(36,some (.arr 3 1 (natRows (List.range i))))]) (fun i=>i≤k.batches.length) (fun i=>k.batches.length - i) 0 ?_ (Nat.zero_le _) ?_
 ·simp only [go_sem,lardRow]
  refine z53 [26,36] ?_ ?_ rfl rfl <;> simp [lessT,lessM,lessB,AV.less]
  all_goals first | done | rfl | exact ⟨rfl,rfl⟩ | trace_state
 ·intro i hi
  simp only [go_sem,lardRow]
  repeat (first | refine nx ?_ | (refine z10 fun K hK=>?_;simp only [go_sem];apply hK;clear hK K))
  refine z13 rfl (fun hb2=>?_) (fun hb2=>?_)
  ·have hlt:i<k.batches.length:=by simpa using hb2
   have hw:IntKind.i64.wrap ((i:Int) + 1)=((i + 1:Nat):Int):=by rw [z17 (by omega)];simp
   have gb:=z167 hlt
   rw [Batch.row] at gb
   obtain ⟨A,hA⟩:∃ A,A=(amtK k).take i:=⟨_,rfl⟩
   have hAl:A.length≤10:=by rw [hA];simp;omega
   have hn:A.length + 1≤549755813888:=by omega
   have hn2:i + 1≤549755813888:=by omega
   have e1:(amtK k).take (i + 1)=A++[(batAt k i).amount]:=by
    obtain ⟨x,hx⟩:∃ x,k.batches[i]?=some x:=⟨_,List.getElem?_eq_getElem hlt⟩
    have hx2:(amtK k)[i]?=some x.amount:=by simp [amtK,hx]
    rw [List.take_add_one,hx2,← hA,batAt,List.getD,hx]
    rfl
   have s1:intRows A++[[.i (batAt k i).amount]]=intRows ((amtK k).take (i + 1)):=by rw [e1];simp [intRows]
   have s2:natRows (List.range i)++[[.i (i:Int)]]=natRows (List.range (i + 1)):=by rw [List.range_succ];simp [natRows]
   rw [← hA]
   repeat (first | refine nx ?_ | (refine z10 fun K hK=>?_;simp only [go_sem,gb];apply hK;clear hK K))
   refine z273 (by kernel_rfl) (by kernel_rfl) fun K hK=>?_
   simp only [go_sem,hn,s1]
   refine ⟨by kernel_rfl,hK _ ?_⟩
   clear hK K
   repeat (first | refine nx ?_ | (refine z10 fun K hK=>?_;simp only [go_sem,hn2,List.length_range,s2,hw];apply hK;clear hK K))
   refine ⟨rfl,i + 1,?_,hlt,by omega⟩
   simp only [go_sem,lardRow]
   refine weA ?_ ?_ <;> simp
   all_goals first | done | rfl | exact ⟨rfl,rfl⟩ | trace_state
  ·have he:i=k.batches.length:=by (have:¬ i<k.batches.length:=by simpa using hb2);omega
   subst he
   have e1:(amtK k).take k.batches.length=amtK k:=by rw [amtK,List.take_of_length_le (by simp)]
   rw [e1]
   repeat (first | refine nx ?_ | (refine z10 fun K hK=>?_;simp only [go_sem];apply hK;clear hK K))
   refine z10 fun K hK=>?_
   simp only [go_sem]
   refine ⟨_,.own (ns:=[36]) (news:=[]) (bads:=[]) (rd:=[1]) (hf:=h) (hnd:=by decide) (hl0:=rfl) (hl1:=rfl) (hm:=by repeat (first | exact trivial | refine And.intro ?_ ?_ | rfl)) (hnew:=rfl) (hla:=rfl) (ha:=z28 (by repeat (first | exact trivial | refine And.intro ?_ ?_ | exact z29 rfl | exact z22 rfl rfl))) (hrd:=rfl) (hsh:=by intro n hn row hrow k hk;simp at hn;subst hn;simp at hrow;subst hrow;simp [AV.refs,AV.refs.AV.refss] at hk) (hb:=rfl) (hfl:=.inr ⟨rfl,by simp only [List.all_cons,List.all_nil,Bool.and_true];exact z1053 (z674 _)⟩),?_⟩
   simp only [go_sem,List.map_cons,List.map_nil]
   apply hK
   clear hK K
   repeat (first | refine nx ?_ | (refine z10 fun K hK=>?_;simp only [go_sem];apply hK;clear hK K))
   simp only [go_sem,retG,lardRow]
end Go.Ab
namespace Go.Ab
open Go.RowKit Go.Proofs
set_option maxHeartbeats 8000000
set_option maxRecDepth 20000
attribute [local irreducible] WalkL Walk
theorem z1197 (l:List Int) (hl:l.length<2 ^ 30):FnS Tryz.prog 96 [.sl (intRows l)] 3 1 (intRows l):=by
 have h1:l.length≤549755813888:=by omega
 have h2:0 + l.length≤549755813888:=by omega
 cases l with
 | nil =>
  have e:intRows []=[]:=rfl
  rw [e]
  refine z132 8 Tryz.call96 Tryz.func96 rfl (by decide) fun J=>?_
  simp only [go_sem,St.start,Tryz.ntmps96,Tryz.results96]
  repeat (first | refine nx ?_ | (refine z10 fun K hK=>?_;simp only [go_sem,List.isEmpty_nil];apply hK;clear hK K))
  refine z993 rfl ?_ ?_
  ·repeat (first | refine nx ?_ | (refine z10 fun K hK=>?_;simp only [go_sem];apply hK;clear hK K))
   simp only [go_sem]
  ·repeat (first | refine nx ?_ | (refine z10 fun K hK=>?_;simp only [go_sem,List.nil_append,List.length_nil];apply hK;clear hK K))
   simp only [go_sem]
 | cons x l =>
  have hne:(intRows (x::l)).isEmpty=false:=rfl
  obtain ⟨L,hL⟩:∃ L,L=x::l:=⟨_,rfl⟩
  rw [← hL] at hne h1 h2 ⊢
  refine z132 8 Tryz.call96 Tryz.func96 rfl (by decide) fun J=>?_
  simp only [go_sem,St.start,Tryz.ntmps96,Tryz.results96]
  repeat (first | refine nx ?_ | (refine z10 fun K hK=>?_;simp only [go_sem,hne];apply hK;clear hK K))
  refine z11 rfl ?_
  repeat (first | refine nx ?_ | (refine z10 fun K hK=>?_;simp only [go_sem,h1,h2,List.nil_append,List.length_nil];apply hK;clear hK K))
  simp only [go_sem]
def dinAt (k:Kitchen) (day group:Nat):Diners:=(k.days.getD day []).getD group ⟨0,⟨0,0⟩⟩
theorem z289 {k:Kitchen} {day:Nat} (h:day<k.days.length):(dayRows k.days)[day]?=some [.sl (dinRows (k.days.getD day []))]:=by
 obtain ⟨x,hx⟩:∃ x,k.days[day]?=some x:=⟨_,List.getElem?_eq_getElem h⟩
 rw [z81 hx,List.getD,hx]
 rfl
theorem z898 {k:Kitchen} {day group:Nat} (h:group<(k.days.getD day []).length):(dinRows (k.days.getD day []))[group]?=some (dinAt k day group).row:=by
 unfold dinAt
 obtain ⟨D,hD⟩:∃ D,D=k.days.getD day []:=⟨_,rfl⟩
 rw [← hD] at h ⊢
 obtain ⟨x,hx⟩:∃ x,D[group]?=some x:=⟨_,List.getElem?_eq_getElem h⟩
 rw [z80 hx,List.getD,hx]
 rfl
theorem zf44 (k:Kitchen) (day group:Nat) (hd:day<k.days.length) (hg:group<(k.days.getD day []).length):Fn Tryz.prog 44 [.agg k.cells,.i (day:Int),.i (group:Int)] (.i (dinAt k day group).count.hi):=by
 have g1:=z289 hd
 have g2:=z898 hg
 have n1:¬ ((day:Int)<0):=by omega
 have n2:¬ ((group:Int)<0):=by omega
 rw [Diners.row] at g2
 refine z14 18 Tryz.call44 Tryz.func44 rfl (by decide) fun J=>?_
 simp only [go_sem,St.start,Tryz.ntmps44,Tryz.results44,Kitchen.cells]
 repeat (first | refine nx ?_ | (refine z10 fun K hK=>?_;simp only [go_sem,g1,g2,n1,n2];apply hK;clear hK K))
 simp only [go_sem]
theorem zf45 (k:Kitchen) (day group:Nat) (hd:day<k.days.length) (hg:group<(k.days.getD day []).length):Fn Tryz.prog 45 [.agg k.cells,.i (day:Int),.i (group:Int)] (.i (dinAt k day group).count.lo):=by
 have g1:=z289 hd
 have g2:=z898 hg
 have n1:¬ ((day:Int)<0):=by omega
 have n2:¬ ((group:Int)<0):=by omega
 rw [Diners.row] at g2
 refine z14 18 Tryz.call45 Tryz.func45 rfl (by decide) fun J=>?_
 simp only [go_sem,St.start,Tryz.ntmps45,Tryz.results45,Kitchen.cells]
 repeat (first | refine nx ?_ | (refine z10 fun K hK=>?_;simp only [go_sem,g1,g2,n1,n2];apply hK;clear hK K))
 simp only [go_sem]
def clrTo (k:Kitchen) (day:Int) (l:List Int) (w:Int):Nat→List Int × Int
 | 0=>(l,w)
 | j + 1=>if (batAt k j).last<day then ((clrTo k day l w j).1.set j 0,(clrTo k day l w j).2 + getI (clrTo k day l w j).1 (j:Int)) else clrTo k day l w j
theorem z45 (k:Kitchen) (day:Int) (l:List Int) (w:Int):∀ j,(clrTo k day l w j).1.length=l.length
 | 0=>rfl
 | j + 1=>by
  rw [clrTo]
  split
  ·simp [z45 k day l w j]
  ·exact z45 k day l w j
def AmtOk (l:List Int):Prop:=∀ x ∈ l,0≤x∧x≤1000000
theorem AmtOk.get {l:List Int} (h:AmtOk l) (i:Int):0≤getI l i∧getI l i≤1000000:=z155 h (by decide) i
theorem AmtOk.set {l:List Int} (h:AmtOk l) (i:Nat) {x:Int} (hx:0≤x∧x≤1000000):AmtOk (l.set i x):=fun y hy=>by
 rcases List.mem_or_eq_of_mem_set hy with hy | rfl
 ·exact h y hy
 ·exact hx
theorem z55 {k:Kitchen} {day:Int} {l:List Int} {w:Int} (h:AmtOk l):∀ j,AmtOk (clrTo k day l w j).1∧w≤(clrTo k day l w j).2∧(clrTo k day l w j).2≤w + 1000000 * j
 | 0=>⟨h,Int.le_refl _,by simp [clrTo]⟩
 | j + 1=>by
  obtain ⟨h1,h2,h3⟩:=z55 (k:=k) (day:=day) (w:=w) h j
  rw [clrTo]
  split
  ·have:=h1.get (j:Int)
   refine ⟨h1.set j (by decide),?_,?_⟩ <;> dsimp only <;> omega
  ·exact ⟨h1,h2,by omega⟩
theorem z1079 (k:Kitchen) (hb:k.batches.length≤10) (day:Int) (l:List Int) (o:List Nat) (w:Int) (hl:l.length=k.batches.length) (ha:AmtOk l) (hw0:0≤w∧w≤2 ^ 40) :
  FnG Tryz.prog 46 [.box (lardRow k (.own 1) (.own 2) w),.arr 3 1 (intRows l),.arr 3 1 (natRows o)] [0] [.box 0 0,.d (.i day)] (.tup [])
   [.box (lardRow k (.own 1) (.own 2) (clrTo k day l w k.batches.length).2),.arr 3 1 (intRows (clrTo k day l w k.batches.length).1),.arr 3 1 (natRows o)]:=by
 have hst0:clrTo k day l w 0=(l,w):=rfl
 obtain ⟨R,hR⟩:∃ R,R=clrTo k day l w:=⟨_,rfl⟩
 have hRl:∀ j,(R j).1.length=l.length:=by rw [hR];exact z45 k day l w
 have hRo:∀ j,AmtOk (R j).1∧w≤(R j).2∧(R j).2≤w + 1000000 * j:=by rw [hR];exact z55 ha
 have hRs:∀ j,R (j + 1)=if (batAt k j).last<day then ((R j).1.set j 0,(R j).2 + getI (R j).1 (j:Int)) else R j:=by rw [hR];exact fun j=>rfl
 rw [← hR] at hst0
 rw [show clrTo k day l w=R from hR.symm]
 refine z65 43 Tryz.call46 Tryz.func46 rfl (by decide) [] [(0,0)] (by simp only [List.length_cons,List.length_nil];decide) (by kernel_rfl) fun J=>?_
 simp only [go_sem,St.startG,Tryz.ntmps46,Tryz.results46,List.map_cons,List.map_nil,List.range_succ,  lardRow]
 repeat (first | refine nx ?_ | (refine z10 fun K hK=>?_;simp only [go_sem];apply hK;clear hK K))
 refine z15 (fun (i:Nat)=>[(13,.d (.i (i:Int)))]) (fun i=>[(43,some (.box (lardRow k (.own 44) (.own 45) (R i).2))),(44,some (.arr 3 1 (intRows (R i).1)))]) (fun i=>i≤k.batches.length) (fun i=>k.batches.length - i) 0 ?_ (Nat.zero_le _) ?_
 ·rw [hst0]
  simp only [go_sem,lardRow]
  refine weA ?_ ?_ <;> simp
  all_goals first | done | rfl | trace_state
 ·intro i hi
  have hAl:=hRl i
  obtain ⟨hok,hw1,hw2⟩:=hRo i
  have hnx:=hRs i
  obtain ⟨⟨A,v⟩,hAv⟩:∃ p,R i=p:=⟨_,rfl⟩
  rw [hAv] at hAl hok hw1 hw2 hnx ⊢
  dsimp only at hAl hok hw1 hw2 hnx ⊢
  simp only [go_sem,lardRow]
  repeat (first | refine nx ?_ | (refine z10 fun K hK=>?_;simp only [go_sem];apply hK;clear hK K))
  refine z13 rfl (fun hb2=>?_) (fun hb2=>?_)
  ·have hlt:i<k.batches.length:=by simpa using hb2
   have hw:IntKind.i64.wrap ((i:Int) + 1)=((i + 1:Nat):Int):=by rw [z17 (by omega)];simp
   have gb:=z167 hlt
   rw [Batch.row] at gb
   have hni:¬ ((i:Int)<0):=by omega
   have hiA:i<A.length:=by omega
   have gA:=z27 hiA
   have hg:=hok.get (i:Int)
   have e1:IntKind.i64.wrap (v + getI A (i:Int))=v + getI A (i:Int):=z17 (by omega)
   have su:(intRows A).set i [.i 0]=intRows (A.set i 0):=z51 A i 0
   by_cases hq:(batAt k i).last<day
   ·rw [if_pos hq] at hnx
    have d:decide ((batAt k i).last<day)=true:=decide_eq_true hq
    repeat (first | refine z12 rfl ?_ | refine z11 rfl ?_ | refine nx ?_ | (refine z10 fun K hK=>?_;simp only [go_sem,gb,d];apply hK;clear hK K))
    refine z16 (by kernel_rfl) (by kernel_rfl) fun K hK=>?_
    simp only [go_sem,hni,hiA,gA,e1]
    refine ⟨by kernel_rfl,hK _ ?_⟩
    clear hK K
    repeat (first | refine nx ?_ | (refine z10 fun K hK=>?_;simp only [go_sem,hni,hiA,gA,su,hw];apply hK;clear hK K))
    refine ⟨rfl,i + 1,?_,hlt,by omega⟩
    rw [hnx]
    simp only [go_sem,lardRow]
    refine weA ?_ ?_ <;> simp
    all_goals first | done | rfl | trace_state
   ·rw [if_neg hq] at hnx
    have d:decide ((batAt k i).last<day)=false:=decide_eq_false hq
    repeat (first | refine z12 rfl ?_ | refine z11 rfl ?_ | refine nx ?_ | (refine z10 fun K hK=>?_;simp only [go_sem,gb,d,hw];apply hK;clear hK K))
    refine ⟨rfl,i + 1,?_,hlt,by omega⟩
    rw [hnx]
    simp only [go_sem,lardRow]
    refine weA ?_ ?_ <;> simp
    all_goals first | done | rfl | trace_state
  ·have he:i=k.batches.length:=by (have:¬ i<k.batches.length:=by simpa using hb2);omega
   subst he
   rw [hAv]
   repeat (first | refine nx ?_ | (refine z10 fun K hK=>?_;simp only [go_sem];apply hK;clear hK K))
   simp only [go_sem,retG,lardRow]
end Go.Ab
namespace Go.Ab
open Go.RowKit Go.Proofs
set_option maxHeartbeats 16000000
set_option maxRecDepth 20000
attribute [local irreducible] WalkL Walk
def needG (k:Kitchen) (ds:List Int) (cnt:Nat→Int) (good:Nat):Nat→Int
 | 0=>0
 | g + 1=>needG k ds cnt good g + getI (dishAt k (getI ds (g:Int))).needs (good:Int) * cnt g
def needL (k:Kitchen) (ds:List Int) (cnt:Nat→Int):List Int:=(List.range k.allerg.length).map fun x=>needG k ds cnt x ds.length
theorem z358 {k:Kitchen} (hg:KitGood k) {n:Nat} (h:n<k.dishes.length) (i:Int):0≤getI (dishAt k (n:Int)).needs i∧getI (dishAt k (n:Int)).needs i≤5000:=by
 obtain ⟨x,hx⟩:∃ x,k.dishes[n]?=some x:=⟨_,List.getElem?_eq_getElem h⟩
 have:dishAt k (n:Int)=x:=by rw [dishAt,Int.toNat_natCast,List.getD,hx];rfl
 rw [this]
 exact z155 (hg.needs x (List.mem_of_getElem? hx)).2 (by decide) i
structure DayOk (k:Kitchen) (ds:List Int) (cnt:Nat→Int):Prop where
 len:ds.length≤3
 dish:∀ g<ds.length,∃ n:Nat,ds[g]?=some (n:Int)∧n<k.dishes.length
 cnt:∀ g<ds.length,0≤cnt g∧cnt g≤100
theorem z188 {k:Kitchen} (hg:KitGood k) {ds:List Int} {cnt:Nat→Int} (hd:DayOk k ds cnt) (good:Nat):∀ g:Nat,g≤ds.length→0≤needG k ds cnt good g∧needG k ds cnt good g≤500000 * g
 | 0,_=>by simp [needG]
 | g + 1,h=>by
  have ih:=z188 hg hd good g (by omega)
  obtain ⟨n,hn,hnl⟩:=hd.dish g (by omega)
  have hc:=hd.cnt g (by omega)
  have e:getI ds (g:Int)=n:=by rw [getI,Int.toNat_natCast,List.getD,hn];rfl
  have q:=z358 hg hnl (good:Int)
  have m1:0≤getI (dishAt k (n:Int)).needs (good:Int) * cnt g:=Int.mul_nonneg q.1 hc.1
  have m2:getI (dishAt k (n:Int)).needs (good:Int) * cnt g≤5000 * 100:=Int.mul_le_mul q.2 hc.2 hc.1 (by decide)
  rw [needG,e]
  omega
def mixL (G:Nat) (a b:Nat→Int) (j:Nat):List Int:=(List.range G).map fun x=>if x<j then b x else a x
theorem z295 (G:Nat) (a b:Nat→Int) (j:Nat):(mixL G a b j).length=G:=by simp [mixL]
theorem z1172 (G:Nat) (a b:Nat→Int) {j:Nat} (h:j<G):(mixL G a b j)[j]?=some (a j):=by simp [mixL,h]
theorem z1118 (G:Nat) (a b:Nat→Int) {j:Nat} (h:j<G):(mixL G a b j).set j (b j)=mixL G a b (j + 1):=by
 refine List.ext_getElem? fun i=>?_
 rw [List.getElem?_set,z295]
 by_cases hi:i<G
 ·by_cases he:j=i
  ·subst he
   rw [if_pos rfl,if_pos hi]
   simp [mixL,hi]
  ·rw [if_neg he]
   have:(i<j + 1)=(i<j):=by apply propext;omega
   simp [mixL,hi,this]
 ·rw [List.getElem?_eq_none (l:=mixL G a b (j + 1)) (by rw [z295];omega)]
  by_cases he:j=i
  ·omega
  ·rw [if_neg he,List.getElem?_eq_none (by rw [z295];omega)]
theorem z1119 (G:Nat) (a b:Nat→Int):mixL G a b G=(List.range G).map b:=by
 unfold mixL
 refine List.map_congr_left fun x hx=>?_
 rw [if_pos (List.mem_range.1 hx)]
theorem z1032 (G:Nat) (a b:Nat→Int):mixL G a b 0=(List.range G).map a:=by
 unfold mixL
 refine List.map_congr_left fun x hx=>?_
 rw [if_neg (by omega)]
theorem z1078 (k:Kitchen) (hg:KitGood k) (ds:List Int) (cnt:Nat→Int) (g:Nat) (caps:List DV) (hd:DayOk k ds cnt) (hc:∀ j,j<ds.length→Fn Tryz.prog g (.i (j:Int)::caps) (.i (cnt j))) :
  FnS Tryz.prog 47 [.agg k.cells,.sl (intRows ds),.fn g caps] 3 1 (intRows (needL k ds cnt)):=by
 have hgo:=hg.goods
 have hdl:=hd.len
 have hmk:(k.allerg.length:Int)≤1099511627776:=by omega
 have hrep:=z209 k.allerg.length
 unfold needL
 obtain ⟨G,hG⟩:∃ G,G=k.allerg.length:=⟨_,rfl⟩
 obtain ⟨f,hf⟩:∃ f:Nat→Nat→Int,f=fun i x=>needG k ds cnt x i:=⟨_,rfl⟩
 have hf0:intRows (List.replicate G 0)=intRows ((List.range G).map (f 0)):=by
  rw [hf]
  congr 1
  refine List.ext_getElem? fun i=>?_
  by_cases hi:i<G <;> simp [hi,needG,List.getElem?_replicate]
 have hfr:∀ i x,i≤ds.length→0≤f i x∧f i x≤500000 * i:=fun i x hi=>by rw [hf];exact z188 hg hd x i hi
 have hfs:∀ i x,f (i + 1) x=f i x + getI (dishAt k (getI ds (i:Int))).needs (x:Int) * cnt i:=fun i x=>by rw [hf];rfl
 rw [show (fun x=>needG k ds cnt x ds.length)=f ds.length by rw [hf]]
 rw [← hG] at hmk hrep hgo ⊢
 refine z132 51 Tryz.call47 Tryz.func47 rfl (by decide) fun J=>?_
 simp only [go_sem,St.start,Tryz.ntmps47,Tryz.results47,Kitchen.cells]
 repeat (first | refine nx ?_ | (refine z10 fun K hK=>?_;simp only [go_sem,← hG,hmk,hrep];apply hK;clear hK K))
 refine z15 (fun (i:Nat)=>[(19,.d (.i (i:Int)))]) (fun i=>[(16,some (.arr 3 1 (intRows ((List.range G).map (f i)))))]) (fun i=>i≤ds.length) (fun i=>ds.length - i) 0 ?_ (Nat.zero_le _) ?_
 ·rw [← hf0]
  simp only [go_sem]
  refine weA ?_ ?_ <;> simp
  all_goals first | done | rfl | trace_state
 ·intro i hi
  simp only [go_sem]
  repeat (first | refine nx ?_ | (refine z10 fun K hK=>?_;simp only [go_sem];apply hK;clear hK K))
  refine z13 rfl (fun hb=>?_) (fun hb=>?_)
  ·have hlt:i<ds.length:=by simpa using hb
   have hw:IntKind.i64.wrap ((i:Int) + 1)=((i + 1:Nat):Int):=by rw [z17 (by omega)];simp
   obtain ⟨n,hn,hnl⟩:=hd.dish i hlt
   have g1:=z38 hn
   have gd:=z538 hnl
   have hl:=z300 hg hnl
   have hnn:¬ ((n:Int)<0):=by omega
   have hci:=hc i hlt
   have hcr:=hd.cnt i hlt
   have e:getI ds (i:Int)=n:=by rw [getI,Int.toNat_natCast,List.getD,hn];rfl
   have hq:=fun x:Nat=>z358 hg hnl (x:Int)
   have hfi:=hfs i
   rw [e] at hfi
   obtain ⟨N,hN⟩:∃ N,N=(dishAt k (n:Int)).needs:=⟨_,rfl⟩
   rw [← hN,← hG] at hl
   rw [← hN] at gd
   rw [← hN] at hq hfi
   repeat (first | refine nx ?_ | (refine z10 fun K hK=>?_;simp only [go_sem,g1,gd,hnn,hl];apply hK;clear hK K))
   have m0:=z1032 G (f i) (f (i + 1))
   refine z15 (fun (j:Nat)=>[(32,.d (.i (j:Int)))]) (fun j=>[(16,some (.arr 3 1 (intRows (mixL G (f i) (f (i + 1)) j))))]) (fun j=>j≤G) (fun j=>G - j) 0 ?_ (Nat.zero_le _) ?_
   ·rw [m0]
    simp only [go_sem]
    refine weA ?_ ?_ <;> simp
    all_goals first | done | rfl | trace_state
   ·intro j hj
    have hMl:=z295 G (f i) (f (i + 1)) j
    simp only [go_sem]
    repeat (first | refine nx ?_ | (refine z10 fun K hK=>?_;simp only [go_sem,hl];apply hK;clear hK K))
    refine z13 rfl (fun hb=>?_) (fun hb=>?_)
    ·have hltj:j<G:=by simpa using hb
     have hwj:IntKind.i64.wrap ((j:Int) + 1)=((j + 1:Nat):Int):=by rw [z17 (by omega)];simp
     have hnj:¬ ((j:Int)<0):=by omega
     have gN:=z27 (l:=N) (i:=j) (by omega)
     have gM:=z38 (z1172 G (f i) (f (i + 1)) hltj)
     have r1:=hfr i j (by omega)
     have r2:=hq j
     have m1:0≤getI N (j:Int) * cnt i:=Int.mul_nonneg r2.1 hcr.1
     have m2:getI N (j:Int) * cnt i≤5000 * 100:=Int.mul_le_mul r2.2 hcr.2 hcr.1 (by decide)
     have e1:IntKind.i64.wrap (getI N (j:Int) * cnt i)=getI N (j:Int) * cnt i:=z17 (by omega)
     have e2:IntKind.i64.wrap (f i j + getI N (j:Int) * cnt i)=f (i + 1) j:=by rw [z17 (by omega),hfi j]
     have su:(intRows (mixL G (f i) (f (i + 1)) j)).set j [.i (f (i + 1) j)]=intRows (mixL G (f i) (f (i + 1)) (j + 1)):=by rw [z51,z1118 _ _ _ hltj]
     obtain ⟨M,hM⟩:∃ M,M=mixL G (f i) (f (i + 1)) j:=⟨_,rfl⟩
     rw [← hM] at gM su hMl ⊢
     have hjM:j<M.length:=by omega
     repeat (first | refine nx ?_ | (refine z10 fun K hK=>?_;simp only [go_sem,gN];apply hK;clear hK K))
     refine z16 (by kernel_rfl) (by kernel_rfl) fun K hK=>?_
     simp only [go_sem,gM,hjM,hnj]
     refine ⟨_,.fn (hf:=hci) (hd:=z31 _ _ _ _ rfl) (hr:=.inl rfl),?_⟩
     simp only [go_sem,gM,hjM,hnj,e1,e2,su]
     refine ⟨by kernel_rfl,hK _ ?_⟩
     clear hK K
     repeat (first | refine nx ?_ | (refine z10 fun K hK=>?_;simp only [go_sem,hwj];apply hK;clear hK K))
     refine ⟨rfl,j + 1,?_,hltj,by omega⟩
     refine weA ?_ ?_ <;> simp
     all_goals first | done | rfl | trace_state
    ·have he:j=G:=by (have:¬ j<G:=by simpa using hb);omega
     subst he
     rw [z1119]
     repeat (first | refine nx ?_ | (refine z10 fun K hK=>?_;simp only [go_sem,hw];apply hK;clear hK K))
     refine ⟨rfl,i + 1,?_,hlt,by omega⟩
     refine weA ?_ ?_ <;> simp
     all_goals first | done | rfl | trace_state
  ·have he:i=ds.length:=by (have:¬ i<ds.length:=by simpa using hb);omega
   subst he
   repeat (first | refine nx ?_ | (refine z10 fun K hK=>?_;simp only [go_sem];apply hK;clear hK K))
   simp only [go_sem]
end Go.Ab
namespace Go.Ab
open Go.RowKit Go.Proofs
set_option maxHeartbeats 16000000
set_option maxRecDepth 20000
attribute [local irreducible] WalkL Walk
def takeStep (k:Kitchen) (good:Nat) (a:List Int × Int) (i:Nat):List Int × Int :=
 if (batAt k i).good=(good:Int) then (a.1.set i (getI a.1 (i:Int) - min a.2 (getI a.1 (i:Int))),a.2 - min a.2 (getI a.1 (i:Int))) else a
def takeG (k:Kitchen) (o:List Nat) (good:Nat) (l:List Int) (need:Int):List Int × Int:=o.foldl (takeStep k good) (l,need)
def takeTo (k:Kitchen) (o:List Nat) (needs l:List Int):Nat→Option (List Int)
 | 0=>some l
 | g + 1=>match takeTo k o needs l g with
  | none=>none
  | some c=>if (takeG k o g c (getI needs (g:Int))).2 > 0 then none else some (takeG k o g c (getI needs (g:Int))).1
theorem z117 {k:Kitchen} {good:Nat} {a:List Int × Int} {i:Nat} (h:AmtOk a.1) (hn:0≤a.2):AmtOk (takeStep k good a i).1∧(takeStep k good a i).1.length=a.1.length∧0≤(takeStep k good a i).2∧(takeStep k good a i).2≤a.2:=by
 unfold takeStep
 have hg:=h.get (i:Int)
 split
 ·refine ⟨h.set i (by omega),by simp,?_,?_⟩ <;> dsimp only <;> omega
 ·exact ⟨h,rfl,hn,Int.le_refl _⟩
theorem z293 {k:Kitchen} {good:Nat}:∀ (o:List Nat) {a:List Int × Int},AmtOk a.1→0≤a.2→AmtOk (o.foldl (takeStep k good) a).1∧(o.foldl (takeStep k good) a).1.length=a.1.length∧0≤(o.foldl (takeStep k good) a).2∧(o.foldl (takeStep k good) a).2≤a.2
 | [],a,h,hn=>⟨h,rfl,hn,Int.le_refl _⟩
 | i::o,a,h,hn=>by
  obtain ⟨h1,h2,h3,h4⟩:=z117 (k:=k) (good:=good) (i:=i) h hn
  obtain ⟨k1,k2,k3,k4⟩:=z293 o h1 h3
  rw [List.foldl_cons]
  exact ⟨k1,by rw [k2,h2],k3,by omega⟩
theorem z116 {k:Kitchen} {o:List Nat} {needs l:List Int} (h:AmtOk l) (hn:∀ x ∈ needs,0≤x):∀ (g:Nat) (c:List Int),takeTo k o needs l g=some c→AmtOk c∧c.length=l.length
 | 0,c,hc=>by cases hc;exact ⟨h,rfl⟩
 | g + 1,c,hc=>by
  rw [takeTo] at hc
  cases hx:takeTo k o needs l g with
  | none=>rw [hx] at hc;cases hc
  | some d =>
   rw [hx] at hc
   dsimp only at hc
   split at hc
   ·cases hc
   ·cases hc
    obtain ⟨d1,d2⟩:=z116 h hn g d hx
    have hng:0≤getI needs (g:Int):=by
     unfold getI List.getD
     cases hy:needs[((g:Int)).toNat]? with
     | none=>simp
     | some y=>exact hn y (List.mem_of_getElem? hy)
    obtain ⟨k1,k2,_⟩:=z293 (k:=k) (good:=g) o (a:=(d,getI needs (g:Int))) d1 hng
    exact ⟨k1,by rw [takeG,k2,d2]⟩
theorem z201 {k:Kitchen} {o:List Nat} {needs l:List Int} {g:Nat} (h:takeTo k o needs l g=none):∀ {m:Nat},g≤m→takeTo k o needs l m=none:=by
 intro m hm
 induction hm with
 | refl=>exact h
 | step _ ih=>rw [takeTo,ih]
def takeBlks (k:Kitchen) (w:Int) (l:List Int) (o:List Nat):Option (List Int)→List Blk
 | none=>[.box (lardRow k (.own 1) (.own 2) w),.arr 3 1 (intRows l),.arr 3 1 (natRows o)]
 | some c=>[.box (lardRow k (.own 3) (.own 2) w),.arr 3 1 (intRows l),.arr 3 1 (natRows o),.arr 3 1 (intRows c)]
theorem z1145 (k:Kitchen) (needs l:List Int) (o:List Nat) (w:Int) (hl:l.length=k.batches.length) (hbl:k.batches.length≤10) (ha:AmtOk l) (hn:∀ x ∈ needs,0≤x∧x≤2 ^ 40) (hnl:needs.length≤6) (ho:∀ x ∈ o,x<k.batches.length) (hol:o.length≤10) :
  FnG Tryz.prog 63 [.box (lardRow k (.own 1) (.own 2) w),.arr 3 1 (intRows l),.arr 3 1 (natRows o)] [0] [.box 0 0,.d (.sl (intRows needs))] (.d (.bool (takeTo k o needs l needs.length).isSome)) (takeBlks k w l o (takeTo k o needs l needs.length)):=by
 have h184:=z1197 l (by omega)
 have hn0:∀ x ∈ needs,0≤x:=fun x hx=>(hn x hx).1
 have hto:=fun g c hc=>z116 (k:=k) (o:=o) ha hn0 g c hc
 cases hres:takeTo k o needs l needs.length with
 | none =>
  refine z65 68 Tryz.call63 Tryz.func63 rfl (by decide) [] [(0,0)] (by simp only [List.length_cons,List.length_nil];decide) (by kernel_rfl) fun J=>?_
  simp only [go_sem,St.startG,Tryz.ntmps63,Tryz.results63,List.map_cons,List.map_nil,List.range_succ,  lardRow]
  repeat (first | refine nx ?_ | (refine z10 fun K hK=>?_;simp only [go_sem];apply hK;clear hK K))
  refine z10 fun K hK=>?_
  simp only [go_sem]
  refine ⟨_,.lentS (hdst:=rfl) (hf:=h184) (hd:=rfl) (hr:=z33 _) (hfr:=rfl),?_⟩
  simp only [go_sem]
  apply hK
  clear hK K
  repeat (first | refine nx ?_ | (refine z10 fun K hK=>?_;simp only [go_sem];apply hK;clear hK K))
  refine z15 (fun (q:Nat × List Int)=>[(18,.d (.i (q.1:Int)))]) (fun q=>[(15,some (.arr 3 1 (intRows q.2)))]) (fun q=>q.1≤needs.length∧takeTo k o needs l q.1=some q.2) (fun q=>needs.length - q.1) (0,l) ?_ ⟨Nat.zero_le _,rfl⟩ ?_
  ·simp only [go_sem]
   refine weA ?_ ?_ <;> simp
   all_goals first | done | rfl | trace_state
  ·rintro ⟨g,cur⟩ ⟨hg,hcur⟩
   dsimp only at hg hcur
   obtain ⟨hco,hcl⟩:=hto g cur hcur
   simp only [go_sem]
   repeat (first | refine nx ?_ | (refine z10 fun K hK=>?_;simp only [go_sem];apply hK;clear hK K))
   refine z13 rfl (fun hb=>?_) (fun hb=>?_)
   ·have hlt:g<needs.length:=by simpa using hb
    have hw:IntKind.i64.wrap ((g:Int) + 1)=((g + 1:Nat):Int):=by rw [z17 (by omega)];simp
    have gn:=z27 hlt
    have hnx:takeTo k o needs l (g + 1)=if (takeG k o g cur (getI needs (g:Int))).2 > 0 then none else some (takeG k o g cur (getI needs (g:Int))).1:=by rw [takeTo,hcur]
    have hnr:0≤getI needs (g:Int)∧getI needs (g:Int)≤2 ^ 40:=z155 hn (by decide) _
    obtain ⟨N,hN⟩:∃ N,N=getI needs (g:Int):=⟨_,rfl⟩
    rw [← hN] at gn hnx hnr
    repeat (first | refine nx ?_ | (refine z10 fun K hK=>?_;simp only [go_sem,gn];apply hK;clear hK K))
    refine z15 (fun (q:Nat × List Int × Int)=>[(28,.d (.i (q.1:Int))),(7,.d (.i q.2.2))]) (fun q=>[(15,some (.arr 3 1 (intRows q.2.1)))]) (fun q=>q.1≤o.length∧(q.2.1,q.2.2)=(o.take q.1).foldl (takeStep k g) (cur,N)∧AmtOk q.2.1∧q.2.1.length=l.length∧0≤q.2.2∧q.2.2≤2 ^ 40) (fun q=>o.length - q.1) (0,cur,N) ?_ ⟨Nat.zero_le _,rfl,hco,hcl,hnr.1,hnr.2⟩ ?_
    ·simp only [go_sem]
     refine weA ?_ ?_ <;> simp
     all_goals first | done | rfl | trace_state
    ·rintro ⟨j,A,m⟩ ⟨hj,hfold,hAo,hAl,hm0,hm1⟩
     dsimp only at hj hfold hAo hAl hm0 hm1
     simp only [go_sem]
     repeat (first | refine nx ?_ | (refine z10 fun K hK=>?_;simp only [go_sem];apply hK;clear hK K))
     refine z13 rfl (fun hb=>?_) (fun hb=>?_)
     ·have hltj:j<o.length:=by simpa using hb
      have hwj:IntKind.i64.wrap ((j:Int) + 1)=((j + 1:Nat):Int):=by rw [z17 (by omega)];simp
      have hnj:¬ ((j:Int)<0):=by omega
      obtain ⟨x,hx⟩:∃ x,o[j]?=some x:=⟨_,List.getElem?_eq_getElem hltj⟩
      have gx:=z111 hltj
      rw [List.getD,hx,Option.getD_some] at gx
      have hxb:=ho x (List.mem_of_getElem? hx)
      have gb:=z167 hxb
      rw [Batch.row] at gb
      have hnx2:¬ ((x:Int)<0):=by omega
      have hxA:x<A.length:=by omega
      have gA:=z27 hxA
      have hgA:=hAo.get (x:Int)
      have hst:(o.take (j + 1)).foldl (takeStep k g) (cur,N)=takeStep k g (A,m) x:=by rw [z32 _ _ _ _ _ hx,← hfold]
      have hso:=z117 (k:=k) (good:=g) (i:=x) (a:=(A,m)) hAo hm0
      by_cases hq:(batAt k x).good=(g:Int)
      ·have d:((batAt k x).good == (g:Int))=true:=by simp [hq]
       have e0:takeStep k g (A,m) x=(A.set x (getI A (x:Int) - min m (getI A (x:Int))),m - min m (getI A (x:Int))):=by rw [takeStep,if_pos hq]
       rw [e0] at hst hso
       dsimp only at hso
       have e1:IntKind.i64.wrap (getI A (x:Int) - min m (getI A (x:Int)))=getI A (x:Int) - min m (getI A (x:Int)):=z17 (by omega)
       have e2:IntKind.i64.wrap (m - min m (getI A (x:Int)))=m - min m (getI A (x:Int)):=z17 (by omega)
       have su:=z51 A x (getI A (x:Int) - min m (getI A (x:Int)))
       obtain ⟨v,hv⟩:∃ v,v=getI A (x:Int):=⟨_,rfl⟩
       rw [← hv] at gA e1 e2 su hst hso hgA
       obtain ⟨t,ht⟩:∃ t,t=min m v:=⟨_,rfl⟩
       rw [← ht] at e1 e2 su hst hso
       have ht':min m v=t:=ht.symm
       repeat (first | refine z12 rfl ?_ | refine z11 rfl ?_ | refine nx ?_ | (refine z10 fun K hK=>?_;simp only [go_sem,gx,hnj,hltj,gb,hnx2,d];apply hK;clear hK K))
       repeat (first | refine nx ?_ | (refine z10 fun K hK=>?_;simp only [go_sem,gx,hnj,hltj,gb,hnx2,d,gA,hxA,ht',e1,e2,su,hwj];apply hK;clear hK K))
       refine ⟨rfl,(j + 1,A.set x (v - t),m - t),?_,⟨hltj,hst.symm,hso.1,by rw [hso.2.1];exact hAl,hso.2.2.1,by dsimp only;omega⟩,by dsimp only;omega⟩
       refine weA ?_ ?_ <;> simp
       all_goals first | done | rfl | trace_state
      ·have d:((batAt k x).good == (g:Int))=false:=by simpa using hq
       have e0:takeStep k g (A,m) x=(A,m):=by rw [takeStep,if_neg hq]
       rw [e0] at hst
       repeat (first | refine z12 rfl ?_ | refine z11 rfl ?_ | refine nx ?_ | (refine z10 fun K hK=>?_;simp only [go_sem,gx,hnj,hltj,gb,hnx2,d,hwj];apply hK;clear hK K))
       refine ⟨rfl,(j + 1,A,m),?_,⟨hltj,hst.symm,hAo,hAl,hm0,hm1⟩,by dsimp only;omega⟩
       refine weA ?_ ?_ <;> simp
       all_goals first | done | rfl | trace_state
     ·have he:j=o.length:=by (have:¬ j<o.length:=by simpa using hb);omega
      subst he
      rw [List.take_length] at hfold
      have hG:takeG k o g cur N=(A,m):=hfold.symm
      rw [hG] at hnx
      dsimp only at hnx
      repeat (first | refine nx ?_ | (refine z10 fun K hK=>?_;simp only [go_sem];apply hK;clear hK K))
      refine z13 rfl (fun hb=>?_) (fun hb=>?_)
      ·have hpos:m > 0:=by simpa using hb
       rw [if_pos hpos] at hnx
       repeat (first | refine nx ?_ | (refine z10 fun K hK=>?_;simp only [go_sem];apply hK;clear hK K))
       simp only [go_sem,retG,takeBlks,lardRow,Option.isSome_none]
      ·have hpos:¬ m > 0:=by simpa using hb
       rw [if_neg hpos] at hnx
       repeat (first | refine nx ?_ | (refine z10 fun K hK=>?_;simp only [go_sem,hw];apply hK;clear hK K))
       refine ⟨rfl,(g + 1,A),?_,⟨hlt,hnx⟩,by dsimp only;omega⟩
       refine weA ?_ ?_ <;> simp
       all_goals first | done | rfl | trace_state
   ·have he:g=needs.length:=by (have:¬ g<needs.length:=by simpa using hb);omega
    subst he
    rw [hres] at hcur
    cases hcur
 | some cf =>
  refine z65 68 Tryz.call63 Tryz.func63 rfl (by decide) [15] [(0,0)] (by simp only [List.length_cons,List.length_nil];decide) (by kernel_rfl) fun J=>?_
  simp only [go_sem,St.startG,Tryz.ntmps63,Tryz.results63,List.map_cons,List.map_nil,List.range_succ,  lardRow]
  repeat (first | refine nx ?_ | (refine z10 fun K hK=>?_;simp only [go_sem];apply hK;clear hK K))
  refine z10 fun K hK=>?_
  simp only [go_sem]
  refine ⟨_,.lentS (hdst:=rfl) (hf:=h184) (hd:=rfl) (hr:=z33 _) (hfr:=rfl),?_⟩
  simp only [go_sem]
  apply hK
  clear hK K
  repeat (first | refine nx ?_ | (refine z10 fun K hK=>?_;simp only [go_sem];apply hK;clear hK K))
  refine z15 (fun (q:Nat × List Int)=>[(18,.d (.i (q.1:Int)))]) (fun q=>[(15,some (.arr 3 1 (intRows q.2)))]) (fun q=>q.1≤needs.length∧takeTo k o needs l q.1=some q.2) (fun q=>needs.length - q.1) (0,l) ?_ ⟨Nat.zero_le _,rfl⟩ ?_
  ·simp only [go_sem]
   refine weA ?_ ?_ <;> simp
   all_goals first | done | rfl | trace_state
  ·rintro ⟨g,cur⟩ ⟨hg,hcur⟩
   dsimp only at hg hcur
   obtain ⟨hco,hcl⟩:=hto g cur hcur
   simp only [go_sem]
   repeat (first | refine nx ?_ | (refine z10 fun K hK=>?_;simp only [go_sem];apply hK;clear hK K))
   refine z13 rfl (fun hb=>?_) (fun hb=>?_)
   ·have hlt:g<needs.length:=by simpa using hb
    have hw:IntKind.i64.wrap ((g:Int) + 1)=((g + 1:Nat):Int):=by rw [z17 (by omega)];simp
    have gn:=z27 hlt
    have hnx:takeTo k o needs l (g + 1)=if (takeG k o g cur (getI needs (g:Int))).2 > 0 then none else some (takeG k o g cur (getI needs (g:Int))).1:=by rw [takeTo,hcur]
    have hnr:0≤getI needs (g:Int)∧getI needs (g:Int)≤2 ^ 40:=z155 hn (by decide) _
    obtain ⟨N,hN⟩:∃ N,N=getI needs (g:Int):=⟨_,rfl⟩
    rw [← hN] at gn hnx hnr
    repeat (first | refine nx ?_ | (refine z10 fun K hK=>?_;simp only [go_sem,gn];apply hK;clear hK K))
    refine z15 (fun (q:Nat × List Int × Int)=>[(28,.d (.i (q.1:Int))),(7,.d (.i q.2.2))]) (fun q=>[(15,some (.arr 3 1 (intRows q.2.1)))]) (fun q=>q.1≤o.length∧(q.2.1,q.2.2)=(o.take q.1).foldl (takeStep k g) (cur,N)∧AmtOk q.2.1∧q.2.1.length=l.length∧0≤q.2.2∧q.2.2≤2 ^ 40) (fun q=>o.length - q.1) (0,cur,N) ?_ ⟨Nat.zero_le _,rfl,hco,hcl,hnr.1,hnr.2⟩ ?_
    ·simp only [go_sem]
     refine weA ?_ ?_ <;> simp
     all_goals first | done | rfl | trace_state
    ·rintro ⟨j,A,m⟩ ⟨hj,hfold,hAo,hAl,hm0,hm1⟩
     dsimp only at hj hfold hAo hAl hm0 hm1
     simp only [go_sem]
     repeat (first | refine nx ?_ | (refine z10 fun K hK=>?_;simp only [go_sem];apply hK;clear hK K))
     refine z13 rfl (fun hb=>?_) (fun hb=>?_)
     ·have hltj:j<o.length:=by simpa using hb
      have hwj:IntKind.i64.wrap ((j:Int) + 1)=((j + 1:Nat):Int):=by rw [z17 (by omega)];simp
      have hnj:¬ ((j:Int)<0):=by omega
      obtain ⟨x,hx⟩:∃ x,o[j]?=some x:=⟨_,List.getElem?_eq_getElem hltj⟩
      have gx:=z111 hltj
      rw [List.getD,hx,Option.getD_some] at gx
      have hxb:=ho x (List.mem_of_getElem? hx)
      have gb:=z167 hxb
      rw [Batch.row] at gb
      have hnx2:¬ ((x:Int)<0):=by omega
      have hxA:x<A.length:=by omega
      have gA:=z27 hxA
      have hgA:=hAo.get (x:Int)
      have hst:(o.take (j + 1)).foldl (takeStep k g) (cur,N)=takeStep k g (A,m) x:=by rw [z32 _ _ _ _ _ hx,← hfold]
      have hso:=z117 (k:=k) (good:=g) (i:=x) (a:=(A,m)) hAo hm0
      by_cases hq:(batAt k x).good=(g:Int)
      ·have d:((batAt k x).good == (g:Int))=true:=by simp [hq]
       have e0:takeStep k g (A,m) x=(A.set x (getI A (x:Int) - min m (getI A (x:Int))),m - min m (getI A (x:Int))):=by rw [takeStep,if_pos hq]
       rw [e0] at hst hso
       dsimp only at hso
       have e1:IntKind.i64.wrap (getI A (x:Int) - min m (getI A (x:Int)))=getI A (x:Int) - min m (getI A (x:Int)):=z17 (by omega)
       have e2:IntKind.i64.wrap (m - min m (getI A (x:Int)))=m - min m (getI A (x:Int)):=z17 (by omega)
       have su:=z51 A x (getI A (x:Int) - min m (getI A (x:Int)))
       obtain ⟨v,hv⟩:∃ v,v=getI A (x:Int):=⟨_,rfl⟩
       rw [← hv] at gA e1 e2 su hst hso hgA
       obtain ⟨t,ht⟩:∃ t,t=min m v:=⟨_,rfl⟩
       rw [← ht] at e1 e2 su hst hso
       have ht':min m v=t:=ht.symm
       repeat (first | refine z12 rfl ?_ | refine z11 rfl ?_ | refine nx ?_ | (refine z10 fun K hK=>?_;simp only [go_sem,gx,hnj,hltj,gb,hnx2,d];apply hK;clear hK K))
       repeat (first | refine nx ?_ | (refine z10 fun K hK=>?_;simp only [go_sem,gx,hnj,hltj,gb,hnx2,d,gA,hxA,ht',e1,e2,su,hwj];apply hK;clear hK K))
       refine ⟨rfl,(j + 1,A.set x (v - t),m - t),?_,⟨hltj,hst.symm,hso.1,by rw [hso.2.1];exact hAl,hso.2.2.1,by dsimp only;omega⟩,by dsimp only;omega⟩
       refine weA ?_ ?_ <;> simp
       all_goals first | done | rfl | trace_state
      ·have d:((batAt k x).good == (g:Int))=false:=by simpa using hq
       have e0:takeStep k g (A,m) x=(A,m):=by rw [takeStep,if_neg hq]
       rw [e0] at hst
       repeat (first | refine z12 rfl ?_ | refine z11 rfl ?_ | refine nx ?_ | (refine z10 fun K hK=>?_;simp only [go_sem,gx,hnj,hltj,gb,hnx2,d,hwj];apply hK;clear hK K))
       refine ⟨rfl,(j + 1,A,m),?_,⟨hltj,hst.symm,hAo,hAl,hm0,hm1⟩,by dsimp only;omega⟩
       refine weA ?_ ?_ <;> simp
       all_goals first | done | rfl | trace_state
     ·have he:j=o.length:=by (have:¬ j<o.length:=by simpa using hb);omega
      subst he
      rw [List.take_length] at hfold
      have hG:takeG k o g cur N=(A,m):=hfold.symm
      rw [hG] at hnx
      dsimp only at hnx
      repeat (first | refine nx ?_ | (refine z10 fun K hK=>?_;simp only [go_sem];apply hK;clear hK K))
      refine z13 rfl (fun hb=>?_) (fun hb=>?_)
      ·have hpos:m > 0:=by simpa using hb
       rw [if_pos hpos] at hnx
       rw [z201 hnx (by omega:g + 1≤needs.length)] at hres
       cases hres
      ·have hpos:¬ m > 0:=by simpa using hb
       rw [if_neg hpos] at hnx
       repeat (first | refine nx ?_ | (refine z10 fun K hK=>?_;simp only [go_sem,hw];apply hK;clear hK K))
       refine ⟨rfl,(g + 1,A),?_,⟨hlt,hnx⟩,by dsimp only;omega⟩
       refine weA ?_ ?_ <;> simp
       all_goals first | done | rfl | trace_state
   ·have he:g=needs.length:=by (have:¬ g<needs.length:=by simpa using hb);omega
    subst he
    rw [hres] at hcur
    cases hcur
    repeat (first | refine nx ?_ | (refine z10 fun K hK=>?_;simp only [go_sem];apply hK;clear hK K))
    simp only [go_sem,retG,takeBlks,lardRow,Option.isSome_some]
end Go.Ab
namespace Go.Ab
open Go.RowKit Go.Proofs
set_option maxHeartbeats 16000000
set_option maxRecDepth 20000
attribute [local irreducible] WalkL Walk
theorem z520 {q:Int→Diners→Bool}:∀ {l:List Int} {d:List Diners},rowOk q l d=true→∀ {g:Nat} {n:Int},l[g]?=some n→∃ x,d[g]?=some x∧q n x=true
 | [],[],_,g,n,h=>by simp at h
 | m::l,x::d,hr,g,n,h=>by
  rw [rowOk,Bool.and_eq_true] at hr
  cases g with
  | zero=>simp at h;subst h;exact ⟨x,rfl,hr.1⟩
  | succ g=>simpa using z520 hr.2 (by simpa using h)
 | [],_::_,h,_,_,_=>by cases h
 | _::_,[],h,_,_,_=>by cases h
theorem z170 {q:Int→Diners→Bool}:∀ {l:List (List Int)} {d:List (List Diners)},shapedB q l d=true→∀ {i:Nat} {r:List Int},l[i]?=some r→∃ x,d[i]?=some x∧rowOk q r x=true
 | [],[],_,i,r,h=>by simp at h
 | m::l,x::d,hr,i,r,h=>by
  rw [shapedB,Bool.and_eq_true] at hr
  cases i with
  | zero=>simp at h;subst h;exact ⟨x,rfl,hr.1⟩
  | succ i=>simpa using z170 hr.2 (by simpa using h)
 | [],_::_,h,_,_,_=>by cases h
 | _::_,[],h,_,_,_=>by cases h
structure CntOk (k:Kitchen) (cnt:Nat→Nat→Int):Prop where
 rng:∀ d g,d<k.days.length→g<(k.days.getD d []).length→0≤cnt d g∧cnt d g≤100
theorem z147 {k:Kitchen} (hg:KitGood k) {M:List (List Int)} (hM:shapedB (menuB k) M k.days=true) {cnt:Nat→Nat→Int} (hc:CntOk k cnt) {d:Nat} {r:List Int} (hr:M[d]?=some r) :
  d<k.days.length∧r.length=(k.days.getD d []).length∧DayOk k r (cnt d):=by
 obtain ⟨x,hx,ho⟩:=z170 hM hr
 have hd:=(List.getElem?_eq_some_iff.1 hx).1
 have e:k.days.getD d []=x:=by rw [List.getD,hx];rfl
 have hl:=z99 ho
 have h3:=(hg.groups x (List.mem_of_getElem? hx)).1
 refine ⟨hd,by rw [e,hl],⟨by omega,fun g hgl=>?_,fun g hgl=>hc.rng d g hd (by rw [e];omega)⟩⟩
 obtain ⟨n,hn⟩:∃ n,r[g]?=some n:=⟨_,List.getElem?_eq_getElem hgl⟩
 obtain ⟨y,_,hq⟩:=z520 ho hn
 rw [menuB,Bool.and_eq_true] at hq
 have hw:=z24.1 hq.1
 exact ⟨n.toNat,by rw [hn,Int.toNat_of_nonneg hw.1],by omega⟩
theorem z1130 {k:Kitchen} (hg:KitGood k):CntOk k fun d g=>(dinAt k d g).count.hi:=⟨fun d g hd hgl=>by
 obtain ⟨x,hx⟩:∃ x,k.days[d]?=some x:=⟨_,List.getElem?_eq_getElem hd⟩
 have e:k.days.getD d []=x:=by rw [List.getD,hx];rfl
 rw [e] at hgl
 obtain ⟨y,hy⟩:∃ y,x[g]?=some y:=⟨_,List.getElem?_eq_getElem hgl⟩
 have e2:dinAt k d g=y:=by rw [dinAt,e,List.getD,hy];rfl
 have:=((hg.groups x (List.mem_of_getElem? hx)).2 y (List.mem_of_getElem? hy)).2
 rw [e2]
 omega⟩
theorem lo_ok {k:Kitchen} (hg:KitGood k):CntOk k fun d g=>(dinAt k d g).count.lo:=⟨fun d g hd hgl=>by
 obtain ⟨x,hx⟩:∃ x,k.days[d]?=some x:=⟨_,List.getElem?_eq_getElem hd⟩
 have e:k.days.getD d []=x:=by rw [List.getD,hx];rfl
 rw [e] at hgl
 obtain ⟨y,hy⟩:∃ y,x[g]?=some y:=⟨_,List.getElem?_eq_getElem hgl⟩
 have e2:dinAt k d g=y:=by rw [dinAt,e,List.getD,hy];rfl
 have:=((hg.groups x (List.mem_of_getElem? hx)).2 y (List.mem_of_getElem? hy)).2
 rw [e2]
 omega⟩
def clrD (k:Kitchen) (d:Nat) (a:List Int × Int):List Int × Int:=clrTo k (d:Int) a.1 a.2 k.batches.length
def needD (k:Kitchen) (M:List (List Int)) (cnt:Nat→Nat→Int) (d:Nat):List Int:=needL k (M.getD d []) (cnt d)
def runSt (k:Kitchen) (M:List (List Int)) (cnt:Nat→Nat→Int):Nat→Option (List Int × Int)
 | 0=>some (amtK k,0)
 | d + 1=>match runSt k M cnt d with
  | none=>none
  | some a=>(takeTo k (ordK k) (needD k M cnt d) (clrD k d a).1 k.allerg.length).map fun l=>(l,(clrD k d a).2)
def lastD (k:Kitchen) (M:List (List Int)) (cnt:Nat→Nat→Int):Nat→Nat
 | 0=>0
 | d + 1=>if (runSt k M cnt (d + 1)).isSome then d + 1 else lastD k M cnt d
theorem z450 {k:Kitchen} {M:List (List Int)} {cnt:Nat→Nat→Int} {d:Nat} (h:runSt k M cnt d=none):∀ {m:Nat},d≤m→runSt k M cnt m=none:=by
 intro m hm
 induction hm with
 | refl=>exact h
 | step _ ih=>rw [runSt,ih]
theorem z228 {k:Kitchen} {M:List (List Int)} {cnt:Nat→Nat→Int} {d:Nat} (h:(runSt k M cnt d).isSome=true):lastD k M cnt d=d:=by
 cases d with
 | zero=>rfl
 | succ d=>rw [lastD,if_pos h]
theorem z260 {k:Kitchen} {M:List (List Int)} {cnt:Nat→Nat→Int} {d:Nat} (h:(runSt k M cnt d).isSome=true) (hn:runSt k M cnt (d + 1)=none):∀ {m:Nat},d≤m→lastD k M cnt m=d:=by
 intro m hm
 induction hm with
 | refl=>exact z228 h
 | @step m hm ih =>
  rw [lastD,z450 hn (Nat.succ_le_succ hm)]
  exact ih
theorem z47 (k:Kitchen) (ds:List Int) (cnt:Nat→Int):(needL k ds cnt).length=k.allerg.length:=by simp [needL]
theorem z58 {k:Kitchen} (hg:KitGood k) {ds:List Int} {cnt:Nat→Int} (hd:DayOk k ds cnt):∀ x ∈ needL k ds cnt,0≤x∧x≤2 ^ 40:=fun x hx=>by
 obtain ⟨g,_,rfl⟩:=List.mem_map.1 hx
 have:=z188 hg hd g ds.length (Nat.le_refl _)
 have:=hd.len
 omega
theorem z369 {k:Kitchen} (hg:KitGood k):AmtOk (amtK k):=fun x hx=>by
 obtain ⟨b,hb,rfl⟩:=List.mem_map.1 hx
 exact (hg.batch b hb).2.1
theorem z223 {k:Kitchen} (hg:KitGood k) {M:List (List Int)} (hM:shapedB (menuB k) M k.days=true) {cnt:Nat→Nat→Int} (hc:CntOk k cnt):∀ (d:Nat) a,d≤M.length→runSt k M cnt d=some a→AmtOk a.1∧a.1.length=k.batches.length∧0≤a.2∧a.2≤10000000 * d
 | 0,a,_,h=>by
  cases h
  exact ⟨z369 hg,by simp [amtK],Int.le_refl 0,by simp⟩
 | d + 1,a,hd,h=>by
  rw [runSt] at h
  cases hx:runSt k M cnt d with
  | none=>rw [hx] at h;cases h
  | some b =>
   rw [hx] at h
   dsimp only at h
   obtain ⟨h1,h2,h3,h4⟩:=z223 hg hM hc d b (by omega) hx
   obtain ⟨l,hl,rfl⟩:=Option.map_eq_some_iff.1 h
   obtain ⟨r,hr⟩:∃ r,M[d]?=some r:=⟨_,List.getElem?_eq_getElem (by omega)⟩
   obtain ⟨_,_,hdo⟩:=z147 hg hM hc hr
   have hnd:needD k M cnt d=needL k r (cnt d):=by rw [needD,List.getD,hr];rfl
   obtain ⟨c1,c2,c3⟩:=z55 (k:=k) (day:=(d:Int)) (w:=b.2) h1 k.batches.length
   obtain ⟨t1,t2⟩:=z116 (k:=k) (o:=ordK k) (needs:=needD k M cnt d) c1 (fun x hx=>by rw [hnd] at hx;exact (z58 hg hdo x hx).1) k.allerg.length l hl
   have hb:=hg.batches
   refine ⟨t1,by rw [t2,z45,h2],?_,?_⟩
   ·change 0≤(clrTo k (d:Int) b.1 b.2 k.batches.length).2
    omega
   ·change (clrTo k (d:Int) b.1 b.2 k.batches.length).2≤_
    push_cast
    omega
theorem zf82 (k:Kitchen) (f:FuncId) (d g:Nat) (c:Int) (h:Fn Tryz.prog f [.agg k.cells,.i (d:Int),.i (g:Int)] (.i c)):Fn Tryz.prog 82 [.i (g:Int),.ptr [.bnd f [.agg k.cells]] 0,.ptr [.i (d:Int)] 0] (.i c):=by
 rw [Kitchen.cells] at h ⊢
 refine z14 9 Tryz.call82 Tryz.func82 rfl (by decide) fun J=>?_
 simp only [go_sem,St.start,Tryz.ntmps82,Tryz.results82]
 repeat (first | refine nx ?_ | (refine z10 fun K hK=>?_;simp only [go_sem];(repeat (first | (refine ⟨_,.lent (hf:=h) (hd:=rfl) (hr:=rfl),?_⟩;simp only [go_sem]) | (refine ⟨_,.given (hf:=h) (hd:=rfl) (ha:=rfl),?_⟩;simp only [go_sem])));apply hK;clear hK K))
 simp only [go_sem]
end Go.Ab
/- A fresh slice is a deep value too. -/
namespace Go.Ab
open Go.RowKit
theorem FnS.deep {P:Program} {f:FuncId} {args:List DV} {e z:Nat} {rows:List (List DV)} (h:FnS P f args e z rows):Fn P f args (.sl rows) :=
 ⟨h.1,fun w own vs hb hh hd=>(h.2 w own vs hb hh hd).mono fun en w' hq=>by
  obtain ⟨v,μ,he,hv,hm,hbl⟩:=hq
  exact ⟨v,he,z68 hm own (fun b hb=>.inl hb) (fun _=>True) (fun n b z l c _ hμ=>(hm.base n b z l c hμ).2.2) 1 (.own 0) v _ hv rfl (fun _ _=>trivial) (.inl fun _ _ _ _ _ _=>trivial),hbl⟩⟩
theorem FnG.boxNil {P:Program} {f:FuncId} {m0:List Blk} {pins:List Nat} {args:List AV} {r:AV} {row:List AV} {rest:List Blk} (h:FnG P f m0 pins args r (.box row::rest)):FnG P f m0 pins args r (.box []::rest) :=
 ⟨h.enters,fun base w own μ0 vs h1 h2 h3 h4 h5 h6=>(h.calls base w own μ0 vs h1 h2 h3 h4 h5 h6).mono fun en w' hq=>by
  obtain ⟨v,μ1,he,hv,hm,hk,hp⟩:=hq
  refine ⟨v,μ1,he,hv,⟨fun n b hb=>?_,fun n hn=>?_,hm.inj,hm.base⟩,hk,hp⟩
  ·cases n with
   | zero =>
    have e:Blk.box []=b:=by simpa using hb
    subst e
    obtain ⟨b,cs,ty,g1,g2,_,_⟩:=hm.blk 0 (.box row) rfl
    exact ⟨b,cs,ty,g1,g2,Nat.zero_le _,fun j x v hx=>by cases hx⟩
   | succ n=>exact hm.blk (n + 1) b (by simpa using hb)
  ·obtain ⟨b,hb⟩:=hm.dom n hn
   cases n with
   | zero=>exact ⟨.box [],rfl⟩
   | succ n=>exact ⟨b,by simpa using hb⟩⟩
def closedM (m:Nat→Bool):List Oper→Nat→Prop
 | [],_=>True
 | o::os,i=>(m i=false→depsM m o.after.toList)∧closedM m os (i + 1)
theorem z265 {m:Nat→Bool}:∀ (os:List Oper) (i:Nat),(∀ r o,os[r]?=some o→m (i + r)=false→depsM m o.after.toList)→closedM m os i
 | [],_,_=>trivial
 | o::os,i,h=>⟨fun hm=>h 0 o rfl hm,z265 os (i + 1) fun r o ho hm=>h (r + 1) o (by simpa using ho) (by rw [show i + (r + 1)=i + 1 + r by omega];exact hm)⟩
def stepsC (P:Program) (all:List Oper) (G:(Nat→Bool)→St):List Oper→Nat→Prop
 | [],_=>True
 | o::os,i=>(∀ m:Nat→Bool,m i=true→depsM m o.after.toList→closedM m all 0→dstOk o=true∧o.guard=none∧stepK P o (G m) (fun s=>s=G (offM m i)))∧stepsC P all G os (i + 1)
def StepC (P:Program) (all:List Oper) (G:(Nat→Bool)→St) (o:Oper) (i:Nat):Prop:=∀ m:Nat→Bool,m i=true→depsM m o.after.toList→closedM m all 0→dstOk o=true∧o.guard=none∧stepK P o (G m) (fun s=>s=G (offM m i))
theorem z247 {P:Program} {all:List Oper} {G:(Nat→Bool)→St}:∀ (os:List Oper) (i r:Nat) (o:Oper),stepsC P all G os i→os[r]?=some o→StepC P all G o (i + r)
 | [],_,_,_,_,ho=>by simp at ho
 | p::os,i,r,o,h,ho=>by
  cases r with
  | zero =>
   have e:p=o:=by simpa using ho
   rw [← e]
   exact h.1
  | succ r =>
   have h2:=z247 os (i + 1) r o h.2 (by simpa using ho)
   have e:i + 1 + r=i + (r + 1):=by omega
   rw [e] at h2
   exact h2
structure LeftD (ops:Array Oper) (G:(Nat→Bool)→St) (rs:List Nat) (s s':St):Prop where
 left:LeftC ops G rs s s'
 done:∀ (j:Nat) (o:Oper),ops[j]?=some o→j ∉ rs→∀ e ∈ o.after,Region.binds .any e=true→e.on ∉ rs
section
variable {P:Program} {rd:Option Nat} {n:Nat} {J:Env} {ops:Array Oper} {cs:List Code} {k:Option Nat} {st:St} {Q:Exit→Option Nat→St→Prop}
theorem z734 {id:Nat} (hfol:P.follows .mixedOrders=true) (hback:backB ops=true) (G:(Nat→Bool)→St) (h0:G (fun i=>decide (i<ops.size))=st) (hs:stepsC P ops.toList G ops.toList 0) (h:Q .normal k (G fun _=>false)) :
  Walk P rd n J (.region id ops true) k st Q:=fun B base out μ tmps w ds _ hst hJ hM=>by
 refine z175 (rs:=List.range ops.size) (fun i=>i) (fun a b=>¬ Anc ops a b) (LeftD ops G) (fun s s' hc=>?_) (fun r rs s s' hc=>?_) (fun r B s s' A hA hc=>?_) hfol hback (by simp) ?_ ?_ hst fun tmps' μ' w' h5 hk hS=>.step hJ h5 hk hS hM h
 ·rw [hc.left.now,hc.left.fin]
  rfl
 ·obtain ⟨⟨h1,h2,h3,h4,h5⟩,h6⟩:=hc
  have hr:=h5 r (by simp)
  obtain ⟨o,ho⟩:∃ o,ops[r]?=some o:=⟨ops[r],by simp [hr]⟩
  rw [List.pairwise_cons] at h4
  rw [List.nodup_cons] at h3
  have hni:∀ e ∈ o.after,Region.binds .any e=true→e.on ∉ r::rs:=by
   intro e he hb hc
   have hlt:=z127 hback ho he hb
   have hanc:Anc ops e.on r:=.edge ho he hb
   rcases List.mem_cons.1 hc with hc | hc
   ·omega
   ·exact h4.1 _ hc hanc
  have hg:=z247 ops.toList 0 r o hs (by simpa using ho) (fun i=>(r::rs).contains i) (by simp) (z236 fun e he hb=>by
   simpa using hni e (by simpa using he) hb) (z265 _ _ fun j q hq hm=>z236 fun e he hb=>by
    have hj:j ∉ r::rs:=by simpa using hm
    simpa using h6 j q (by simpa using hq) hj e (by simpa using he) hb)
  obtain ⟨hd,hgu,hk⟩:=hg
  obtain ⟨s1,hs1,he⟩:=z137 hk
  refine ⟨o,s1,ho,hd,by unfold StepG;rw [hgu,h1];exact hs1,?_⟩
  refine ⟨⟨?_,h2,h3.2,h4.2,fun i hi=>h5 i (by simp [hi])⟩,fun j q hq hj e he hb hc=>?_⟩
  ·rw [he]
   congr 1
   funext j
   unfold offM
   rw [Nat.zero_add]
   by_cases hj:j=r
   ·subst hj
    rw [if_pos rfl]
    have:¬ rs.contains j=true:=by simpa using h3.1
    simpa using this
   ·rw [if_neg hj]
    simp [hj]
  ·by_cases hjr:j=r
   ·subst hjr
    rw [hq] at ho
    cases ho
    exact hni e he hb (by simp [hc])
   ·exact h6 j q hq (by simp [hjr,hj]) e he hb (by simp [hc])
 ·obtain ⟨⟨h1,h2,h3,h4,h5⟩,h6⟩:=hc
  have hsub:(A++B).Sublist (A++r::B):=List.Sublist.append_left (List.sublist_cons_self r B) A
  have hmem:∀ i,i ∈ r::(A++B)↔i ∈ A++r::B:=by
   intro i
   simp
   constructor
   ·rintro (h | h | h) <;> simp [h]
   ·rintro (h | h | h) <;> simp [h]
  refine ⟨⟨?_,h2,?_,?_,fun i hi=>h5 i ((hmem i).1 hi)⟩,fun j q hq hj e he hb hc=>h6 j q hq (fun h=>hj ((hmem j).2 h)) e he hb ((hmem _).1 hc)⟩
  ·rw [h1]
   congr 1
   funext j
   rw [Bool.eq_iff_iff]
   simp
   constructor
   ·rintro (h | h | h) <;> simp [h]
   ·rintro (h | h | h) <;> simp [h]
  ·rw [List.nodup_cons]
   refine ⟨?_,h3.sublist hsub⟩
   rw [List.nodup_append] at h3
   intro hc
   rcases List.mem_append.1 hc with hc | hc
   ·exact h3.2.2 r hc r (by simp) rfl
   ·exact (List.nodup_cons.1 h3.2.1).1 hc
  ·rw [List.pairwise_cons]
   refine ⟨fun b hb=>?_,h4.sublist hsub⟩
   rcases List.mem_append.1 hb with hb | hb
   ·exact hA b hb
   ·rw [List.pairwise_append] at h4
    exact (List.pairwise_cons.1 h4.2.1).1 b hb
 ·have hp:(List.range ops.size).Pairwise (·<·):=List.pairwise_lt_range
  exact hp.imp fun {a b} _=>Classical.em _
 ·refine ⟨⟨?_,rfl,List.nodup_range,?_,fun i hi=>List.mem_range.1 hi⟩,fun j o ho hj=>?_⟩
  ·rw [← h0]
   congr 1
   funext i
   rw [Bool.eq_iff_iff]
   simp
  ·exact List.pairwise_lt_range.imp fun {a b} hab hc=>by
    have:=z1151 hback hc
    omega
  ·have:=(Array.getElem?_eq_some_iff.1 ho).1
   exact absurd (List.mem_range.2 this) hj
theorem z272 {id:Nat} (hfol:P.follows .mixedOrders=true) (hback:backB ops=true) (G:(Nat→Bool)→St) (h0:G (fun i=>decide (i<ops.size))=st) (hs:stepsC P ops.toList G ops.toList 0)
  (h:WalkL P rd n J cs k (G fun _=>false) Q):WalkL P rd n J (.region id ops true::cs) k st Q :=
 z734 hfol hback G h0 hs h
end
theorem z77 {P:Program} {rd:Option Nat} {n:Nat} {J:Env} {c:Code} {cs:List Code} {k:Option Nat} {st:St} {Q:Exit→Option Nat→St→Prop} (ds:List Nat) (hw:Weak st (st.head ds [] [])) (h:WalkL P rd n J (c::cs) k (st.head ds [] []) Q) :
  WalkL P rd n J (c::cs) k st Q:=z71 hw h
end Go.Ab
namespace Go.Ab
open Go.RowKit Go.Proofs
set_option maxHeartbeats 16000000
set_option maxRecDepth 20000
attribute [local irreducible] WalkL Walk
def endSt (k:Kitchen) (M:List (List Int)) (cnt:Nat→Nat→Int):List Int × Int :=
 let a:=(runSt k M cnt (lastD k M cnt M.length)).getD (amtK k,0)
 if lastD k M cnt M.length<M.length then clrD k (lastD k M cnt M.length) a else a
def leftAt (i:Nat) (a:List Int):AV:=if i=0 then .own 1 else .d (.sl (intRows a))
def left0 (k:Kitchen):List Int:=(clrD k 0 (amtK k,0)).1
def runBlks (k:Kitchen) (M:List (List Int)) (cnt:Nat→Nat→Int):List Blk :=
 [.box (lardRow k (leftAt (lastD k M cnt M.length) (endSt k M cnt).1) (.own 2) (endSt k M cnt).2),.arr 3 1 (intRows (left0 k)),.arr 3 1 (natRows (ordK k))]
def nmL (p:Nat):Nat:=if p=0 then 34 else p
theorem z258 {i:Nat} (h:i=0) (a:List Int):leftAt i a=.own 1:=by rw [leftAt,if_pos h]
theorem z122 {i:Nat} (h:i≠0) (a:List Int):leftAt i a=.d (.sl (intRows a)):=by rw [leftAt,if_neg h]
theorem zf43 (k:Kitchen) (hg:KitGood k) (M:List (List Int)) (hM:shapedB (menuB k) M k.days=true) (f:FuncId) (cnt:Nat→Nat→Int) (hc:CntOk k cnt)
  (hf:∀ d g,d<k.days.length→g<(k.days.getD d []).length→Fn Tryz.prog f [.agg k.cells,.i (d:Int),.i (g:Int)] (.i (cnt d g))) :
  FnG Tryz.prog 43 [.box (lardRow k (.own 1) (.own 2) 0),.arr 3 1 (intRows (amtK k)),.arr 3 1 (natRows (ordK k))] [0] [.box 0 0,.d (.sl (listRows M)),.d (.bnd f [.agg k.cells])] (.d (.i (lastD k M cnt M.length:Nat))) (runBlks k M cnt):=by
 have hbl:=hg.batches
 have hdl:=hg.days
 have hMl:=z54 hM
 have hgo:=hg.goods
 obtain ⟨A0,hA0⟩:∃ a,a=left0 k:=⟨_,rfl⟩
 refine z65 33 Tryz.call43 Tryz.func43 rfl (by decide) [] [(0,0)] (by simp only [List.length_cons,List.length_nil];decide) (by kernel_rfl) fun J=>?_
 simp only [go_sem,St.startG,Tryz.ntmps43,Tryz.results43,List.map_cons,List.map_nil,List.range_succ,  lardRow]
 repeat refine nx ?_
 refine z10 fun K hK=>?_
 simp only [go_sem]
 apply hK
 clear hK K
 refine z20 [5] ?_
 simp only [go_sem]
 repeat (first | refine nx ?_ | (refine z10 fun K hK=>?_;simp only [go_sem,z26];apply hK;clear hK K))
 refine z15 (fun (q:Nat × Nat × List Int × Int)=>[(11,.d (.i (q.1:Int)))])
  (fun q=>[(33,some (.box (lardRow k (.own (nmL q.2.1)) (.own 35) q.2.2.2))),(34,some (.arr 3 1 (intRows (if q.2.1=0 then q.2.2.1 else A0)))),(1,if q.2.1=1 then some (.arr 3 1 (intRows q.2.2.1)) else none),(2,if q.2.1=2 then some (.arr 3 1 (intRows q.2.2.1)) else none)])
  (fun q=>q.1≤M.length∧runSt k M cnt q.1=some q.2.2∧(q.2.1=0→q.1=0∧q.2.2.1=amtK k)∧(q.1=0→q.2.1=0)∧q.2.1<3) (fun q=>M.length - q.1) (0,0,amtK k,0) ?_ ⟨Nat.zero_le _,rfl,fun _=>⟨rfl,rfl⟩,fun _=>rfl,Nat.zero_lt_succ _⟩ ?_
 ·simp only [go_sem,nmL,lardRow]
  refine weA ?_ ?_ <;> simp
  all_goals first | done | rfl | exact ⟨rfl,rfl⟩ | trace_state
 ·rintro ⟨d,p,l,w⟩ ⟨hd,hrun,hp0,hd0,hp3⟩
  dsimp only at hd hrun hp0 hd0 hp3
  obtain ⟨hla,hll,hw0,hw1⟩:=z223 hg hM hc d (l,w) hd hrun
  dsimp only at hla hll hw0 hw1
  have hw2:w≤2 ^ 40:=by omega
  have hsome:(runSt k M cnt d).isSome=true:=by rw [hrun];rfl
  have hlast:d=M.length→lastD k M cnt M.length=d∧endSt k M cnt=(l,w):=fun he=>by
   have e:lastD k M cnt M.length=d:=by rw [← he];exact z228 hsome
   refine ⟨e,?_⟩
   rw [endSt,e,hrun,if_neg (by omega)]
   rfl
  have hstop:d<M.length→runSt k M cnt (d + 1)=none→lastD k M cnt M.length=d∧endSt k M cnt=clrD k d (l,w):=fun hlt hn=>by
   have e:lastD k M cnt M.length=d:=z260 hsome hn (by omega)
   refine ⟨e,?_⟩
   rw [endSt,e,hrun,if_pos hlt]
   rfl
  have hstep:d<M.length→runSt k M cnt (d + 1)=(takeTo k (ordK k) (needD k M cnt d) (clrD k d (l,w)).1 k.allerg.length).map fun c=>(c,(clrD k d (l,w)).2):=fun _=>by rw [runSt,hrun]
  rcases (by omega:p=0∨p=1∨p=2) with hp | hp | hp
  ·-- phase 0
   subst hp
   obtain ⟨hz0,hl1⟩:=hp0 rfl
   have hLA:=z258 hz0
   simp only [go_sem,nmL,lardRow]
   repeat (first | refine nx ?_ | (refine z10 fun K hK=>?_;simp only [go_sem];apply hK;clear hK K))
   refine z13 rfl (fun hb=>?_) (fun hb=>?_)
   ·have hlt:d<M.length:=by simpa using hb
    have hw:IntKind.i64.wrap ((d:Int) + 1)=((d + 1:Nat):Int):=by rw [z17 (by omega)];simp
    obtain ⟨r,hr⟩:∃ r,M[d]?=some r:=⟨_,List.getElem?_eq_getElem hlt⟩
    obtain ⟨hdd,hrl,hday⟩:=z147 hg hM hc hr
    have g1:=z40 hr
    have hni:¬ ((d:Int)<0):=by omega
    have hnd:needD k M cnt d=needL k r (cnt d):=by rw [needD,List.getD,hr];rfl
    have hst:=hstep hlt
    have hsp:=hstop hlt
    rw [hnd] at hst
    have h86:=z1079 k hbl (d:Int) l (ordK k) w hll hla ⟨hw0,hw2⟩
    obtain ⟨c1,c2,c3⟩:=z55 (k:=k) (day:=(d:Int)) (w:=w) hla k.batches.length
    have c4:=z45 k (d:Int) l w k.batches.length
    change runSt k M cnt (d + 1)=(takeTo k (ordK k) (needL k r (cnt d)) (clrTo k (d:Int) l w k.batches.length).1 k.allerg.length).map fun c=>(c,(clrTo k (d:Int) l w k.batches.length).2) at hst
    change runSt k M cnt (d + 1)=none→lastD k M cnt M.length=d∧endSt k M cnt=clrTo k (d:Int) l w k.batches.length at hsp
    obtain ⟨⟨C,v⟩,hC⟩:∃ a,a=clrTo k (d:Int) l w k.batches.length:=⟨_,rfl⟩
    rw [← hC] at h86 c1 c2 c3 c4 hst hsp
    dsimp only at c1 c2 c3 c4 hst
    have hAC:C=A0:=by
     have h0:(l,w)=(amtK k,0):=by rw [hz0] at hrun;exact (Option.some.inj hrun).symm
     rw [hA0,left0,clrD,← h0]
     rw [hz0] at hC
     exact congrArg Prod.fst hC
    subst hAC
    have h87:=(z1078 k hg r (cnt d) 82 [.ptr [.bnd f [.agg k.cells]] 0,.ptr [.i (d:Int)] 0] hday (fun j hj=>zf82 k f d j (cnt d j) (hf d j hdd (by omega)))).deep
    have h141:=z1145 k (needL k r (cnt d)) C (ordK k) v (by omega) hbl c1 (z58 hg hday) (by rw [z47];exact hgo.2) (fun x hx=>z49 hx) (by rw [z102];exact hbl)
    rw [z47] at h141
    simp only [lardRow] at h86
    rw [Kitchen.cells] at h87
    obtain ⟨N,hN⟩:∃ N,N=needL k r (cnt d):=⟨_,rfl⟩
    rw [← hN] at h87 h141 hst
    repeat refine nx ?_
    refine z10 fun K hK=>?_
    simp only [go_sem,g1,hni]
    apply hK
    clear hK K
    refine z20 [7] ?_
    simp only [go_sem]
    repeat refine nx ?_
    refine z10 fun K hK=>?_
    simp only [go_sem]
    refine ⟨_,.own (ns:=[33,34,35]) (news:=[]) (bads:=[34,35]) (rd:=[]) (hf:=h86) (hnd:=by decide) (hl0:=rfl) (hl1:=rfl) (hm:=by repeat (first | exact trivial | refine And.intro ?_ ?_ | rfl)) (hnew:=rfl) (hla:=rfl) (ha:=z28 (by repeat (first | exact trivial | refine And.intro ?_ ?_ | exact z29 rfl | exact z22 rfl rfl))) (hrd:=rfl) (hsh:=z23 _) (hb:=rfl) (hfl:=.inl rfl),?_⟩
    simp only [go_sem,List.map_cons,List.map_nil]
    apply hK
    clear hK K
    cases htk:takeTo k (ordK k) N C k.allerg.length with
    | none =>
     rw [htk] at h141 hst
     obtain ⟨hD,hE⟩:=hsp hst
     simp only [takeBlks,lardRow,Option.isSome_none] at h141
     repeat refine nx ?_
     refine z10 fun K hK=>?_
     simp only [go_sem]
     refine ⟨_,.given (hf:=h87) (hd:=rfl) (ha:=rfl),?_⟩
     simp only [go_sem]
     refine ⟨_,.own (ns:=[33,34,35]) (news:=[]) (bads:=[34,35]) (rd:=[]) (hf:=h141) (hnd:=by decide) (hl0:=rfl) (hl1:=rfl) (hm:=by repeat (first | exact trivial | refine And.intro ?_ ?_ | rfl)) (hnew:=rfl) (hla:=rfl) (ha:=z28 (by repeat (first | exact trivial | refine And.intro ?_ ?_ | exact z29 rfl | exact z22 rfl rfl))) (hrd:=rfl) (hsh:=z23 _) (hb:=rfl) (hfl:=.inl rfl),?_⟩
     simp only [go_sem,List.map_cons,List.map_nil]
     apply hK
     clear hK K
     repeat (first | refine nx ?_ | (refine z10 fun K hK=>?_;simp only [go_sem];apply hK;clear hK K))
     repeat (first | refine z12 rfl ?_ | refine z11 rfl ?_ | refine nx ?_ | (refine z10 fun K hK=>?_;simp only [go_sem];apply hK;clear hK K))
     simp only [go_sem,retG,runBlks,lardRow,hD,hE,hLA,← hA0]
    | some c =>
     rw [htk] at h141 hst
     simp only [takeBlks,lardRow,Option.isSome_some] at h141
     repeat refine nx ?_
     refine z10 fun K hK=>?_
     simp only [go_sem]
     refine ⟨_,.given (hf:=h87) (hd:=rfl) (ha:=rfl),?_⟩
     simp only [go_sem]
     refine ⟨_,.own (ns:=[33,34,35]) (news:=[2]) (bads:=[34,35]) (rd:=[]) (hf:=h141) (hnd:=by decide) (hl0:=rfl) (hl1:=rfl) (hm:=by repeat (first | exact trivial | refine And.intro ?_ ?_ | rfl)) (hnew:=rfl) (hla:=rfl) (ha:=z28 (by repeat (first | exact trivial | refine And.intro ?_ ?_ | exact z29 rfl | exact z22 rfl rfl))) (hrd:=rfl) (hsh:=z23 _) (hb:=rfl) (hfl:=.inl rfl),?_⟩
     simp only [go_sem,List.map_cons,List.map_nil]
     apply hK
     clear hK K
     repeat (first | refine z12 rfl ?_ | refine z11 rfl ?_ | refine nx ?_ | (refine z10 fun K hK=>?_;simp only [go_sem,hw];apply hK;clear hK K))
     refine ⟨rfl,(d + 1,2,c,v),?_,⟨hlt,hst,fun h=>absurd (show 2=0 from h) (by decide),fun h=>absurd (show d + 1=0 from h) (by omega),(by decide:2<3)⟩,by dsimp only;omega⟩
     simp only [go_sem,nmL,lardRow]
     refine weA ?_ ?_ <;> simp
     all_goals first | done | rfl | exact ⟨rfl,rfl⟩ | trace_state
   ·have he:d=M.length:=by (have:¬ d<M.length:=by simpa using hb);omega
    subst he
    exfalso
    omega
  ·-- phase 1
   subst hp
   have hpos:d≠0:=fun h=>by have:=hd0 h;omega
   have hLA:=z122 hpos
   simp only [go_sem,nmL,lardRow]
   repeat (first | refine nx ?_ | (refine z10 fun K hK=>?_;simp only [go_sem];apply hK;clear hK K))
   refine z13 rfl (fun hb=>?_) (fun hb=>?_)
   ·have hlt:d<M.length:=by simpa using hb
    have hw:IntKind.i64.wrap ((d:Int) + 1)=((d + 1:Nat):Int):=by rw [z17 (by omega)];simp
    obtain ⟨r,hr⟩:∃ r,M[d]?=some r:=⟨_,List.getElem?_eq_getElem hlt⟩
    obtain ⟨hdd,hrl,hday⟩:=z147 hg hM hc hr
    have g1:=z40 hr
    have hni:¬ ((d:Int)<0):=by omega
    have hnd:needD k M cnt d=needL k r (cnt d):=by rw [needD,List.getD,hr];rfl
    have hst:=hstep hlt
    have hsp:=hstop hlt
    rw [hnd] at hst
    have h86:=z1079 k hbl (d:Int) l (ordK k) w hll hla ⟨hw0,hw2⟩
    obtain ⟨c1,c2,c3⟩:=z55 (k:=k) (day:=(d:Int)) (w:=w) hla k.batches.length
    have c4:=z45 k (d:Int) l w k.batches.length
    change runSt k M cnt (d + 1)=(takeTo k (ordK k) (needL k r (cnt d)) (clrTo k (d:Int) l w k.batches.length).1 k.allerg.length).map fun c=>(c,(clrTo k (d:Int) l w k.batches.length).2) at hst
    change runSt k M cnt (d + 1)=none→lastD k M cnt M.length=d∧endSt k M cnt=clrTo k (d:Int) l w k.batches.length at hsp
    obtain ⟨⟨C,v⟩,hC⟩:∃ a,a=clrTo k (d:Int) l w k.batches.length:=⟨_,rfl⟩
    rw [← hC] at h86 c1 c2 c3 c4 hst hsp
    dsimp only at c1 c2 c3 c4 hst
    have h87:=(z1078 k hg r (cnt d) 82 [.ptr [.bnd f [.agg k.cells]] 0,.ptr [.i (d:Int)] 0] hday (fun j hj=>zf82 k f d j (cnt d j) (hf d j hdd (by omega)))).deep
    have h141:=z1145 k (needL k r (cnt d)) C (ordK k) v (by omega) hbl c1 (z58 hg hday) (by rw [z47];exact hgo.2) (fun x hx=>z49 hx) (by rw [z102];exact hbl)
    rw [z47] at h141
    simp only [lardRow] at h86
    rw [Kitchen.cells] at h87
    obtain ⟨N,hN⟩:∃ N,N=needL k r (cnt d):=⟨_,rfl⟩
    rw [← hN] at h87 h141 hst
    repeat refine nx ?_
    refine z10 fun K hK=>?_
    simp only [go_sem,g1,hni]
    apply hK
    clear hK K
    refine z20 [7] ?_
    simp only [go_sem]
    repeat refine nx ?_
    refine z10 fun K hK=>?_
    simp only [go_sem]
    refine ⟨_,.own (ns:=[33,1,35]) (news:=[]) (bads:=[1,35]) (rd:=[]) (hf:=h86) (hnd:=by decide) (hl0:=rfl) (hl1:=rfl) (hm:=by repeat (first | exact trivial | refine And.intro ?_ ?_ | rfl)) (hnew:=rfl) (hla:=rfl) (ha:=z28 (by repeat (first | exact trivial | refine And.intro ?_ ?_ | exact z29 rfl | exact z22 rfl rfl))) (hrd:=rfl) (hsh:=z23 _) (hb:=rfl) (hfl:=.inl rfl),?_⟩
    simp only [go_sem,List.map_cons,List.map_nil]
    apply hK
    clear hK K
    cases htk:takeTo k (ordK k) N C k.allerg.length with
    | none =>
     rw [htk] at h141 hst
     obtain ⟨hD,hE⟩:=hsp hst
     simp only [takeBlks,lardRow,Option.isSome_none] at h141
     repeat refine nx ?_
     refine z10 fun K hK=>?_
     simp only [go_sem]
     refine ⟨_,.given (hf:=h87) (hd:=rfl) (ha:=rfl),?_⟩
     simp only [go_sem]
     refine ⟨_,.own (ns:=[33,1,35]) (news:=[]) (bads:=[1,35]) (rd:=[]) (hf:=h141) (hnd:=by decide) (hl0:=rfl) (hl1:=rfl) (hm:=by repeat (first | exact trivial | refine And.intro ?_ ?_ | rfl)) (hnew:=rfl) (hla:=rfl) (ha:=z28 (by repeat (first | exact trivial | refine And.intro ?_ ?_ | exact z29 rfl | exact z22 rfl rfl))) (hrd:=rfl) (hsh:=z23 _) (hb:=rfl) (hfl:=.inl rfl),?_⟩
     simp only [go_sem,List.map_cons,List.map_nil]
     apply hK
     clear hK K
     repeat (first | refine nx ?_ | (refine z10 fun K hK=>?_;simp only [go_sem];apply hK;clear hK K))
     refine z20 [1] ?_
     simp only [go_sem]
     repeat (first | refine z12 rfl ?_ | refine z11 rfl ?_ | refine nx ?_ | (refine z10 fun K hK=>?_;simp only [go_sem];apply hK;clear hK K))
     simp only [go_sem,retG,runBlks,lardRow,hD,hE,hLA,← hA0]
    | some c =>
     rw [htk] at h141 hst
     simp only [takeBlks,lardRow,Option.isSome_some] at h141
     repeat refine nx ?_
     refine z10 fun K hK=>?_
     simp only [go_sem]
     refine ⟨_,.given (hf:=h87) (hd:=rfl) (ha:=rfl),?_⟩
     simp only [go_sem]
     refine ⟨_,.own (ns:=[33,1,35]) (news:=[2]) (bads:=[1,35]) (rd:=[]) (hf:=h141) (hnd:=by decide) (hl0:=rfl) (hl1:=rfl) (hm:=by repeat (first | exact trivial | refine And.intro ?_ ?_ | rfl)) (hnew:=rfl) (hla:=rfl) (ha:=z28 (by repeat (first | exact trivial | refine And.intro ?_ ?_ | exact z29 rfl | exact z22 rfl rfl))) (hrd:=rfl) (hsh:=z23 _) (hb:=rfl) (hfl:=.inl rfl),?_⟩
     simp only [go_sem,List.map_cons,List.map_nil]
     apply hK
     clear hK K
     repeat (first | refine z12 rfl ?_ | refine z11 rfl ?_ | refine nx ?_ | (refine z10 fun K hK=>?_;simp only [go_sem,hw];apply hK;clear hK K))
     refine ⟨rfl,(d + 1,2,c,v),?_,⟨hlt,hst,fun h=>absurd (show 2=0 from h) (by decide),fun h=>absurd (show d + 1=0 from h) (by omega),(by decide:2<3)⟩,by dsimp only;omega⟩
     simp only [go_sem,nmL,lardRow]
     refine weA ?_ ?_ <;> simp
     all_goals first | done | rfl | exact ⟨rfl,rfl⟩ | trace_state
   ·have he:d=M.length:=by (have:¬ d<M.length:=by simpa using hb);omega
    subst he
    obtain ⟨hD,hE⟩:=hlast rfl
    refine z20 [1] ?_
    simp only [go_sem]
    repeat (first | refine nx ?_ | (refine z10 fun K hK=>?_;simp only [go_sem];apply hK;clear hK K))
    simp only [go_sem,retG,runBlks,lardRow,hD,hE,hLA,← hA0]
  ·-- phase 2
   subst hp
   have hpos:d≠0:=fun h=>by have:=hd0 h;omega
   have hLA:=z122 hpos
   simp only [go_sem,nmL,lardRow]
   repeat (first | refine nx ?_ | (refine z10 fun K hK=>?_;simp only [go_sem];apply hK;clear hK K))
   refine z13 rfl (fun hb=>?_) (fun hb=>?_)
   ·have hlt:d<M.length:=by simpa using hb
    have hw:IntKind.i64.wrap ((d:Int) + 1)=((d + 1:Nat):Int):=by rw [z17 (by omega)];simp
    obtain ⟨r,hr⟩:∃ r,M[d]?=some r:=⟨_,List.getElem?_eq_getElem hlt⟩
    obtain ⟨hdd,hrl,hday⟩:=z147 hg hM hc hr
    have g1:=z40 hr
    have hni:¬ ((d:Int)<0):=by omega
    have hnd:needD k M cnt d=needL k r (cnt d):=by rw [needD,List.getD,hr];rfl
    have hst:=hstep hlt
    have hsp:=hstop hlt
    rw [hnd] at hst
    have h86:=z1079 k hbl (d:Int) l (ordK k) w hll hla ⟨hw0,hw2⟩
    obtain ⟨c1,c2,c3⟩:=z55 (k:=k) (day:=(d:Int)) (w:=w) hla k.batches.length
    have c4:=z45 k (d:Int) l w k.batches.length
    change runSt k M cnt (d + 1)=(takeTo k (ordK k) (needL k r (cnt d)) (clrTo k (d:Int) l w k.batches.length).1 k.allerg.length).map fun c=>(c,(clrTo k (d:Int) l w k.batches.length).2) at hst
    change runSt k M cnt (d + 1)=none→lastD k M cnt M.length=d∧endSt k M cnt=clrTo k (d:Int) l w k.batches.length at hsp
    obtain ⟨⟨C,v⟩,hC⟩:∃ a,a=clrTo k (d:Int) l w k.batches.length:=⟨_,rfl⟩
    rw [← hC] at h86 c1 c2 c3 c4 hst hsp
    dsimp only at c1 c2 c3 c4 hst
    have h87:=(z1078 k hg r (cnt d) 82 [.ptr [.bnd f [.agg k.cells]] 0,.ptr [.i (d:Int)] 0] hday (fun j hj=>zf82 k f d j (cnt d j) (hf d j hdd (by omega)))).deep
    have h141:=z1145 k (needL k r (cnt d)) C (ordK k) v (by omega) hbl c1 (z58 hg hday) (by rw [z47];exact hgo.2) (fun x hx=>z49 hx) (by rw [z102];exact hbl)
    rw [z47] at h141
    simp only [lardRow] at h86
    rw [Kitchen.cells] at h87
    obtain ⟨N,hN⟩:∃ N,N=needL k r (cnt d):=⟨_,rfl⟩
    rw [← hN] at h87 h141 hst
    repeat refine nx ?_
    refine z10 fun K hK=>?_
    simp only [go_sem,g1,hni]
    apply hK
    clear hK K
    refine z20 [7] ?_
    simp only [go_sem]
    repeat refine nx ?_
    refine z10 fun K hK=>?_
    simp only [go_sem]
    refine ⟨_,.own (ns:=[33,2,35]) (news:=[]) (bads:=[2,35]) (rd:=[]) (hf:=h86) (hnd:=by decide) (hl0:=rfl) (hl1:=rfl) (hm:=by repeat (first | exact trivial | refine And.intro ?_ ?_ | rfl)) (hnew:=rfl) (hla:=rfl) (ha:=z28 (by repeat (first | exact trivial | refine And.intro ?_ ?_ | exact z29 rfl | exact z22 rfl rfl))) (hrd:=rfl) (hsh:=z23 _) (hb:=rfl) (hfl:=.inl rfl),?_⟩
    simp only [go_sem,List.map_cons,List.map_nil]
    apply hK
    clear hK K
    cases htk:takeTo k (ordK k) N C k.allerg.length with
    | none =>
     rw [htk] at h141 hst
     obtain ⟨hD,hE⟩:=hsp hst
     simp only [takeBlks,lardRow,Option.isSome_none] at h141
     repeat refine nx ?_
     refine z10 fun K hK=>?_
     simp only [go_sem]
     refine ⟨_,.given (hf:=h87) (hd:=rfl) (ha:=rfl),?_⟩
     simp only [go_sem]
     refine ⟨_,.own (ns:=[33,2,35]) (news:=[]) (bads:=[2,35]) (rd:=[]) (hf:=h141) (hnd:=by decide) (hl0:=rfl) (hl1:=rfl) (hm:=by repeat (first | exact trivial | refine And.intro ?_ ?_ | rfl)) (hnew:=rfl) (hla:=rfl) (ha:=z28 (by repeat (first | exact trivial | refine And.intro ?_ ?_ | exact z29 rfl | exact z22 rfl rfl))) (hrd:=rfl) (hsh:=z23 _) (hb:=rfl) (hfl:=.inl rfl),?_⟩
     simp only [go_sem,List.map_cons,List.map_nil]
     apply hK
     clear hK K
     repeat (first | refine nx ?_ | (refine z10 fun K hK=>?_;simp only [go_sem];apply hK;clear hK K))
     refine z20 [2] ?_
     simp only [go_sem]
     repeat (first | refine z12 rfl ?_ | refine z11 rfl ?_ | refine nx ?_ | (refine z10 fun K hK=>?_;simp only [go_sem];apply hK;clear hK K))
     simp only [go_sem,retG,runBlks,lardRow,hD,hE,hLA,← hA0]
    | some c =>
     rw [htk] at h141 hst
     simp only [takeBlks,lardRow,Option.isSome_some] at h141
     repeat refine nx ?_
     refine z10 fun K hK=>?_
     simp only [go_sem]
     refine ⟨_,.given (hf:=h87) (hd:=rfl) (ha:=rfl),?_⟩
     simp only [go_sem]
     refine ⟨_,.own (ns:=[33,2,35]) (news:=[1]) (bads:=[2,35]) (rd:=[]) (hf:=h141) (hnd:=by decide) (hl0:=rfl) (hl1:=rfl) (hm:=by repeat (first | exact trivial | refine And.intro ?_ ?_ | rfl)) (hnew:=rfl) (hla:=rfl) (ha:=z28 (by repeat (first | exact trivial | refine And.intro ?_ ?_ | exact z29 rfl | exact z22 rfl rfl))) (hrd:=rfl) (hsh:=z23 _) (hb:=rfl) (hfl:=.inl rfl),?_⟩
     simp only [go_sem,List.map_cons,List.map_nil]
     apply hK
     clear hK K
     repeat (first | refine z12 rfl ?_ | refine z11 rfl ?_ | refine nx ?_ | (refine z10 fun K hK=>?_;simp only [go_sem,hw];apply hK;clear hK K))
     refine ⟨rfl,(d + 1,1,c,v),?_,⟨hlt,hst,fun h=>absurd (show 1=0 from h) (by decide),fun h=>absurd (show d + 1=0 from h) (by omega),(by decide:1<3)⟩,by dsimp only;omega⟩
     simp only [go_sem,nmL,lardRow]
     refine weA ?_ ?_ <;> simp
     all_goals first | done | rfl | exact ⟨rfl,rfl⟩ | trace_state
   ·have he:d=M.length:=by (have:¬ d<M.length:=by simpa using hb);omega
    subst he
    obtain ⟨hD,hE⟩:=hlast rfl
    refine z20 [2] ?_
    simp only [go_sem]
    repeat (first | refine nx ?_ | (refine z10 fun K hK=>?_;simp only [go_sem];apply hK;clear hK K))
    simp only [go_sem,retG,runBlks,lardRow,hD,hE,hLA,← hA0]
end Go.Ab
namespace Go.Ab
open Go.RowKit Go.Proofs
set_option maxHeartbeats 16000000
set_option maxRecDepth 20000
attribute [local irreducible] WalkL Walk
def sel (b:Bool) (d:DV):AV:=bif b then .undef else .d d
@[go_sem] theorem sel_true (d:DV):sel true d=.undef:=rfl
@[go_sem] theorem sel_false (d:DV):sel false d=.d d:=rfl
@[go_sem] theorem sel_mapN (h:Nat→Option Nat) (b:Bool) (d:DV):AV.mapN h (sel b d)=sel b d:=by cases b <;> simp [sel,AV.mapN]
@[go_sem] theorem sel_sub (n:Nat) (h:AV→AV) (b:Bool) (d:DV):AV.sub n h (sel b d)=sel b d:=by cases b <;> simp [sel,AV.sub]
def stB (a b:Bool) (x y:Blk):Option Blk:=bif a then none else some (bif b then x else y)
@[go_sem] theorem stB_t (b:Bool) (x y:Blk):stB true b x y=none:=rfl
@[go_sem] theorem stB_ft (x y:Blk):stB false true x y=some x:=rfl
@[go_sem] theorem stB_ff (x y:Blk):stB false false x y=some y:=rfl
def mostK (k:Kitchen) (M:List (List Int)):Nat:=lastD k M (fun d g=>(dinAt k d g).count.hi) M.length
def leastK (k:Kitchen) (M:List (List Int)):Nat:=lastD k M (fun d g=>(dinAt k d g).count.lo) M.length
theorem zf19 (k:Kitchen) (M:List (List Int)) (hs:KitSmall k) (hM:M.length<2 ^ 30) (hMr:∀ r ∈ M,r.length<2 ^ 30) :
  Fn Tryz.prog 19 [.agg k.cells,.sl (listRows M)] (.tup (if openK k M=0 then [.i (mostK k M),.i (leastK k M),.i 0] else [.i 0,.i 0,.i (openK k M)])):=by
 have h84:=zf41 k M hs hM hMr
 rw [Kitchen.cells] at h84
 by_cases h0:openK k M=0
 ·rw [if_pos h0]
  have hg:KitGood k:=by
   unfold openK at h0
   split at h0
   ·rename_i hz;exact z192 (z179.1 hz)
   ·contradiction
  have hsh:shapedB (menuB k) M k.days=true:=by
   unfold openK at h0
   split at h0
   ·split at h0
    ·assumption
    ·cases h0
   ·contradiction
  rw [h0] at h84
  have h85:=z1199 k hg.batches
  change FnG Tryz.prog 42 [] [] (List.map AV.d [.agg k.cells]) _ _ at h85
  have hhi:=(zf43 k hg M hsh _ _ (z1130 hg) (fun d g hd hgl=>zf44 k d g hd hgl)).boxNil
  have hlo:=(zf43 k hg M hsh _ _ (lo_ok hg) (fun d g hd hgl=>zf45 k d g hd hgl)).boxNil
  change FnG Tryz.prog 43 _ _ _ (.d (.i (mostK k M:Nat))) _ at hhi
  change FnG Tryz.prog 43 _ _ _ (.d (.i (leastK k M:Nat))) _ at hlo
  obtain ⟨hi,hhi'⟩:∃ n,n=mostK k M:=⟨_,rfl⟩
  obtain ⟨lo,hlo'⟩:∃ n,n=leastK k M:=⟨_,rfl⟩
  rw [← hhi'] at hhi ⊢
  rw [← hlo'] at hlo ⊢
  refine z14 29 Tryz.call19 Tryz.func19 rfl (by decide) fun J=>?_
  simp only [go_sem,St.start,Tryz.ntmps19,Tryz.results19,Kitchen.cells]
  repeat (first | refine z12 rfl ?_ | refine z11 rfl ?_ | refine nx ?_ | (refine z10 fun K hK=>?_;simp only [go_sem];(repeat (first | (refine ⟨_,.lent (hf:=h84) (hd:=rfl) (hr:=rfl),?_⟩;simp only [go_sem]) | (refine ⟨_,.given (hf:=h84) (hd:=rfl) (ha:=rfl),?_⟩;simp only [go_sem])));apply hK;clear hK K))
  have hcl:k.cells.length=4:=rfl
  have hct:k.cells.take 4=k.cells:=rfl
  refine z20 [2,7] ?_
  simp only [go_sem]
  refine z77 [2,3,8,9,10,11,12,13,14,15,16] ?_ ?_
  ·simp only [go_sem]
   refine weA ?_ ?_ <;> simp
  simp only [go_sem]
  refine z272 (by kernel_rfl) (by kernel_rfl) (fun m=>⟨[.d (.agg k.cells),.d (.sl (listRows M)),.undef,.undef,.d (bif m 12 then .i 0 else .i (hi:Nat)),.d (bif m 13 then .i 0 else .i (lo:Nat)),.d (.i 0),.d (.ptr k.cells 0),.undef,.undef,.undef,.undef,.undef,.undef,.undef,.undef,.undef,
    sel (m 0) (.agg k.cells),bif m 1 then .undef else .box 9 0,sel (m 2) (.sl (listRows M)),sel (m 3) (.agg k.cells),sel (m 4) (.bnd 44 [.agg k.cells]),sel (m 5) (.i (hi:Nat)),sel (m 6) (.agg k.cells),bif m 7 then .undef else .box 12 0,sel (m 8) (.sl (listRows M)),sel (m 9) (.agg k.cells),sel (m 10) (.bnd 45 [.agg k.cells]),sel (m 11) (.i (lo:Nat))],
   [none,none,none,none,none,none,none,none,none,stB (m 1) (m 5) (.box (lardRow k (.own 10) (.own 11) 0)) (.box []),stB (m 1) (m 5) (.arr 3 1 (intRows (amtK k))) (.arr 3 1 (intRows (left0 k))),stB (m 1) (m 5) (.arr 3 1 (natRows (ordK k))) (.arr 3 1 (natRows (ordK k))),
    stB (m 7) (m 11) (.box (lardRow k (.own 13) (.own 14) 0)) (.box []),stB (m 7) (m 11) (.arr 3 1 (intRows (amtK k))) (.arr 3 1 (intRows (left0 k))),stB (m 7) (m 11) (.arr 3 1 (natRows (ordK k))) (.arr 3 1 (natRows (ordK k))),none,none,none,none,none,none,none,none,none,none,none,none,none,none]⟩) ?_ ?_ ?_
  ·simp only [go_sem]
   rfl
  ·refine ⟨fun m hm hd hc=>?_,fun m hm hd hc=>?_,fun m hm hd hc=>?_,fun m hm hd hc=>?_,fun m hm hd hc=>?_,fun m hm hd hc=>?_,fun m hm hd hc=>?_,fun m hm hd hc=>?_,fun m hm hd hc=>?_,fun m hm hd hc=>?_,fun m hm hd hc=>?_,fun m hm hd hc=>?_,fun m hm hd hc=>?_,fun m hm hd hc=>?_,fun m hm hd hc=>?_,trivial⟩
   ·simp only [closedM,depsM,Region.binds,true_and,and_true,Nat.zero_add,Nat.reduceAdd,reduceCtorEq,forall_const] at hc hd
    cases h1:m 1 <;> cases h5:m 5 <;> cases h7:m 7 <;> cases h11:m 11 <;> simp [h1,h5,h7,h11,hm] at hc hd
    all_goals
     refine ⟨rfl,rfl,?_⟩
     simp only [go_sem,hm,hd,h1,h5,h7,h11,hcl,hct]
   ·simp only [closedM,depsM,Region.binds,true_and,and_true,Nat.zero_add,Nat.reduceAdd,reduceCtorEq,forall_const] at hc hd
    have h1:=hm
    cases h5:m 5 <;> cases h7:m 7 <;> cases h11:m 11 <;> simp [h1,h5,h7,h11,hm] at hc hd
    all_goals
     refine ⟨rfl,rfl,?_⟩
     simp only [go_sem,hm,hd,h1,h5,h7,h11,hcl,hct]
    refine ⟨_,.made (news:=[9,10,11]) (hf:=h85) (hd:=rfl) (hn:=by decide) (hl:=rfl) (hnew:=rfl) (hx:=rfl),?_⟩
    simp only [go_sem,List.map_cons,List.map_nil,lardRow]
   ·simp only [closedM,depsM,Region.binds,true_and,and_true,Nat.zero_add,Nat.reduceAdd,reduceCtorEq,forall_const] at hc hd
    cases h1:m 1 <;> cases h5:m 5 <;> cases h7:m 7 <;> cases h11:m 11 <;> simp [h1,h5,h7,h11,hm] at hc hd
    all_goals
     refine ⟨rfl,rfl,?_⟩
     simp only [go_sem,hm,hd,h1,h5,h7,h11,hcl,hct]
   ·simp only [closedM,depsM,Region.binds,true_and,and_true,Nat.zero_add,Nat.reduceAdd,reduceCtorEq,forall_const] at hc hd
    cases h1:m 1 <;> cases h5:m 5 <;> cases h7:m 7 <;> cases h11:m 11 <;> simp [h1,h5,h7,h11,hm] at hc hd
    all_goals
     refine ⟨rfl,rfl,?_⟩
     simp only [go_sem,hm,hd,h1,h5,h7,h11,hcl,hct]
   ·simp only [closedM,depsM,Region.binds,true_and,and_true,Nat.zero_add,Nat.reduceAdd,reduceCtorEq,forall_const] at hc hd
    cases h1:m 1 <;> cases h5:m 5 <;> cases h7:m 7 <;> cases h11:m 11 <;> simp [h1,h5,h7,h11,hm] at hc hd
    all_goals
     refine ⟨rfl,rfl,?_⟩
     simp only [go_sem,hm,hd,h1,h5,h7,h11,hcl,hct]
   ·simp only [closedM,depsM,Region.binds,true_and,and_true,Nat.zero_add,Nat.reduceAdd,reduceCtorEq,forall_const] at hc hd
    have h5:=hm
    cases h1:m 1 <;> cases h7:m 7 <;> cases h11:m 11 <;> simp [h1,h5,h7,h11,hm] at hc hd
    all_goals
     refine ⟨rfl,rfl,?_⟩
     simp only [go_sem,hm,hd,h1,h5,h7,h11,hcl,hct]
    simp only [go_sem,lardRow]
    refine ⟨_,.own (ns:=[9,10,11]) (news:=[]) (bads:=[10,11]) (rd:=[]) (hf:=hhi) (hnd:=by decide) (hl0:=rfl) (hl1:=rfl) (hm:=by repeat (first | exact trivial | refine And.intro ?_ ?_ | rfl)) (hnew:=rfl) (hla:=rfl) (ha:=z28 (by repeat (first | exact trivial | refine And.intro ?_ ?_ | exact z29 rfl | exact z22 rfl rfl))) (hrd:=rfl) (hsh:=z23 _) (hb:=rfl) (hfl:=.inl rfl),?_⟩
    simp only [go_sem,List.map_cons,List.map_nil,lardRow]
   ·simp only [closedM,depsM,Region.binds,true_and,and_true,Nat.zero_add,Nat.reduceAdd,reduceCtorEq,forall_const] at hc hd
    cases h1:m 1 <;> cases h5:m 5 <;> cases h7:m 7 <;> cases h11:m 11 <;> simp [h1,h5,h7,h11,hm] at hc hd
    all_goals
     refine ⟨rfl,rfl,?_⟩
     simp only [go_sem,hm,hd,h1,h5,h7,h11,hcl,hct]
   ·simp only [closedM,depsM,Region.binds,true_and,and_true,Nat.zero_add,Nat.reduceAdd,reduceCtorEq,forall_const] at hc hd
    have h7:=hm
    cases h1:m 1 <;> cases h5:m 5 <;> cases h11:m 11 <;> simp [h1,h5,h7,h11,hm] at hc hd
    all_goals
     refine ⟨rfl,rfl,?_⟩
     simp only [go_sem,hm,hd,h1,h5,h7,h11,hcl,hct]
    refine ⟨_,.made (news:=[12,13,14]) (hf:=h85) (hd:=rfl) (hn:=by decide) (hl:=rfl) (hnew:=rfl) (hx:=rfl),?_⟩
    simp only [go_sem,List.map_cons,List.map_nil,lardRow]
   ·simp only [closedM,depsM,Region.binds,true_and,and_true,Nat.zero_add,Nat.reduceAdd,reduceCtorEq,forall_const] at hc hd
    cases h1:m 1 <;> cases h5:m 5 <;> cases h7:m 7 <;> cases h11:m 11 <;> simp [h1,h5,h7,h11,hm] at hc hd
    all_goals
     refine ⟨rfl,rfl,?_⟩
     simp only [go_sem,hm,hd,h1,h5,h7,h11,hcl,hct]
   ·simp only [closedM,depsM,Region.binds,true_and,and_true,Nat.zero_add,Nat.reduceAdd,reduceCtorEq,forall_const] at hc hd
    cases h1:m 1 <;> cases h5:m 5 <;> cases h7:m 7 <;> cases h11:m 11 <;> simp [h1,h5,h7,h11,hm] at hc hd
    all_goals
     refine ⟨rfl,rfl,?_⟩
     simp only [go_sem,hm,hd,h1,h5,h7,h11,hcl,hct]
   ·simp only [closedM,depsM,Region.binds,true_and,and_true,Nat.zero_add,Nat.reduceAdd,reduceCtorEq,forall_const] at hc hd
    cases h1:m 1 <;> cases h5:m 5 <;> cases h7:m 7 <;> cases h11:m 11 <;> simp [h1,h5,h7,h11,hm] at hc hd
    all_goals
     refine ⟨rfl,rfl,?_⟩
     simp only [go_sem,hm,hd,h1,h5,h7,h11,hcl,hct]
   ·simp only [closedM,depsM,Region.binds,true_and,and_true,Nat.zero_add,Nat.reduceAdd,reduceCtorEq,forall_const] at hc hd
    have h11:=hm
    cases h1:m 1 <;> cases h5:m 5 <;> cases h7:m 7 <;> simp [h1,h5,h7,h11,hm] at hc hd
    all_goals
     refine ⟨rfl,rfl,?_⟩
     simp only [go_sem,hm,hd,h1,h5,h7,h11,hcl,hct]
    simp only [go_sem,lardRow]
    refine ⟨_,.own (ns:=[12,13,14]) (news:=[]) (bads:=[13,14]) (rd:=[]) (hf:=hlo) (hnd:=by decide) (hl0:=rfl) (hl1:=rfl) (hm:=by repeat (first | exact trivial | refine And.intro ?_ ?_ | rfl)) (hnew:=rfl) (hla:=rfl) (ha:=z28 (by repeat (first | exact trivial | refine And.intro ?_ ?_ | exact z29 rfl | exact z22 rfl rfl))) (hrd:=rfl) (hsh:=z23 _) (hb:=rfl) (hfl:=.inl rfl),?_⟩
    simp only [go_sem,List.map_cons,List.map_nil,lardRow]
   ·simp only [closedM,depsM,Region.binds,true_and,and_true,Nat.zero_add,Nat.reduceAdd,reduceCtorEq,forall_const] at hc hd
    cases h1:m 1 <;> cases h5:m 5 <;> cases h7:m 7 <;> cases h11:m 11 <;> simp [h1,h5,h7,h11,hm] at hc hd
    all_goals
     refine ⟨rfl,rfl,?_⟩
     simp only [go_sem,hm,hd,h1,h5,h7,h11,hcl,hct]
   ·simp only [closedM,depsM,Region.binds,true_and,and_true,Nat.zero_add,Nat.reduceAdd,reduceCtorEq,forall_const] at hc hd
    cases h1:m 1 <;> cases h5:m 5 <;> cases h7:m 7 <;> cases h11:m 11 <;> simp [h1,h5,h7,h11,hm] at hc hd
    all_goals
     refine ⟨rfl,rfl,?_⟩
     simp only [go_sem,hm,hd,h1,h5,h7,h11,hcl,hct]
   ·simp only [closedM,depsM,Region.binds,true_and,and_true,Nat.zero_add,Nat.reduceAdd,reduceCtorEq,forall_const] at hc hd
    cases h1:m 1 <;> cases h5:m 5 <;> cases h7:m 7 <;> cases h11:m 11 <;> simp [h1,h5,h7,h11,hm] at hc hd
    all_goals
     refine ⟨rfl,rfl,?_⟩
     simp only [go_sem,hm,hd,h1,h5,h7,h11,hcl,hct]
  ·simp only [go_sem]
   repeat (first | refine nx ?_ | (refine z10 fun K hK=>?_;simp only [go_sem];apply hK;clear hK K))
   simp only [go_sem]
 ·rw [if_neg h0]
  have hz:(openK k M != 0)=true:=by simpa using h0
  obtain ⟨e,he⟩:∃ e,e=openK k M:=⟨_,rfl⟩
  rw [← he] at h84 hz ⊢
  refine z14 29 Tryz.call19 Tryz.func19 rfl (by decide) fun J=>?_
  simp only [go_sem,St.start,Tryz.ntmps19,Tryz.results19,Kitchen.cells]
  repeat (first | refine z12 rfl ?_ | refine z11 rfl ?_ | refine nx ?_ | (refine z10 fun K hK=>?_;simp only [go_sem,hz];(repeat (first | (refine ⟨_,.lent (hf:=h84) (hd:=rfl) (hr:=rfl),?_⟩;simp only [go_sem,hz]) | (refine ⟨_,.given (hf:=h84) (hd:=rfl) (ha:=rfl),?_⟩;simp only [go_sem,hz])));apply hK;clear hK K))
  simp only [go_sem]
end Go.Ab
namespace Go.Ab
open Go.RowKit Go.Proofs
set_option maxHeartbeats 16000000
set_option maxRecDepth 20000
attribute [local irreducible] WalkL Walk
def ordG (k:Kitchen) (o:List Nat) (needs:List Int) (a:List Int × List Int):Nat→List Int × List Int
 | 0=>a
 | g + 1=>((takeG k o g (ordG k o needs a g).1 (getI needs (g:Int))).1,(ordG k o needs a g).2.set g (getI (ordG k o needs a g).2 (g:Int) + (takeG k o g (ordG k o needs a g).1 (getI needs (g:Int))).2))
def hiC (k:Kitchen) (d g:Nat):Int:=(dinAt k d g).count.hi
def ordD (k:Kitchen) (M:List (List Int)):Nat→List Int × List Int × Int
 | 0=>(amtK k,List.replicate k.allerg.length 0,0)
 | d + 1=>((ordG k (ordK k) (needD k M (hiC k) d) ((clrTo k (d:Int) (ordD k M d).1 (ordD k M d).2.2 k.batches.length).1,(ordD k M d).2.1) k.allerg.length).1,
   (ordG k (ordK k) (needD k M (hiC k) d) ((clrTo k (d:Int) (ordD k M d).1 (ordD k M d).2.2 k.batches.length).1,(ordD k M d).2.1) k.allerg.length).2,
   (clrTo k (d:Int) (ordD k M d).1 (ordD k M d).2.2 k.batches.length).2)
def orderK (k:Kitchen) (M:List (List Int)):List Int:=(ordD k M M.length).2.1
def BuyOk (n:Int) (l:List Int):Prop:=∀ x ∈ l,0≤x∧x≤n
theorem z1024 {k:Kitchen} {o:List Nat} {needs:List Int} {a:List Int × List Int} {B:Int} (h:AmtOk a.1) (hb:BuyOk B a.2) (hB:0≤B) (hn:∀ x ∈ needs,0≤x∧x≤2 ^ 40) (g:Nat) :
  AmtOk (ordG k o needs a g).1∧(ordG k o needs a g).1.length=a.1.length∧BuyOk (B + 2 ^ 40) (ordG k o needs a g).2∧(ordG k o needs a g).2.length=a.2.length∧∀ i:Nat,g≤i→getI (ordG k o needs a g).2 (i:Int)=getI a.2 (i:Int):=by
 induction g with
 | zero=>exact ⟨h,rfl,fun x hx=>by have:=hb x hx;omega,rfl,fun _ _=>rfl⟩
 | succ g ih =>
  obtain ⟨h1,h2,h3,h4,h5⟩:=ih
  have hng:0≤getI needs (g:Int)∧getI needs (g:Int)≤2 ^ 40:=z155 hn (by decide) _
  have ht:=z293 (k:=k) (good:=g) o (a:=((ordG k o needs a g).1,getI needs (g:Int))) h1 hng.1
  change AmtOk (takeG k o g (ordG k o needs a g).1 (getI needs (g:Int))).1∧(takeG k o g (ordG k o needs a g).1 (getI needs (g:Int))).1.length=(ordG k o needs a g).1.length∧0≤(takeG k o g (ordG k o needs a g).1 (getI needs (g:Int))).2∧(takeG k o g (ordG k o needs a g).1 (getI needs (g:Int))).2≤getI needs (g:Int) at ht
  obtain ⟨t1,t2,t3,t4⟩:=ht
  have hbg:0≤getI a.2 (g:Int)∧getI a.2 (g:Int)≤B:=z155 hb ⟨Int.le_refl 0,hB⟩ _
  refine ⟨t1,by rw [ordG];dsimp only;rw [t2,h2],?_,by rw [ordG];simp [h4],fun i hi=>?_⟩
  ·intro x hx
   rw [ordG] at hx
   rcases List.mem_or_eq_of_mem_set hx with hx | hx
   ·exact h3 x hx
   ·rw [hx,h5 g (Nat.le_refl _)]
    omega
  ·rw [ordG]
   dsimp only
   rw [getI,getI,List.getD,List.getD,Int.toNat_natCast,List.getElem?_set_ne (by omega)]
   have:=h5 i (by omega)
   rw [getI,getI,List.getD,List.getD,Int.toNat_natCast] at this
   exact this
theorem z1167 {k:Kitchen} (hg:KitGood k) {M:List (List Int)} (hM:shapedB (menuB k) M k.days=true) (d:Nat) (hd:d≤M.length) :
  AmtOk (ordD k M d).1∧(ordD k M d).1.length=k.batches.length∧BuyOk (2 ^ 40 * d) (ordD k M d).2.1∧(ordD k M d).2.1.length=k.allerg.length∧0≤(ordD k M d).2.2∧(ordD k M d).2.2≤10000000 * d:=by
 induction d with
 | zero=>exact ⟨z369 hg,by simp [ordD,amtK],fun x hx=>by rw [ordD] at hx;have:=List.eq_of_mem_replicate hx;omega,by simp [ordD],Int.le_refl 0,by simp [ordD]⟩
 | succ d ih =>
  obtain ⟨h1,h2,h3,h4,h5,h6⟩:=ih (by omega)
  obtain ⟨r,hr⟩:∃ r,M[d]?=some r:=⟨_,List.getElem?_eq_getElem (by omega)⟩
  obtain ⟨_,_,hdo⟩:=z147 hg hM (z1130 hg) hr
  have hnd:needD k M (hiC k) d=needL k r (hiC k d):=by rw [needD,List.getD,hr];rfl
  obtain ⟨c1,c2,c3⟩:=z55 (k:=k) (day:=(d:Int)) (w:=(ordD k M d).2.2) h1 k.batches.length
  have c4:=z45 k (d:Int) (ordD k M d).1 (ordD k M d).2.2 k.batches.length
  have hb:=hg.batches
  obtain ⟨o1,o2,o3,o4,_⟩:=z1024 (k:=k) (o:=ordK k) (needs:=needD k M (hiC k) d) (a:=((clrTo k (d:Int) (ordD k M d).1 (ordD k M d).2.2 k.batches.length).1,(ordD k M d).2.1)) (B:=2 ^ 40 * d) c1 h3 (by omega) (by rw [hnd];exact z58 hg hdo) k.allerg.length
  refine ⟨o1,?_,?_,?_,?_,?_⟩
  ·rw [ordD];dsimp only;rw [o2];dsimp only;rw [c4,h2]
  ·rw [ordD];dsimp only
   have e:(2:Int) ^ 40 * (d:Int) + 2 ^ 40=2 ^ 40 * ((d + 1:Nat):Int):=by push_cast;omega
   rw [← e]
   exact o3
  ·rw [ordD];dsimp only;rw [o4];exact h4
  ·rw [ordD];dsimp only;omega
  ·rw [ordD];dsimp only;push_cast;omega
theorem zf48 (k:Kitchen) (day group:Nat) (hd:day<k.days.length) (hg:group<(k.days.getD day []).length):Fn Tryz.prog 48 [.i (group:Int),.ptr k.cells 0,.ptr [.i (day:Int)] 0] (.i (hiC k day group)):=by
 have h:=zf44 k day group hd hg
 unfold hiC
 rw [Kitchen.cells] at h ⊢
 refine z14 9 Tryz.call48 Tryz.func48 rfl (by decide) fun J=>?_
 simp only [go_sem,St.start,Tryz.ntmps48,Tryz.results48]
 repeat (first | refine nx ?_ | (refine z10 fun K hK=>?_;simp only [go_sem];(repeat (first | (refine ⟨_,.lent (hf:=h) (hd:=rfl) (hr:=rfl),?_⟩;simp only [go_sem]) | (refine ⟨_,.given (hf:=h) (hd:=rfl) (ha:=rfl),?_⟩;simp only [go_sem])));apply hK;clear hK K))
 simp only [go_sem]
end Go.Ab
namespace Go.Ab
open Go.RowKit Go.Proofs
set_option maxHeartbeats 16000000
set_option maxRecDepth 20000
attribute [local irreducible] WalkL Walk
theorem z1025 {k:Kitchen} {M:List (List Int)} (h0:openK k M=0):KitGood k∧shapedB (menuB k) M k.days=true:=by
 unfold openK at h0
 split at h0
 ·rename_i hz
  split at h0
  ·exact ⟨z192 (z179.1 hz),by assumption⟩
  ·cases h0
 ·contradiction
theorem zf23 (k:Kitchen) (M:List (List Int)) (hs:KitSmall k) (hM:M.length<2 ^ 30) (hMr:∀ r ∈ M,r.length<2 ^ 30) :
  Fn Tryz.prog 23 [.agg k.cells,.sl (listRows M)] (.tup (if openK k M=0 then [.sl (intRows (orderK k M)),.i 0] else [.sl [],.i (openK k M)])):=by
 have h84:=zf41 k M hs hM hMr
 rw [Kitchen.cells] at h84
 by_cases h0:openK k M=0
 ·rw [if_pos h0]
  obtain ⟨hg,hsh⟩:=z1025 h0
  rw [h0] at h84
  have h85:=z1199 k hg.batches
  change FnG Tryz.prog 42 [] [] (List.map AV.d [.agg k.cells]) _ _ at h85
  have hbl:=hg.batches
  have hdl:=hg.days
  have hMl:=z54 hsh
  have hgo:=hg.goods
  have hmk:(k.allerg.length:Int)≤1099511627776:=by omega
  have hrep:=z209 k.allerg.length
  have hcl:k.cells.length=4:=rfl
  have hct:k.cells.take 4=k.cells:=rfl
  have hOK:=fun d hd=>z1167 hg hsh d hd
  rw [orderK]
  obtain ⟨F,hF⟩:∃ F,F=ordD k M:=⟨_,rfl⟩
  have hF0:F 0=(amtK k,List.replicate k.allerg.length 0,0):=by rw [hF];rfl
  have hFs:∀ d,F (d + 1)=((ordG k (ordK k) (needD k M (hiC k) d) ((clrTo k (d:Int) (F d).1 (F d).2.2 k.batches.length).1,(F d).2.1) k.allerg.length).1,
   (ordG k (ordK k) (needD k M (hiC k) d) ((clrTo k (d:Int) (F d).1 (F d).2.2 k.batches.length).1,(F d).2.1) k.allerg.length).2,
   (clrTo k (d:Int) (F d).1 (F d).2.2 k.batches.length).2):=fun d=>by rw [hF];rfl
  rw [← hF] at hOK ⊢
  refine z14 102 Tryz.call23 Tryz.func23 rfl (by decide) fun J=>?_
  simp only [go_sem,St.start,Tryz.ntmps23,Tryz.results23,Kitchen.cells]
  repeat (first | refine z12 rfl ?_ | refine z11 rfl ?_ | refine nx ?_ | (refine z10 fun K hK=>?_;simp only [go_sem];(repeat (first | (refine ⟨_,.lent (hf:=h84) (hd:=rfl) (hr:=rfl),?_⟩;simp only [go_sem]) | (refine ⟨_,.given (hf:=h84) (hd:=rfl) (ha:=rfl),?_⟩;simp only [go_sem])));apply hK;clear hK K))
  refine z20 [2,6] ?_
  simp only [go_sem]
  refine z10 fun K hK=>?_
  simp only [go_sem,hmk,hrep]
  apply hK
  clear hK K
  repeat refine nx ?_
  refine z10 fun K hK=>?_
  simp only [go_sem,hcl,hct]
  refine ⟨_,.made (news:=[0,1,3]) (hf:=h85) (hd:=rfl) (hn:=by decide) (hl:=rfl) (hnew:=rfl) (hx:=rfl),?_⟩
  simp only [go_sem,List.map_cons,List.map_nil,lardRow]
  apply hK
  clear hK K
  repeat (first | refine nx ?_ | (refine z10 fun K hK=>?_;simp only [go_sem,z26];apply hK;clear hK K))
  refine z15 (fun (d:Nat)=>[(34,.d (.i (d:Int)))]) (fun d=>[(0,some (.box (lardRow k (.own 1) (.own 3) (F d).2.2))),(1,some (.arr 3 1 (intRows (F d).1))),(29,some (.arr 3 1 (intRows (F d).2.1)))]) (fun d=>d≤M.length) (fun d=>M.length - d) 0 ?_ (Nat.zero_le _) ?_
  ·rw [hF0]
   simp only [go_sem,lardRow]
   refine weA ?_ ?_ <;> simp
   all_goals first | done | rfl | exact ⟨rfl,rfl⟩ | trace_state
  ·intro d hd
   obtain ⟨a1,a2,a3,a4,a5,a6⟩:=hOK d hd
   have hnx:=hFs d
   obtain ⟨⟨l,b,w⟩,hFd⟩:∃ x,F d=x:=⟨_,rfl⟩
   rw [hFd] at a1 a2 a3 a4 a5 a6 hnx ⊢
   dsimp only at a1 a2 a3 a4 a5 a6 hnx ⊢
   have hw2:w≤2 ^ 40:=by omega
   simp only [go_sem,lardRow]
   repeat (first | refine nx ?_ | (refine z10 fun K hK=>?_;simp only [go_sem];apply hK;clear hK K))
   refine z13 rfl (fun hb=>?_) (fun hb=>?_)
   ·have hlt:d<M.length:=by simpa using hb
    have hw:IntKind.i64.wrap ((d:Int) + 1)=((d + 1:Nat):Int):=by rw [z17 (by omega)];simp
    obtain ⟨r,hr⟩:∃ r,M[d]?=some r:=⟨_,List.getElem?_eq_getElem hlt⟩
    obtain ⟨hdd,hrl,hday⟩:=z147 hg hsh (z1130 hg) hr
    change DayOk k r (hiC k d) at hday
    have g1:=z40 hr
    have hni:¬ ((d:Int)<0):=by omega
    have hnd:needD k M (hiC k) d=needL k r (hiC k d):=by rw [needD,List.getD,hr];rfl
    rw [hnd] at hnx
    have h86:=z1079 k hbl (d:Int) l (ordK k) w a2 a1 ⟨a5,hw2⟩
    obtain ⟨c1,c2,c3⟩:=z55 (k:=k) (day:=(d:Int)) (w:=w) a1 k.batches.length
    have c4:=z45 k (d:Int) l w k.batches.length
    obtain ⟨⟨C,v⟩,hC⟩:∃ a,a=clrTo k (d:Int) l w k.batches.length:=⟨_,rfl⟩
    rw [← hC] at h86 c1 c2 c3 c4 hnx
    dsimp only at c1 c2 c3 c4 hnx
    have h87:=(z1078 k hg r (hiC k d) 48 [.ptr k.cells 0,.ptr [.i (d:Int)] 0] hday (fun j hj=>zf48 k d j hdd (by omega))).deep
    simp only [lardRow] at h86
    have hNo:=z58 hg hday
    have hNl:=z47 k r (hiC k d)
    obtain ⟨N,hN⟩:∃ N,N=needL k r (hiC k d):=⟨_,rfl⟩
    rw [← hN] at h87 hnx hNo hNl
    repeat refine nx ?_
    refine z10 fun K hK=>?_
    simp only [go_sem,g1,hni]
    apply hK
    clear hK K
    refine z20 [10] ?_
    simp only [go_sem]
    repeat refine nx ?_
    refine z10 fun K hK=>?_
    simp only [go_sem]
    refine ⟨_,.own (ns:=[0,1,3]) (news:=[]) (bads:=[1,3]) (rd:=[]) (hf:=h86) (hnd:=by decide) (hl0:=rfl) (hl1:=rfl) (hm:=by repeat (first | exact trivial | refine And.intro ?_ ?_ | rfl)) (hnew:=rfl) (hla:=rfl) (ha:=z28 (by repeat (first | exact trivial | refine And.intro ?_ ?_ | exact z29 rfl | exact z22 rfl rfl))) (hrd:=rfl) (hsh:=z23 _) (hb:=rfl) (hfl:=.inl rfl),?_⟩
    simp only [go_sem,List.map_cons,List.map_nil]
    apply hK
    clear hK K
    repeat refine nx ?_
    refine z10 fun K hK=>?_
    simp only [go_sem,hcl,hct]
    refine ⟨_,.given (hf:=h87) (hd:=rfl) (ha:=rfl),?_⟩
    simp only [go_sem,z36,hNl]
    apply hK
    clear hK K
    repeat (first | refine nx ?_ | (refine z10 fun K hK=>?_;simp only [go_sem];apply hK;clear hK K))
    obtain ⟨H,hH⟩:∃ H,H=ordG k (ordK k) N (C,b):=⟨_,rfl⟩
    have hH0:H 0=(C,b):=by rw [hH];rfl
    have hHs:∀ g,H (g + 1)=((takeG k (ordK k) g (H g).1 (getI N (g:Int))).1,(H g).2.set g (getI (H g).2 (g:Int) + (takeG k (ordK k) g (H g).1 (getI N (g:Int))).2)):=fun g=>by rw [hH];rfl
    have hHo:=fun g=>z1024 (k:=k) (o:=ordK k) (needs:=N) (a:=(C,b)) (B:=2 ^ 40 * d) c1 a3 (by omega) hNo g
    rw [← hH] at hHo hnx
    dsimp only at hHo
    have hol:=z102 k
    have hom:∀ x ∈ ordK k,x<k.batches.length:=fun x hx=>z49 hx
    obtain ⟨o,ho⟩:∃ o,o=ordK k:=⟨_,rfl⟩
    rw [← ho] at hHs hol hom
    refine z15 (fun (g:Nat)=>[(47,.d (.i (g:Int)))]) (fun g=>[(1,some (.arr 3 1 (intRows (H g).1))),(29,some (.arr 3 1 (intRows (H g).2)))]) (fun g=>g≤k.allerg.length) (fun g=>k.allerg.length - g) 0 ?_ (Nat.zero_le _) ?_
    ·rw [hH0]
     simp only [go_sem]
     refine weA ?_ ?_ <;> simp
     all_goals first | done | rfl | trace_state
    ·intro g hg2
     obtain ⟨b1,b2,b3,b4,b5⟩:=hHo g
     have hnx2:=hHs g
     obtain ⟨⟨cur,B⟩,hHg⟩:∃ x,H g=x:=⟨_,rfl⟩
     rw [hHg] at b1 b2 b3 b4 b5 hnx2 ⊢
     dsimp only at b1 b2 b3 b4 b5 hnx2 ⊢
     simp only [go_sem]
     repeat (first | refine nx ?_ | (refine z10 fun K hK=>?_;simp only [go_sem];apply hK;clear hK K))
     refine z13 rfl (fun hb=>?_) (fun hb=>?_)
     ·have hltg:g<k.allerg.length:=by simpa using hb
      have hwg:IntKind.i64.wrap ((g:Int) + 1)=((g + 1:Nat):Int):=by rw [z17 (by omega)];simp
      have gn:=z27 (l:=N) (i:=g) (by omega)
      have hnr:0≤getI N (g:Int)∧getI N (g:Int)≤2 ^ 40:=z155 hNo (by decide) _
      obtain ⟨n,hn⟩:∃ n,n=getI N (g:Int):=⟨_,rfl⟩
      rw [← hn] at gn hnx2 hnr
      have hng:¬ ((g:Int)<0):=by omega
      have hlN:g<N.length:=by omega
      repeat (first | refine nx ?_ | (refine z10 fun K hK=>?_;simp only [go_sem,gn,hng,hlN];apply hK;clear hK K))
      rw [← ho]
      refine z15 (fun (q:Nat × List Int × Int)=>[(57,.d (.i (q.1:Int))),(13,.d (.i q.2.2))]) (fun q=>[(1,some (.arr 3 1 (intRows q.2.1)))]) (fun q=>q.1≤o.length∧(q.2.1,q.2.2)=(o.take q.1).foldl (takeStep k g) (cur,n)∧AmtOk q.2.1∧q.2.1.length=cur.length∧0≤q.2.2∧q.2.2≤2 ^ 40) (fun q=>o.length - q.1) (0,cur,n) ?_ ⟨Nat.zero_le _,rfl,b1,rfl,hnr.1,hnr.2⟩ ?_
      ·simp only [go_sem]
       refine weA ?_ ?_ <;> simp
       all_goals first | done | rfl | trace_state
      ·rintro ⟨j,A,m⟩ ⟨hj,hfold,hAo,hAl,hm0,hm1⟩
       dsimp only at hj hfold hAo hAl hm0 hm1
       simp only [go_sem]
       repeat (first | refine nx ?_ | (refine z10 fun K hK=>?_;simp only [go_sem];apply hK;clear hK K))
       refine z13 rfl (fun hb=>?_) (fun hb=>?_)
       ·have hltj:j<o.length:=by simpa using hb
        have hwj:IntKind.i64.wrap ((j:Int) + 1)=((j + 1:Nat):Int):=by rw [z17 (by omega)];simp
        have hnj:¬ ((j:Int)<0):=by omega
        obtain ⟨x,hx⟩:∃ x,o[j]?=some x:=⟨_,List.getElem?_eq_getElem hltj⟩
        have gx:=z111 hltj
        rw [List.getD,hx,Option.getD_some] at gx
        have hxb:=hom x (List.mem_of_getElem? hx)
        have gb:=z167 hxb
        rw [Batch.row] at gb
        have hnx3:¬ ((x:Int)<0):=by omega
        have hxA:x<A.length:=by omega
        have gA:=z27 hxA
        have hgA:=hAo.get (x:Int)
        have hst:(o.take (j + 1)).foldl (takeStep k g) (cur,n)=takeStep k g (A,m) x:=by rw [z32 _ _ _ _ _ hx,← hfold]
        have hso:=z117 (k:=k) (good:=g) (i:=x) (a:=(A,m)) hAo hm0
        by_cases hq:(batAt k x).good=(g:Int)
        ·have e:((batAt k x).good == (g:Int))=true:=by simp [hq]
         have e0:takeStep k g (A,m) x=(A.set x (getI A (x:Int) - min m (getI A (x:Int))),m - min m (getI A (x:Int))):=by rw [takeStep,if_pos hq]
         rw [e0] at hst hso
         dsimp only at hso
         have e1:IntKind.i64.wrap (getI A (x:Int) - min m (getI A (x:Int)))=getI A (x:Int) - min m (getI A (x:Int)):=z17 (by omega)
         have e2:IntKind.i64.wrap (m - min m (getI A (x:Int)))=m - min m (getI A (x:Int)):=z17 (by omega)
         have su:=z51 A x (getI A (x:Int) - min m (getI A (x:Int)))
         obtain ⟨v2,hv⟩:∃ v2,v2=getI A (x:Int):=⟨_,rfl⟩
         rw [← hv] at gA e1 e2 su hst hso hgA
         obtain ⟨t,ht⟩:∃ t,t=min m v2:=⟨_,rfl⟩
         rw [← ht] at e1 e2 su hst hso
         have ht':min m v2=t:=ht.symm
         repeat (first | refine z12 rfl ?_ | refine z11 rfl ?_ | refine nx ?_ | (refine z10 fun K hK=>?_;simp only [go_sem,gx,hnj,hltj,gb,hnx3,e];apply hK;clear hK K))
         repeat (first | refine nx ?_ | (refine z10 fun K hK=>?_;simp only [go_sem,gx,hnj,hltj,gb,hnx3,e,gA,hxA,ht',e1,e2,su,hwj];apply hK;clear hK K))
         refine ⟨rfl,(j + 1,A.set x (v2 - t),m - t),?_,⟨hltj,hst.symm,hso.1,by rw [hso.2.1];exact hAl,hso.2.2.1,by dsimp only;omega⟩,by dsimp only;omega⟩
         refine weA ?_ ?_ <;> simp
         all_goals first | done | rfl | trace_state
        ·have e:((batAt k x).good == (g:Int))=false:=by simpa using hq
         have e0:takeStep k g (A,m) x=(A,m):=by rw [takeStep,if_neg hq]
         rw [e0] at hst
         repeat (first | refine z12 rfl ?_ | refine z11 rfl ?_ | refine nx ?_ | (refine z10 fun K hK=>?_;simp only [go_sem,gx,hnj,hltj,gb,hnx3,e,hwj];apply hK;clear hK K))
         refine ⟨rfl,(j + 1,A,m),?_,⟨hltj,hst.symm,hAo,hAl,hm0,hm1⟩,by dsimp only;omega⟩
         refine weA ?_ ?_ <;> simp
         all_goals first | done | rfl | trace_state
       ·have he:j=o.length:=by (have:¬ j<o.length:=by simpa using hb);omega
        subst he
        rw [List.take_length] at hfold
        have hGt:takeG k o g cur n=(A,m):=hfold.symm
        rw [hGt] at hnx2
        dsimp only at hnx2
        have hgB:g<B.length:=by omega
        have gB:=z27 hgB
        have hBr:0≤getI B (g:Int)∧getI B (g:Int)≤2 ^ 40 * d + 2 ^ 40:=z155 b3 (by omega) _
        have eB:IntKind.i64.wrap (getI B (g:Int) + m)=getI B (g:Int) + m:=z17 (by omega)
        have suB:=z51 B g (getI B (g:Int) + m)
        repeat (first | refine nx ?_ | (refine z10 fun K hK=>?_;simp only [go_sem,gB,hgB,hng,eB,suB,hwg];apply hK;clear hK K))
        refine ⟨rfl,g + 1,?_,hltg,by omega⟩
        rw [hnx2]
        refine weA ?_ ?_ <;> simp
        all_goals first | done | rfl | trace_state
     ·have he:g=k.allerg.length:=by (have:¬ g<k.allerg.length:=by simpa using hb);omega
      subst he
      rw [hHg] at hnx
      dsimp only at hnx
      repeat (first | refine nx ?_ | (refine z10 fun K hK=>?_;simp only [go_sem,hw];apply hK;clear hK K))
      refine ⟨rfl,d + 1,?_,hlt,by omega⟩
      rw [hnx]
      simp only [go_sem,lardRow]
      refine weA ?_ ?_ <;> simp
      all_goals first | done | rfl | exact ⟨rfl,rfl⟩ | trace_state
   ·have he:d=M.length:=by (have:¬ d<M.length:=by simpa using hb);omega
    subst he
    rw [hFd]
    repeat (first | refine nx ?_ | (refine z10 fun K hK=>?_;simp only [go_sem];apply hK;clear hK K))
    simp only [go_sem]
 ·rw [if_neg h0]
  have hz:(openK k M != 0)=true:=by simpa using h0
  obtain ⟨e,he⟩:∃ e,e=openK k M:=⟨_,rfl⟩
  rw [← he] at h84 hz ⊢
  refine z14 102 Tryz.call23 Tryz.func23 rfl (by decide) fun J=>?_
  simp only [go_sem,St.start,Tryz.ntmps23,Tryz.results23,Kitchen.cells]
  repeat (first | refine z12 rfl ?_ | refine z11 rfl ?_ | refine nx ?_ | (refine z10 fun K hK=>?_;simp only [go_sem,hz];(repeat (first | (refine ⟨_,.lent (hf:=h84) (hd:=rfl) (hr:=rfl),?_⟩;simp only [go_sem,hz]) | (refine ⟨_,.given (hf:=h84) (hd:=rfl) (ha:=rfl),?_⟩;simp only [go_sem,hz])));apply hK;clear hK K))
  simp only [go_sem]
end Go.Ab
namespace Go.Ab
open Go.RowKit Go.Proofs
set_option maxHeartbeats 8000000
set_option maxRecDepth 20000
attribute [local irreducible] WalkL Walk
def daysP (h:Int):Int:=IntKind.i64.wrap ((IntKind.i64.wrap (h + 23)).tdiv 24)
def enoughP (k:Kitchen) (M:List (List Int)) (s:Supply) (c n:Int):Int × Bool × Int :=
 if openK k M=0 then (if (nextP s c n).2.2=0 then (daysP (nextP s c n).1,decide (daysP (nextP s c n).1≤(mostK k M:Int)),0) else (0,false,(nextP s c n).2.2)) else (0,false,openK k M)
theorem zf10 (k:Kitchen) (M:List (List Int)) (s:Supply) (c n:Int) (hs:KitSmall k) (hM:M.length<2 ^ 30) (hMr:∀ r ∈ M,r.length<2 ^ 30) (hss:SuppSmall s) :
  Fn Tryz.prog 10 [.agg k.cells,.sl (listRows M),.agg s.cells,.i c,.i n] (.tup [.i (enoughP k M s c n).1,.bool (enoughP k M s c n).2.1,.i (enoughP k M s c n).2.2]):=by
 have h45:=zf19 k M hs hM hMr
 have h26:=zf18 s c n hss
 unfold enoughP
 obtain ⟨hi,hhi⟩:∃ x,x=mostK k M:=⟨_,rfl⟩
 obtain ⟨lo,hlo⟩:∃ x,x=leastK k M:=⟨_,rfl⟩
 obtain ⟨⟨a,b,e⟩,hP⟩:∃ x,nextP s c n=x:=⟨_,rfl⟩
 rw [hP] at h26 ⊢
 rw [← hhi,← hlo] at h45
 rw [← hhi]
 rw [Kitchen.cells] at h45 ⊢
 rw [Supply.cells] at h26 ⊢
 dsimp only at h26 ⊢
 by_cases h0:openK k M=0
 ·rw [if_pos h0] at h45 ⊢
  by_cases h1:e=0
  ·rw [if_pos h1]
   subst h1
   refine z14 45 Tryz.call10 Tryz.func10 rfl (by decide) fun J=>?_
   simp only [go_sem,St.start,Tryz.ntmps10,Tryz.results10]
   repeat (first | refine z12 rfl ?_ | refine z11 rfl ?_ | refine nx ?_ | (refine z10 fun K hK=>?_;simp only [go_sem];(repeat (first | (refine ⟨_,.lent (hf:=h45) (hd:=rfl) (hr:=rfl),?_⟩;simp only [go_sem]) | (refine ⟨_,.lent (hf:=h26) (hd:=rfl) (hr:=rfl),?_⟩;simp only [go_sem]) | (refine ⟨_,.given (hf:=h45) (hd:=rfl) (ha:=rfl),?_⟩;simp only [go_sem]) | (refine ⟨_,.given (hf:=h26) (hd:=rfl) (ha:=rfl),?_⟩;simp only [go_sem])));apply hK;clear hK K))
   simp only [go_sem,daysP]
   rfl
  ·rw [if_neg h1]
   have hz:(e != 0)=true:=by simpa using h1
   refine z14 45 Tryz.call10 Tryz.func10 rfl (by decide) fun J=>?_
   simp only [go_sem,St.start,Tryz.ntmps10,Tryz.results10]
   repeat (first | refine z12 rfl ?_ | refine z11 rfl ?_ | refine nx ?_ | (refine z10 fun K hK=>?_;simp only [go_sem,hz];(repeat (first | (refine ⟨_,.lent (hf:=h45) (hd:=rfl) (hr:=rfl),?_⟩;simp only [go_sem,hz]) | (refine ⟨_,.lent (hf:=h26) (hd:=rfl) (hr:=rfl),?_⟩;simp only [go_sem,hz]) | (refine ⟨_,.given (hf:=h45) (hd:=rfl) (ha:=rfl),?_⟩;simp only [go_sem,hz]) | (refine ⟨_,.given (hf:=h26) (hd:=rfl) (ha:=rfl),?_⟩;simp only [go_sem,hz])));apply hK;clear hK K))
   simp only [go_sem]
 ·rw [if_neg h0] at h45 ⊢
  have hz:(openK k M != 0)=true:=by simpa using h0
  obtain ⟨e2,he2⟩:∃ e,e=openK k M:=⟨_,rfl⟩
  rw [← he2] at h45 hz ⊢
  refine z14 45 Tryz.call10 Tryz.func10 rfl (by decide) fun J=>?_
  simp only [go_sem,St.start,Tryz.ntmps10,Tryz.results10]
  repeat (first | refine z12 rfl ?_ | refine z11 rfl ?_ | refine nx ?_ | (refine z10 fun K hK=>?_;simp only [go_sem,hz];(repeat (first | (refine ⟨_,.lent (hf:=h45) (hd:=rfl) (hr:=rfl),?_⟩;simp only [go_sem,hz]) | (refine ⟨_,.lent (hf:=h26) (hd:=rfl) (hr:=rfl),?_⟩;simp only [go_sem,hz]) | (refine ⟨_,.given (hf:=h45) (hd:=rfl) (ha:=rfl),?_⟩;simp only [go_sem,hz]) | (refine ⟨_,.given (hf:=h26) (hd:=rfl) (ha:=rfl),?_⟩;simp only [go_sem,hz])));apply hK;clear hK K))
  simp only [go_sem]
theorem zf56 (a b:Int):Fn Tryz.prog 56 [.i a,.i b] (.agg [.i a,.i b]):=by
 refine z14 8 Tryz.call56 Tryz.func56 rfl (by decide) fun J=>?_
 simp only [go_sem,St.start,Tryz.ntmps56,Tryz.results56]
 repeat (first | refine nx ?_ | (refine z10 fun K hK=>?_;simp only [go_sem];apply hK;clear hK K))
 simp only [go_sem]
def exK:Kitchen:=⟨[1,0],[⟨0,1000,1⟩,⟨0,500,3⟩,⟨1,2000,2⟩],[⟨[200,0]⟩,⟨[0,300]⟩],List.replicate 3 [⟨0,⟨2,3⟩⟩,⟨1,⟨1,1⟩⟩]⟩
def exM:List (List Int):=[[0,1],[0,1],[0,1]]
theorem zf28:Fn Tryz.prog 28 [] (.tup [.agg exK.cells,.sl (listRows exM)]):=by
 have h1:=zf56 2 3
 have h2:=zf56 1 1
 refine z14 27 Tryz.call28 Tryz.func28 rfl (by decide) fun J=>?_
 simp only [go_sem,St.start,Tryz.ntmps28,Tryz.results28]
 repeat (first | refine nx ?_ | (refine z10 fun K hK=>?_;simp only [go_sem];(repeat (first | (refine ⟨_,.lent (hf:=h1) (hd:=rfl) (hr:=rfl),?_⟩;simp only [go_sem]) | (refine ⟨_,.lent (hf:=h2) (hd:=rfl) (hr:=rfl),?_⟩;simp only [go_sem]) | (refine ⟨_,.given (hf:=h1) (hd:=rfl) (ha:=rfl),?_⟩;simp only [go_sem]) | (refine ⟨_,.given (hf:=h2) (hd:=rfl) (ha:=rfl),?_⟩;simp only [go_sem])));apply hK;clear hK K))
 simp only [go_sem]
 rfl
theorem z354:KitSmall exK:=⟨by decide,by decide,by decide,by intro l hl;simp [exK] at hl;rcases hl with rfl | rfl <;> decide,by decide,by intro l hl;simp [exK] at hl;subst hl;decide⟩
theorem z1136:openK exK exM=0:=by decide +kernel
theorem z1058:orderK exK exM=[300,0]:=by decide +kernel
end Go.Ab
namespace Go.Ab
open Go.RowKit Go.Proofs
set_option maxHeartbeats 8000000
set_option maxRecDepth 20000
attribute [local irreducible] WalkL Walk
theorem z989 (n lo hi:Int):Fn Tryz.prog 36 [.i n,.i lo,.i hi] (.bool (withinB n lo hi)):=by
 unfold withinB
 refine z14 15 Tryz.call36 Tryz.func36 rfl (by decide) fun J=>?_
 simp only [go_sem,St.start,Tryz.ntmps36,Tryz.results36]
 cases q:decide (lo≤n)
 ·repeat (first | refine nx ?_ | (refine z10 fun K hK=>?_;simp only [go_sem,q];apply hK;clear hK K))
  simp only [go_sem,Bool.false_and]
 ·repeat (first | refine nx ?_ | (refine z10 fun K hK=>?_;simp only [go_sem,q];apply hK;clear hK K))
  simp only [go_sem,Bool.true_and]
theorem zf49 (k:Kitchen) (b:Batch) (hg:k.allerg.length<2 ^ 30):Fn Tryz.prog 49 [.agg k.cells,.agg b.row] (.bool (batchB k.allerg.length b)):=by
 have h1:=z989 b.good 0 ((k.allerg.length:Int) - 1)
 have h2:=z989 b.amount 0 1000000
 have h3:=z989 b.last 0 30
 have w:IntKind.i64.wrap ((k.allerg.length:Int) - 1)=(k.allerg.length:Int) - 1:=z17 (by omega)
 unfold batchB
 obtain ⟨b1,e1⟩:∃ x,x=withinB b.good 0 ((k.allerg.length:Int) - 1):=⟨_,rfl⟩
 obtain ⟨b2,e2⟩:∃ x,x=withinB b.amount 0 1000000:=⟨_,rfl⟩
 obtain ⟨b3,e3⟩:∃ x,x=withinB b.last 0 30:=⟨_,rfl⟩
 rw [← e1] at h1 ⊢
 rw [← e2] at h2 ⊢
 rw [← e3] at h3 ⊢
 refine z14 22 Tryz.call49 Tryz.func49 rfl (by decide) fun J=>?_
 simp only [go_sem,St.start,Tryz.ntmps49,Tryz.results49,Batch.row,Kitchen.cells]
 cases b1 <;> cases b2
 all_goals
  repeat (first | refine nx ?_ | (refine z10 fun K hK=>?_;simp only [go_sem,w];(repeat (first | (refine ⟨_,.lent (hf:=h1) (hd:=rfl) (hr:=rfl),?_⟩;simp only [go_sem,w]) | (refine ⟨_,.lent (hf:=h2) (hd:=rfl) (hr:=rfl),?_⟩;simp only [go_sem,w]) | (refine ⟨_,.lent (hf:=h3) (hd:=rfl) (hr:=rfl),?_⟩;simp only [go_sem,w]) | (refine ⟨_,.given (hf:=h1) (hd:=rfl) (ha:=rfl),?_⟩;simp only [go_sem,w]) | (refine ⟨_,.given (hf:=h2) (hd:=rfl) (ha:=rfl),?_⟩;simp only [go_sem,w]) | (refine ⟨_,.given (hf:=h3) (hd:=rfl) (ha:=rfl),?_⟩;simp only [go_sem,w])));apply hK;clear hK K))
  simp only [go_sem,Bool.false_and,Bool.true_and]
theorem zf50 (k:Kitchen) (d:Dish) (hg:k.allerg.length<2 ^ 30) (hd:d.needs.length<2 ^ 30):Fn Tryz.prog 50 [.agg k.cells,.agg d.row] (.bool (dishB k.allerg.length d)):=by
 unfold dishB
 obtain ⟨R,hR⟩:∃ R,R=(((d.needs.length:Int) == (k.allerg.length:Int)) && d.needs.all needB):=⟨_,rfl⟩
 rw [← hR]
 obtain ⟨N,hN⟩:∃ N,N=d.needs:=⟨_,rfl⟩
 rw [← hN] at hd hR
 refine z14 27 Tryz.call50 Tryz.func50 rfl (by decide) fun J=>?_
 simp only [go_sem,St.start,Tryz.ntmps50,Tryz.results50,Dish.row,Kitchen.cells]
 rw [← hN]
 repeat (first | refine nx ?_ | (refine z10 fun K hK=>?_;simp only [go_sem];apply hK;clear hK K))
 refine z15 (fun (i:Nat)=>[(5,.d (.i (i:Int)))]) (fun _=>[]) (fun i=>i≤N.length∧N.all needB=(N.drop i).all needB) (fun i=>N.length - i) 0 ?_ ⟨Nat.zero_le _,rfl⟩ ?_
 ·simp only [go_sem]
  refine weA ?_ ?_ <;> simp
 ·rintro i ⟨hi,z39⟩
  simp only [go_sem]
  repeat (first | refine nx ?_ | (refine z10 fun K hK=>?_;simp only [go_sem];apply hK;clear hK K))
  refine z13 rfl (fun hb=>?_) (fun hb=>?_)
  ·have hlt:i<N.length:=by simpa using hb
   have hw:IntKind.i64.wrap ((i:Int) + 1)=((i + 1:Nat):Int):=by rw [z17 (by omega)];simp
   obtain ⟨x,hx⟩:∃ x,N[i]?=some x:=⟨_,List.getElem?_eq_getElem hlt⟩
   have g1:=z38 hx
   have hni:¬ ((i:Int)<0):=by omega
   have hc:=z989 x 0 5000
   rw [z30 hx,List.all_cons] at z39
   cases q:needB x
   ·rw [q,Bool.false_and] at z39
    rw [z39,Bool.and_false] at hR
    rw [needB] at q
    rw [q] at hc
    repeat (first | refine z12 rfl ?_ | refine z11 rfl ?_ | refine nx ?_ | (refine z10 fun K hK=>?_;simp only [go_sem,g1,hni];(repeat (first | (refine ⟨_,.lent (hf:=hc) (hd:=rfl) (hr:=rfl),?_⟩;simp only [go_sem,g1,hni]) | (refine ⟨_,.given (hf:=hc) (hd:=rfl) (ha:=rfl),?_⟩;simp only [go_sem,g1,hni])));apply hK;clear hK K))
    simp only [go_sem,hR]
   ·rw [q,Bool.true_and] at z39
    rw [needB] at q
    rw [q] at hc
    repeat (first | refine z12 rfl ?_ | refine z11 rfl ?_ | refine nx ?_ | (refine z10 fun K hK=>?_;simp only [go_sem,g1,hni,hw];(repeat (first | (refine ⟨_,.lent (hf:=hc) (hd:=rfl) (hr:=rfl),?_⟩;simp only [go_sem,g1,hni,hw]) | (refine ⟨_,.given (hf:=hc) (hd:=rfl) (ha:=rfl),?_⟩;simp only [go_sem,g1,hni,hw])));apply hK;clear hK K))
    refine ⟨rfl,i + 1,?_,⟨hlt,z39⟩,by omega⟩
    refine weA ?_ ?_ <;> simp
  ·have he:i=N.length:=by (have:¬ i<N.length:=by simpa using hb);omega
   subst he
   rw [List.drop_length,List.all_nil] at z39
   rw [z39,Bool.and_true] at hR
   repeat (first | refine nx ?_ | (refine z10 fun K hK=>?_;simp only [go_sem];apply hK;clear hK K))
   simp only [go_sem,hR]
def badK1 (k:Kitchen):Bool:=!withinB (k.allerg.length:Int) 1 6 || (decide ((k.batches.length:Int) > 10) || (!withinB (k.dishes.length:Int) 1 5 || !withinB (k.days.length:Int) 1 6))
theorem z1125 {k:Kitchen} (h:badKit k=true):kitE k=70:=by rw [kitE,h];rfl
theorem z1040 {k:Kitchen} (h:badKit k=false):kitE k=0:=by rw [kitE,h];rfl
def badG (g:Diners):Bool:=!withinB g.no 0 255 || (!withinB g.count.lo 0 g.count.hi || decide (g.count.hi > 100))
theorem z1047 (g:Diners):groupB g=!badG g:=by
 unfold groupB badG setB withinB
 rw [Bool.eq_iff_iff]
 simp
 intro _ _
 exact and_assoc.symm
theorem zf25 (k:Kitchen) (hs:KitSmall k):Fn Tryz.prog 25 [.agg k.cells] (.i (kitE k)):=by
 have a1:=hs.allerg
 have h1:=z989 (k.allerg.length:Int) 1 6
 have h5:=z989 (k.dishes.length:Int) 1 5
 have h7:=z989 (k.days.length:Int) 1 6
 have h92:=fun b=>zf49 k b a1
 have h93:=fun d hd=>zf50 k d a1 hd
 have a2:=hs.batches
 have a3:=hs.dishes
 have a4:=hs.needs
 have a5:=hs.days
 have a6:=hs.groups
 have kB:badKit k=(badK1 k || (!k.allerg.all setB || (!k.batches.all (batchB k.allerg.length) || (!k.dishes.all (dishB k.allerg.length) || !k.days.all dayB)))):=by
  unfold badKit badK1
  cases withinB (k.allerg.length:Int) 1 6 <;> cases decide ((k.batches.length:Int) > 10) <;> cases withinB (k.dishes.length:Int) 1 5 <;> cases withinB (k.days.length:Int) 1 6 <;> simp
 have kb:=@z1125 k
 have kg:=@z1040 k
 rw [kB] at kb kg
 obtain ⟨E,hE⟩:∃ E,E=kitE k:=⟨_,rfl⟩
 rw [← hE] at kb kg ⊢
 rw [Kitchen.cells] at h92 h93
 refine z14 130 Tryz.call25 Tryz.func25 rfl (by decide) fun J=>?_
 simp only [go_sem,St.start,Tryz.ntmps25,Tryz.results25,Kitchen.cells]
 repeat (first | refine nx ?_ | (refine z10 fun K hK=>?_;simp only [go_sem];apply hK;clear hK K))
 refine z56 [(33,.d (.bool (badK1 k)))] [] ?_ ?_
 ·refine z10 fun K hK=>?_
  simp only [go_sem]
  refine ⟨_,.lent (hf:=h1) (hd:=rfl) (hr:=rfl),?_⟩
  simp only [go_sem]
  by_cases ho0:(!withinB (k.allerg.length:Int) 1 6)=true
  ·simp only [go_sem,ho0]
   apply hK
   clear hK K
   refine z21 ?_
   refine z19 ?_
   refine ⟨rfl,?_⟩
   rw [show (badK1 k)=(true) from by simp [badK1,ho0]]
   simp only [go_sem]
   refine weA ?_ ?_ <;> simp
  ·simp only [go_sem,ho0]
   by_cases ho1:(decide ((k.batches.length:Int) > 10))=true
   ·simp only [go_sem,ho0,ho1]
    apply hK
    clear hK K
    refine z21 ?_
    refine z19 ?_
    refine ⟨rfl,?_⟩
    rw [show (badK1 k)=(true) from by simp [badK1,ho0,ho1]]
    simp only [go_sem]
    refine weA ?_ ?_ <;> simp
   ·simp only [go_sem,ho0,ho1]
    refine ⟨_,.lent (hf:=h5) (hd:=rfl) (hr:=rfl),?_⟩
    simp only [go_sem,ho0,ho1]
    by_cases ho2:(!withinB (k.dishes.length:Int) 1 5)=true
    ·simp only [go_sem,ho0,ho1,ho2]
     apply hK
     clear hK K
     refine z21 ?_
     refine z19 ?_
     refine ⟨rfl,?_⟩
     rw [show (badK1 k)=(true) from by simp [badK1,ho0,ho1,ho2]]
     simp only [go_sem]
     refine weA ?_ ?_ <;> simp
    ·simp only [go_sem,ho0,ho1,ho2]
     refine ⟨_,.lent (hf:=h7) (hd:=rfl) (hr:=rfl),?_⟩
     simp only [go_sem,ho0,ho1,ho2]
     apply hK
     clear hK K
     refine z21 ?_
     refine z19 ?_
     refine ⟨rfl,?_⟩
     rw [show (badK1 k)=(!withinB (k.days.length:Int) 1 6) from by simp [badK1,ho0,ho1,ho2]]
     simp only [go_sem]
     refine weA ?_ ?_ <;> simp
 simp only [go_sem]
 repeat (first | refine nx ?_ | (refine z10 fun K hK=>?_;simp only [go_sem];apply hK;clear hK K))
 refine z13 rfl (fun hc=>?_) (fun hc=>?_)
 ·rw [hc,Bool.true_or] at kb
  have kb:=kb rfl
  subst kb
  rw [hc]
  repeat (first | refine nx ?_ | (refine z10 fun K hK=>?_;simp only [go_sem];apply hK;clear hK K))
  simp only [go_sem,if_true]
 ·rw [hc,Bool.false_or] at kb kg
  rw [hc]
  repeat (first | refine nx ?_ | (refine z10 fun K hK=>?_;simp only [go_sem];apply hK;clear hK K))
  refine z15 (fun (i:Nat)=>[(3,.d (.i (i:Int)))]) (fun _=>[]) (fun i=>i≤k.allerg.length∧k.allerg.all (setB)=(k.allerg.drop i).all (setB)) (fun i=>k.allerg.length - i) 0 ?_ ⟨Nat.zero_le _,rfl⟩ ?_
  ·simp only [go_sem]
   refine weA ?_ ?_ <;> simp
  ·rintro i ⟨hi,z39⟩
   simp only [go_sem]
   repeat (first | refine nx ?_ | (refine z10 fun K hK=>?_;simp only [go_sem];apply hK;clear hK K))
   refine z13 rfl (fun hb=>?_) (fun hb=>?_)
   ·have hlt:i<k.allerg.length:=by simpa using hb
    have hw:IntKind.i64.wrap ((i:Int) + 1)=((i + 1:Nat):Int):=by rw [z17 (by omega)];simp
    obtain ⟨x,hx⟩:∃ x,k.allerg[i]?=some x:=⟨_,List.getElem?_eq_getElem hlt⟩
    have g1:=z38 hx
    have hni:¬ ((i:Int)<0):=by omega
    have hc:=z989 x 0 255
    rw [z30 hx,List.all_cons] at z39
    cases q:(setB) x
    ·rw [q,Bool.false_and] at z39
     rw [z39] at kb
     have kb:=kb rfl
     subst kb
     rw [setB] at q
     rw [q] at hc
     repeat (first | refine z12 rfl ?_ | refine z11 rfl ?_ | refine nx ?_ | (refine z10 fun K hK=>?_;simp only [go_sem,g1,hni];(repeat (first | (refine ⟨_,.lent (hf:=hc) (hd:=rfl) (hr:=rfl),?_⟩;simp only [go_sem,g1,hni]) | (refine ⟨_,.given (hf:=hc) (hd:=rfl) (ha:=rfl),?_⟩;simp only [go_sem,g1,hni])));apply hK;clear hK K))
     simp only [go_sem]
    ·rw [q,Bool.true_and] at z39
     rw [setB] at q
     rw [q] at hc
     repeat (first | refine z12 rfl ?_ | refine z11 rfl ?_ | refine nx ?_ | (refine z10 fun K hK=>?_;simp only [go_sem,g1,hni,hw];(repeat (first | (refine ⟨_,.lent (hf:=hc) (hd:=rfl) (hr:=rfl),?_⟩;simp only [go_sem,g1,hni,hw]) | (refine ⟨_,.given (hf:=hc) (hd:=rfl) (ha:=rfl),?_⟩;simp only [go_sem,g1,hni,hw])));apply hK;clear hK K))
     refine ⟨rfl,i + 1,?_,⟨hlt,z39⟩,by omega⟩
     refine weA ?_ ?_ <;> simp
   ·have he:i=k.allerg.length:=by (have:¬ i<k.allerg.length:=by simpa using hb);omega
    subst he
    rw [List.drop_length,List.all_nil] at z39
    rw [z39,Bool.not_true,Bool.false_or] at kb kg
    clear z39
    repeat (first | refine nx ?_ | (refine z10 fun K hK=>?_;simp only [go_sem];apply hK;clear hK K))
    refine z15 (fun (i:Nat)=>[(4,.d (.i (i:Int)))]) (fun _=>[]) (fun i=>i≤k.batches.length∧k.batches.all (batchB k.allerg.length)=(k.batches.drop i).all (batchB k.allerg.length)) (fun i=>k.batches.length - i) 0 ?_ ⟨Nat.zero_le _,rfl⟩ ?_
    ·simp only [go_sem]
     refine weA ?_ ?_ <;> simp
    ·rintro i ⟨hi,z39⟩
     simp only [go_sem]
     repeat (first | refine nx ?_ | (refine z10 fun K hK=>?_;simp only [go_sem];apply hK;clear hK K))
     refine z13 rfl (fun hb=>?_) (fun hb=>?_)
     ·have hlt:i<k.batches.length:=by simpa using hb
      have hw:IntKind.i64.wrap ((i:Int) + 1)=((i + 1:Nat):Int):=by rw [z17 (by omega)];simp
      obtain ⟨x,hx⟩:∃ x,k.batches[i]?=some x:=⟨_,List.getElem?_eq_getElem hlt⟩
      have g1:=z267 hx
      have hni:¬ ((i:Int)<0):=by omega
      have hc:=h92 x
      rw [Batch.row] at g1 hc
      rw [z30 hx,List.all_cons] at z39
      cases q:(batchB k.allerg.length) x
      ·rw [q,Bool.false_and] at z39
       rw [z39] at kb
       have kb:=kb rfl
       subst kb
       skip
       rw [q] at hc
       repeat (first | refine nx ?_ | (refine z10 fun K hK=>?_;simp only [go_sem];apply hK;clear hK K))
       refine z16 (by kernel_rfl) (by kernel_rfl) fun K hK=>?_
       simp only [go_sem,g1,hni]
       refine ⟨_,.fn (hf:=hc) (hd:=rfl) (hr:=.inl rfl),?_⟩
       simp only [go_sem]
       refine ⟨by kernel_rfl,hK _ ?_⟩
       clear hK K
       repeat (first | refine z12 rfl ?_ | refine z11 rfl ?_ | refine nx ?_ | (refine z10 fun K hK=>?_;simp only [go_sem];apply hK;clear hK K))
       simp only [go_sem]
      ·rw [q,Bool.true_and] at z39
       skip
       rw [q] at hc
       repeat (first | refine nx ?_ | (refine z10 fun K hK=>?_;simp only [go_sem];apply hK;clear hK K))
       refine z16 (by kernel_rfl) (by kernel_rfl) fun K hK=>?_
       simp only [go_sem,g1,hni]
       refine ⟨_,.fn (hf:=hc) (hd:=rfl) (hr:=.inl rfl),?_⟩
       simp only [go_sem]
       refine ⟨by kernel_rfl,hK _ ?_⟩
       clear hK K
       repeat (first | refine z12 rfl ?_ | refine z11 rfl ?_ | refine nx ?_ | (refine z10 fun K hK=>?_;simp only [go_sem,hw];apply hK;clear hK K))
       refine ⟨rfl,i + 1,?_,⟨hlt,z39⟩,by omega⟩
       refine weA ?_ ?_ <;> simp
     ·have he:i=k.batches.length:=by (have:¬ i<k.batches.length:=by simpa using hb);omega
      subst he
      rw [List.drop_length,List.all_nil] at z39
      rw [z39,Bool.not_true,Bool.false_or] at kb kg
      clear z39
      repeat (first | refine nx ?_ | (refine z10 fun K hK=>?_;simp only [go_sem];apply hK;clear hK K))
      refine z15 (fun (i:Nat)=>[(5,.d (.i (i:Int)))]) (fun _=>[]) (fun i=>i≤k.dishes.length∧k.dishes.all (dishB k.allerg.length)=(k.dishes.drop i).all (dishB k.allerg.length)) (fun i=>k.dishes.length - i) 0 ?_ ⟨Nat.zero_le _,rfl⟩ ?_
      ·simp only [go_sem]
       refine weA ?_ ?_ <;> simp
      ·rintro i ⟨hi,z39⟩
       simp only [go_sem]
       repeat (first | refine nx ?_ | (refine z10 fun K hK=>?_;simp only [go_sem];apply hK;clear hK K))
       refine z13 rfl (fun hb=>?_) (fun hb=>?_)
       ·have hlt:i<k.dishes.length:=by simpa using hb
        have hw:IntKind.i64.wrap ((i:Int) + 1)=((i + 1:Nat):Int):=by rw [z17 (by omega)];simp
        obtain ⟨x,hx⟩:∃ x,k.dishes[i]?=some x:=⟨_,List.getElem?_eq_getElem hlt⟩
        have g1:=z125 hx
        have hni:¬ ((i:Int)<0):=by omega
        have hc:=h93 x (a4 x (List.mem_of_getElem? hx))
        rw [Dish.row] at g1 hc
        rw [z30 hx,List.all_cons] at z39
        cases q:(dishB k.allerg.length) x
        ·rw [q,Bool.false_and] at z39
         rw [z39] at kb
         have kb:=kb rfl
         subst kb
         skip
         rw [q] at hc
         repeat (first | refine nx ?_ | (refine z10 fun K hK=>?_;simp only [go_sem];apply hK;clear hK K))
         refine z16 (by kernel_rfl) (by kernel_rfl) fun K hK=>?_
         simp only [go_sem,g1,hni]
         refine ⟨_,.fn (hf:=hc) (hd:=rfl) (hr:=.inl rfl),?_⟩
         simp only [go_sem]
         refine ⟨by kernel_rfl,hK _ ?_⟩
         clear hK K
         repeat (first | refine z12 rfl ?_ | refine z11 rfl ?_ | refine nx ?_ | (refine z10 fun K hK=>?_;simp only [go_sem];apply hK;clear hK K))
         simp only [go_sem]
        ·rw [q,Bool.true_and] at z39
         skip
         rw [q] at hc
         repeat (first | refine nx ?_ | (refine z10 fun K hK=>?_;simp only [go_sem];apply hK;clear hK K))
         refine z16 (by kernel_rfl) (by kernel_rfl) fun K hK=>?_
         simp only [go_sem,g1,hni]
         refine ⟨_,.fn (hf:=hc) (hd:=rfl) (hr:=.inl rfl),?_⟩
         simp only [go_sem]
         refine ⟨by kernel_rfl,hK _ ?_⟩
         clear hK K
         repeat (first | refine z12 rfl ?_ | refine z11 rfl ?_ | refine nx ?_ | (refine z10 fun K hK=>?_;simp only [go_sem,hw];apply hK;clear hK K))
         refine ⟨rfl,i + 1,?_,⟨hlt,z39⟩,by omega⟩
         refine weA ?_ ?_ <;> simp
       ·have he:i=k.dishes.length:=by (have:¬ i<k.dishes.length:=by simpa using hb);omega
        subst he
        rw [List.drop_length,List.all_nil] at z39
        rw [z39,Bool.not_true,Bool.false_or] at kb kg
        clear z39
        repeat (first | refine nx ?_ | (refine z10 fun K hK=>?_;simp only [go_sem];apply hK;clear hK K))
        refine z15 (fun (i:Nat)=>[(6,.d (.i (i:Int))),(7,.undef),(8,.undef)]) (fun _=>[]) (fun i=>i≤k.days.length∧k.days.all dayB=(k.days.drop i).all dayB) (fun i=>k.days.length - i) 0 ?_ ⟨Nat.zero_le _,rfl⟩ ?_
        ·simp only [go_sem]
         refine weA ?_ ?_ <;> simp
        ·rintro i ⟨hi,z39⟩
         simp only [go_sem]
         repeat (first | refine nx ?_ | (refine z10 fun K hK=>?_;simp only [go_sem];apply hK;clear hK K))
         refine z13 rfl (fun hb=>?_) (fun hb=>?_)
         ·have hlt:i<k.days.length:=by simpa using hb
          have hw:IntKind.i64.wrap ((i:Int) + 1)=((i + 1:Nat):Int):=by rw [z17 (by omega)];simp
          obtain ⟨x,hx⟩:∃ x,k.days[i]?=some x:=⟨_,List.getElem?_eq_getElem hlt⟩
          have g1:=z81 hx
          have hni:¬ ((i:Int)<0):=by omega
          have hxl:=a6 x (List.mem_of_getElem? hx)
          rw [z30 hx,List.all_cons,dayB] at z39
          cases q:decide ((x.length:Int) > 3)
          ·have q2:decide ((x.length:Int)≤3)=true:=by simp at q ⊢;omega
           rw [q2,Bool.true_and] at z39
           have hx3:x.length≤3:=by simp at q2;omega
           repeat (first | refine z12 rfl ?_ | refine z11 rfl ?_ | refine nx ?_ | (refine z10 fun K hK=>?_;simp only [go_sem,g1,hni,q];apply hK;clear hK K))
           refine z15 (fun (j:Nat)=>[(7,.d (.i (j:Int))),(8,.undef)]) (fun _=>[]) (fun j=>j≤x.length∧k.days.all dayB=((x.drop j).all groupB && (k.days.drop (i + 1)).all dayB)) (fun j=>x.length - j) 0 ?_ ⟨Nat.zero_le _,z39⟩ ?_
           ·simp only [go_sem]
            refine weA ?_ ?_ <;> simp
           ·rintro j ⟨hj,hallj⟩
            simp only [go_sem]
            repeat (first | refine nx ?_ | (refine z10 fun K hK=>?_;simp only [go_sem,g1,hni];apply hK;clear hK K))
            refine z13 rfl (fun hb=>?_) (fun hb=>?_)
            ·have hltj:j<x.length:=by simpa using hb
             have hwj:IntKind.i64.wrap ((j:Int) + 1)=((j + 1:Nat):Int):=by rw [z17 (by omega)];simp
             obtain ⟨y,hy⟩:∃ y,x[j]?=some y:=⟨_,List.getElem?_eq_getElem hltj⟩
             have g3:=z80 hy
             rw [Diners.row] at g3
             have hnj:¬ ((j:Int)<0):=by omega
             have c1:=z989 y.no 0 255
             have c2:=z989 y.count.lo 0 y.count.hi
             rw [z30 hy,List.all_cons,z1047] at hallj
             repeat (first | refine nx ?_ | (refine z10 fun K hK=>?_;simp only [go_sem,g1,hni,g3,hnj];apply hK;clear hK K))
             refine z56 [(129,.d (.bool (badG y)))] [] ?_ ?_
             ·refine z10 fun K hK=>?_
              simp only [go_sem]
              refine ⟨_,.lent (hf:=c1) (hd:=rfl) (hr:=rfl),?_⟩
              simp only [go_sem]
              by_cases ho0:(!withinB y.no 0 255)=true
              ·simp only [go_sem,ho0]
               apply hK
               clear hK K
               refine z21 ?_
               refine z19 ?_
               refine ⟨rfl,?_⟩
               rw [show (badG y)=(true) from by simp [badG,ho0]]
               simp only [go_sem]
               refine weA ?_ ?_ <;> simp
              ·simp only [go_sem,ho0]
               refine ⟨_,.lent (hf:=c2) (hd:=rfl) (hr:=rfl),?_⟩
               simp only [go_sem,ho0]
               by_cases ho1:(!withinB y.count.lo 0 y.count.hi)=true
               ·simp only [go_sem,ho0,ho1]
                apply hK
                clear hK K
                refine z21 ?_
                refine z19 ?_
                refine ⟨rfl,?_⟩
                rw [show (badG y)=(true) from by simp [badG,ho0,ho1]]
                simp only [go_sem]
                refine weA ?_ ?_ <;> simp
               ·simp only [go_sem,ho0,ho1]
                apply hK
                clear hK K
                refine z21 ?_
                refine z19 ?_
                refine ⟨rfl,?_⟩
                rw [show (badG y)=(decide (y.count.hi > 100)) from by simp [badG,ho0,ho1]]
                simp only [go_sem]
                refine weA ?_ ?_ <;> simp
             simp only [go_sem]
             repeat (first | refine nx ?_ | (refine z10 fun K hK=>?_;simp only [go_sem];apply hK;clear hK K))
             refine z13 rfl (fun hc=>?_) (fun hc=>?_)
             ·rw [hc,Bool.not_true,Bool.false_and,Bool.false_and] at hallj
              rw [hallj] at kb
              have kb:=kb rfl
              subst kb
              rw [hc]
              repeat (first | refine nx ?_ | (refine z10 fun K hK=>?_;simp only [go_sem];apply hK;clear hK K))
              simp only [go_sem,if_true]
             ·rw [hc,Bool.not_false,Bool.true_and] at hallj
              rw [hc]
              repeat (first | refine nx ?_ | (refine z10 fun K hK=>?_;simp only [go_sem,hwj];apply hK;clear hK K))
              refine ⟨rfl,j + 1,?_,⟨hltj,hallj⟩,by omega⟩
              refine weA ?_ ?_ <;> simp
            ·have he:j=x.length:=by (have:¬ j<x.length:=by simpa using hb);omega
             subst he
             rw [List.drop_length,List.all_nil,Bool.true_and] at hallj
             repeat (first | refine nx ?_ | (refine z10 fun K hK=>?_;simp only [go_sem,hw];apply hK;clear hK K))
             refine ⟨rfl,i + 1,?_,⟨hlt,hallj⟩,by omega⟩
             refine weA ?_ ?_ <;> simp
          ·have q2:decide ((x.length:Int)≤3)=false:=by simp at q ⊢;omega
           rw [q2,Bool.false_and,Bool.false_and] at z39
           rw [z39] at kb
           have kb:=kb rfl
           subst kb
           repeat (first | refine z12 rfl ?_ | refine z11 rfl ?_ | refine nx ?_ | (refine z10 fun K hK=>?_;simp only [go_sem,g1,hni,q];apply hK;clear hK K))
           simp only [go_sem]
         ·have he:i=k.days.length:=by (have:¬ i<k.days.length:=by simpa using hb);omega
          subst he
          rw [List.drop_length,List.all_nil] at z39
          rw [z39] at kg
          have kg:=kg rfl
          subst kg
          repeat (first | refine nx ?_ | (refine z10 fun K hK=>?_;simp only [go_sem];apply hK;clear hK K))
          simp only [go_sem]
end Go.Ab
namespace Go.Ab
open Go.RowKit Go.Proofs
set_option maxHeartbeats 8000000
set_option maxRecDepth 20000
attribute [local irreducible] WalkL Walk
theorem zf37 (k:Kitchen) (hg:KitGood k) (n:Nat) (no:Int) (hn:n<k.dishes.length):Fn Tryz.prog 37 [.agg k.cells,.i (n:Int),.i no] (.bool (suitsB k (n:Int) no)):=by
 have gd:=z538 hn
 have hl:=z300 hg hn
 have hgo:=hg.goods
 have hnn:¬ ((n:Int)<0):=by omega
 unfold suitsB
 obtain ⟨N,hN⟩:∃ N,N=(dishAt k (n:Int)).needs:=⟨_,rfl⟩
 rw [← hN] at gd hl ⊢
 refine z14 35 Tryz.call37 Tryz.func37 rfl (by decide) fun J=>?_
 simp only [go_sem,St.start,Tryz.ntmps37,Tryz.results37,Kitchen.cells]
 repeat (first | refine nx ?_ | (refine z10 fun K hK=>?_;simp only [go_sem];apply hK;clear hK K))
 refine z15 (fun (i:Nat)=>[(7,.d (.i (i:Int)))]) (fun _=>[]) (fun i=>i≤k.allerg.length∧suitTo k.allerg N no i=true) (fun i=>k.allerg.length - i) 0 ?_ ⟨Nat.zero_le _,rfl⟩ ?_
 ·simp only [go_sem]
  refine weA ?_ ?_ <;> simp
 ·rintro i ⟨hi,hs⟩
  simp only [go_sem]
  repeat (first | refine nx ?_ | (refine z10 fun K hK=>?_;simp only [go_sem];apply hK;clear hK K))
  refine z13 rfl (fun hb=>?_) (fun hb=>?_)
  ·have hlt:i<k.allerg.length:=by simpa using hb
   have hw:IntKind.i64.wrap ((i:Int) + 1)=((i + 1:Nat):Int):=by rw [z17 (by omega)];simp
   have g1:=z27 (l:=N) (i:=i) (by omega)
   have g2:=z27 (l:=k.allerg) (i:=i) (by omega)
   have hni:¬ ((i:Int)<0):=by omega
   cases q1:decide (getI N (i:Int) > 0)
   ·have hbg:badGood k.allerg N no i=false:=by rw [badGood,q1];rfl
    repeat (first | refine z12 rfl ?_ | refine z11 rfl ?_ | refine nx ?_ | (refine z10 fun K hK=>?_;simp only [go_sem,gd,hnn,g1,q1,hni,hw];apply hK;clear hK K))
    refine ⟨rfl,i + 1,?_,⟨hlt,by rw [suitTo,hs,hbg];rfl⟩,by omega⟩
    refine weA ?_ ?_ <;> simp
   ·cases q2:(bAnd .i64 (getI k.allerg (i:Int)) no != 0)
    ·have hbg:badGood k.allerg N no i=false:=by rw [badGood,q2,Bool.and_false]
     repeat (first | refine z12 rfl ?_ | refine z11 rfl ?_ | refine nx ?_ | (refine z10 fun K hK=>?_;simp only [go_sem,gd,hnn,g1,g2,q1,q2,hni,hw];apply hK;clear hK K))
     refine ⟨rfl,i + 1,?_,⟨hlt,by rw [suitTo,hs,hbg];rfl⟩,by omega⟩
     refine weA ?_ ?_ <;> simp
    ·have hbg:badGood k.allerg N no i=true:=by rw [badGood,q1,q2];rfl
     rw [z325 hbg (m:=N.length) (by omega)]
     repeat (first | refine z12 rfl ?_ | refine z11 rfl ?_ | refine nx ?_ | (refine z10 fun K hK=>?_;simp only [go_sem,gd,hnn,g1,g2,q1,q2,hni];apply hK;clear hK K))
     simp only [go_sem]
  ·have he:i=k.allerg.length:=by (have:¬ i<k.allerg.length:=by simpa using hb);omega
   subst he
   rw [hl,hs]
   repeat (first | refine nx ?_ | (refine z10 fun K hK=>?_;simp only [go_sem];apply hK;clear hK K))
   simp only [go_sem]
theorem zf16 (k:Kitchen) (hg:KitGood k) (M:List (List Int)) (hM:M.length<2 ^ 30) (hMr:∀ r ∈ M,r.length<2 ^ 30):Fn Tryz.prog 16 [.agg k.cells,.sl (listRows M)] (.bool (shapedB (menuB k) M k.days)):=by
 obtain ⟨q,hqd⟩:∃ q,q=menuB k:=⟨_,rfl⟩
 have hq:∀ (n:Int) (g:Diners),q n g=(withinB n 0 ((k.dishes.length:Int) - 1) && suitsB k n g.no):=fun n g=>by rw [hqd];rfl
 rw [← hqd]
 have hgr:=hg.groups
 have hdl:=hg.dishes
 have w:IntKind.i64.wrap ((k.dishes.length:Int) - 1)=(k.dishes.length:Int) - 1:=z17 (by omega)
 obtain ⟨R,hR⟩:∃ R,R=shapedB q M k.days:=⟨_,rfl⟩
 rw [← hR]
 cases q1:((M.length:Int) != (k.days.length:Int))
 ·have hl:M.length=k.days.length:=by
   simp only [bne_eq_false_iff_eq] at q1
   omega
  refine z14 74 Tryz.call16 Tryz.func16 rfl (by decide) fun J=>?_
  simp only [go_sem,St.start,Tryz.ntmps16,Tryz.results16,Kitchen.cells]
  repeat (first | refine z12 rfl ?_ | refine z11 rfl ?_ | refine nx ?_ | (refine z10 fun K hK=>?_;simp only [go_sem,q1,z26];apply hK;clear hK K))
  refine z15 (fun (i:Nat)=>[(5,.d (.i (i:Int))),(6,.undef)]) (fun _=>[]) (fun i=>i≤M.length∧R=shapedB q (M.drop i) (k.days.drop i)) (fun i=>M.length - i) 0 ?_ ⟨Nat.zero_le _,hR⟩ ?_
  ·simp only [go_sem]
   refine weA ?_ ?_ <;> simp
  ·rintro i ⟨hi,hRi⟩
   simp only [go_sem]
   repeat (first | refine nx ?_ | (refine z10 fun K hK=>?_;simp only [go_sem,z26];apply hK;clear hK K))
   refine z13 rfl (fun hb=>?_) (fun hb=>?_)
   ·have hlt:i<M.length:=by simpa using hb
    have hw:IntKind.i64.wrap ((i:Int) + 1)=((i + 1:Nat):Int):=by rw [z17 (by omega)];simp
    obtain ⟨d,hd⟩:∃ d,k.days[i]?=some d:=⟨_,List.getElem?_eq_getElem (by omega)⟩
    obtain ⟨r,hr⟩:∃ r,M[i]?=some r:=⟨_,List.getElem?_eq_getElem (by omega)⟩
    have g1:=z81 hd
    have g2:=z40 hr
    have hni:¬ ((i:Int)<0):=by omega
    have hd3:=(hgr d (List.mem_of_getElem? hd)).1
    rw [z30 hd,z30 hr,shapedB] at hRi
    cases q2:((r.length:Int) != (d.length:Int))
    ·have hrl:r.length=d.length:=by
      simp only [bne_eq_false_iff_eq] at q2
      omega
     repeat (first | refine nx ?_ | (refine z10 fun K hK=>?_;simp only [go_sem];apply hK;clear hK K))
     refine z16 (by kernel_rfl) (by kernel_rfl) fun K hK=>?_
     simp only [go_sem,g1,g2,hni,q2]
     refine ⟨by kernel_rfl,hK _ ?_⟩
     clear hK K
     repeat (first | refine z12 rfl ?_ | refine z11 rfl ?_ | refine nx ?_ | (refine z10 fun K hK=>?_;simp only [go_sem];apply hK;clear hK K))
     refine z15 (fun (j:Nat)=>[(6,.d (.i (j:Int)))]) (fun _=>[]) (fun j=>j≤r.length∧R=(rowOk q (r.drop j) (d.drop j) && shapedB q (M.drop (i + 1)) (k.days.drop (i + 1)))) (fun j=>r.length - j) 0 ?_ ⟨Nat.zero_le _,hRi⟩ ?_
     ·simp only [go_sem]
      refine weA ?_ ?_ <;> simp
     ·rintro j ⟨hj,hRj⟩
      simp only [go_sem]
      repeat (first | refine nx ?_ | (refine z10 fun K hK=>?_;simp only [go_sem,g2,hni];apply hK;clear hK K))
      refine z13 rfl (fun hb=>?_) (fun hb=>?_)
      ·have hltj:j<r.length:=by simpa using hb
       have hwj:IntKind.i64.wrap ((j:Int) + 1)=((j + 1:Nat):Int):=by rw [z17 (by omega)];simp
       obtain ⟨g,hgj⟩:∃ g,d[j]?=some g:=⟨_,List.getElem?_eq_getElem (by omega)⟩
       obtain ⟨n,hnj⟩:∃ n,r[j]?=some n:=⟨_,List.getElem?_eq_getElem (by omega)⟩
       have g3:=z80 hgj
       have g4:=z38 hnj
       rw [Diners.row] at g3
       have hnjj:¬ ((j:Int)<0):=by omega
       have c1:=z989 n 0 ((k.dishes.length:Int) - 1)
       rw [z30 hgj,z30 hnj,rowOk,hq] at hRj
       cases q3:withinB n 0 ((k.dishes.length:Int) - 1)
       ·rw [q3] at hRj c1
        rw [Bool.false_and,Bool.false_and,Bool.false_and] at hRj
        rw [hRj]
        repeat (first | refine nx ?_ | (refine z10 fun K hK=>?_;simp only [go_sem];apply hK;clear hK K))
        refine z16 (by kernel_rfl) (by kernel_rfl) fun K hK=>?_
        simp only [go_sem,g1,g2,g3,g4,hni,hnjj,w]
        refine ⟨_,.fn (hf:=c1) (hd:=rfl) (hr:=.inl rfl),?_⟩
        simp only [go_sem]
        refine ⟨by kernel_rfl,hK _ ?_⟩
        clear hK K
        repeat (first | refine z12 rfl ?_ | refine z11 rfl ?_ | refine nx ?_ | (refine z10 fun K hK=>?_;simp only [go_sem];apply hK;clear hK K))
        simp only [go_sem]
       ·rw [q3] at hRj c1
        rw [Bool.true_and] at hRj
        have hw3:=z24.1 q3
        obtain ⟨m,rfl⟩:∃ m:Nat,n=(m:Int):=⟨n.toNat,by omega⟩
        have c2:=zf37 k hg m g.no (by omega)
        cases q4:suitsB k (m:Int) g.no
        ·rw [q4] at hRj c2
         rw [Bool.false_and,Bool.false_and] at hRj
         rw [hRj]
         rw [Kitchen.cells] at c2
         repeat (first | refine nx ?_ | (refine z10 fun K hK=>?_;simp only [go_sem];apply hK;clear hK K))
         refine z16 (by kernel_rfl) (by kernel_rfl) fun K hK=>?_
         simp only [go_sem,g1,g2,g3,g4,hni,hnjj,w]
         refine ⟨_,.fn (hf:=c1) (hd:=rfl) (hr:=.inl rfl),?_⟩
         simp only [go_sem,g1,g2,g3,g4,hni,hnjj]
         refine ⟨_,.fn (hf:=c2) (hd:=rfl) (hr:=.inl rfl),?_⟩
         simp only [go_sem]
         refine ⟨by kernel_rfl,hK _ ?_⟩
         clear hK K
         repeat (first | refine z12 rfl ?_ | refine z11 rfl ?_ | refine nx ?_ | (refine z10 fun K hK=>?_;simp only [go_sem];apply hK;clear hK K))
         simp only [go_sem]
        ·rw [q4] at hRj c2
         rw [Bool.true_and] at hRj
         rw [Kitchen.cells] at c2
         repeat (first | refine nx ?_ | (refine z10 fun K hK=>?_;simp only [go_sem];apply hK;clear hK K))
         refine z16 (by kernel_rfl) (by kernel_rfl) fun K hK=>?_
         simp only [go_sem,g1,g2,g3,g4,hni,hnjj,w]
         refine ⟨_,.fn (hf:=c1) (hd:=rfl) (hr:=.inl rfl),?_⟩
         simp only [go_sem,g1,g2,g3,g4,hni,hnjj]
         refine ⟨_,.fn (hf:=c2) (hd:=rfl) (hr:=.inl rfl),?_⟩
         simp only [go_sem]
         refine ⟨by kernel_rfl,hK _ ?_⟩
         clear hK K
         repeat (first | refine z12 rfl ?_ | refine z11 rfl ?_ | refine nx ?_ | (refine z10 fun K hK=>?_;simp only [go_sem,hwj];apply hK;clear hK K))
         refine ⟨rfl,j + 1,?_,⟨hltj,hRj⟩,by omega⟩
         refine weA ?_ ?_ <;> simp
      ·have he:j=r.length:=by (have:¬ j<r.length:=by simpa using hb);omega
       subst he
       rw [List.drop_length,hrl,List.drop_length,rowOk,Bool.true_and] at hRj
       repeat (first | refine nx ?_ | (refine z10 fun K hK=>?_;simp only [go_sem,hw];apply hK;clear hK K))
       refine ⟨rfl,i + 1,?_,⟨hlt,hRj⟩,by omega⟩
       refine weA ?_ ?_ <;> simp
    ·have hf:rowOk q r d=false:=by
      cases hx:rowOk q r d with
      | false=>rfl
      | true =>
       have:=z99 hx
       rw [this] at q2
       simp at q2
     rw [hf,Bool.false_and] at hRi
     rw [hRi]
     repeat (first | refine nx ?_ | (refine z10 fun K hK=>?_;simp only [go_sem];apply hK;clear hK K))
     refine z16 (by kernel_rfl) (by kernel_rfl) fun K hK=>?_
     simp only [go_sem,g1,g2,hni,q2]
     refine ⟨by kernel_rfl,hK _ ?_⟩
     clear hK K
     repeat (first | refine z12 rfl ?_ | refine z11 rfl ?_ | refine nx ?_ | (refine z10 fun K hK=>?_;simp only [go_sem];apply hK;clear hK K))
     simp only [go_sem]
   ·have he:i=M.length:=by (have:¬ i<M.length:=by simpa using hb);omega
    subst he
    rw [List.drop_length,hl,List.drop_length,shapedB] at hRi
    rw [hRi]
    repeat (first | refine nx ?_ | (refine z10 fun K hK=>?_;simp only [go_sem];apply hK;clear hK K))
    simp only [go_sem]
 ·have hf:R=false:=by
   rw [hR]
   cases hx:shapedB q M k.days with
   | false=>rfl
   | true =>
    have:=z54 hx
    rw [this] at q1
    simp at q1
  rw [hf]
  refine z14 74 Tryz.call16 Tryz.func16 rfl (by decide) fun J=>?_
  simp only [go_sem,St.start,Tryz.ntmps16,Tryz.results16,Kitchen.cells]
  repeat (first | refine z12 rfl ?_ | refine z11 rfl ?_ | refine nx ?_ | (refine z10 fun K hK=>?_;simp only [go_sem,q1,z26];apply hK;clear hK K))
  simp only [go_sem]
theorem zf21 (k:Kitchen) (M:List (List Int)) (hs:KitSmall k) (hM:M.length<2 ^ 30) (hMr:∀ r ∈ M,r.length<2 ^ 30):Fn Tryz.prog 21 [.agg k.cells,.sl (listRows M)] (.i (openK k M)):=by
 have h44:=zf25 k hs
 unfold openK
 by_cases h0:kitE k=0
 ·have h82:=zf16 k (z192 (z179.1 h0)) M hM hMr
  rw [if_pos h0]
  rw [h0] at h44
  rw [Kitchen.cells] at h44 h82
  cases q:shapedB (menuB k) M k.days
  ·rw [q] at h82
   refine z14 12 Tryz.call21 Tryz.func21 rfl (by decide) fun J=>?_
   simp only [go_sem,St.start,Tryz.ntmps21,Tryz.results21,Kitchen.cells]
   repeat (first | refine z12 rfl ?_ | refine z11 rfl ?_ | refine nx ?_ | (refine z10 fun K hK=>?_;simp only [go_sem];(repeat (first | (refine ⟨_,.lent (hf:=h44) (hd:=rfl) (hr:=rfl),?_⟩;simp only [go_sem]) | (refine ⟨_,.lent (hf:=h82) (hd:=rfl) (hr:=rfl),?_⟩;simp only [go_sem]) | (refine ⟨_,.given (hf:=h44) (hd:=rfl) (ha:=rfl),?_⟩;simp only [go_sem]) | (refine ⟨_,.given (hf:=h82) (hd:=rfl) (ha:=rfl),?_⟩;simp only [go_sem])));apply hK;clear hK K))
   simp only [go_sem]
  ·rw [q] at h82
   refine z14 12 Tryz.call21 Tryz.func21 rfl (by decide) fun J=>?_
   simp only [go_sem,St.start,Tryz.ntmps21,Tryz.results21,Kitchen.cells]
   repeat (first | refine z12 rfl ?_ | refine z11 rfl ?_ | refine nx ?_ | (refine z10 fun K hK=>?_;simp only [go_sem];(repeat (first | (refine ⟨_,.lent (hf:=h44) (hd:=rfl) (hr:=rfl),?_⟩;simp only [go_sem]) | (refine ⟨_,.lent (hf:=h82) (hd:=rfl) (hr:=rfl),?_⟩;simp only [go_sem]) | (refine ⟨_,.given (hf:=h44) (hd:=rfl) (ha:=rfl),?_⟩;simp only [go_sem]) | (refine ⟨_,.given (hf:=h82) (hd:=rfl) (ha:=rfl),?_⟩;simp only [go_sem])));apply hK;clear hK K))
   simp only [go_sem]
 ·rw [if_neg h0]
  have e70:kitE k=70:=by unfold kitE at h0 ⊢;split <;> simp_all
  rw [e70] at h44 ⊢
  rw [Kitchen.cells] at h44
  refine z14 12 Tryz.call21 Tryz.func21 rfl (by decide) fun J=>?_
  simp only [go_sem,St.start,Tryz.ntmps21,Tryz.results21,Kitchen.cells]
  repeat (first | refine z12 rfl ?_ | refine z11 rfl ?_ | refine nx ?_ | (refine z10 fun K hK=>?_;simp only [go_sem];(repeat (first | (refine ⟨_,.lent (hf:=h44) (hd:=rfl) (hr:=rfl),?_⟩;simp only [go_sem]) | (refine ⟨_,.given (hf:=h44) (hd:=rfl) (ha:=rfl),?_⟩;simp only [go_sem])));apply hK;clear hK K))
  simp only [go_sem]
end Go.Ab
namespace Go.Ab
open Go.RowKit Go.Proofs
set_option maxHeartbeats 8000000
set_option maxRecDepth 20000
attribute [local irreducible] WalkL Walk
def longB (r:List Int):Bool:=decide ((r.length:Int) > 20)
def farRows (M:List (List Int)):Bool:=M.any longB || decide ((M.length:Int) > 20)
theorem zf7 (M:List (List Int)) (hM:M.length<2 ^ 30):Fn Tryz.prog 7 [.sl (listRows M)] (.bool (farRows M)):=by
 unfold farRows
 obtain ⟨R,hR⟩:∃ R,R=(M.any longB || decide ((M.length:Int) > 20)):=⟨_,rfl⟩
 rw [← hR]
 refine z14 19 Tryz.call7 Tryz.func7 rfl (by decide) fun J=>?_
 simp only [go_sem,St.start,Tryz.ntmps7,Tryz.results7]
 repeat (first | refine nx ?_ | (refine z10 fun K hK=>?_;simp only [go_sem];apply hK;clear hK K))
 refine z15 (fun (i:Nat)=>[(3,.d (.i (i:Int)))]) (fun _=>[]) (fun i=>i≤M.length∧R=((M.drop i).any longB || decide ((M.length:Int) > 20))) (fun i=>M.length - i) 0 ?_ ⟨Nat.zero_le _,hR⟩ ?_
 ·simp only [go_sem]
  refine weA ?_ ?_ <;> simp
 ·rintro i ⟨hi,z39⟩
  simp only [go_sem]
  repeat (first | refine nx ?_ | (refine z10 fun K hK=>?_;simp only [go_sem,z26];apply hK;clear hK K))
  refine z13 rfl (fun hb=>?_) (fun hb=>?_)
  ·have hlt:i<M.length:=by simpa using hb
   have hw:IntKind.i64.wrap ((i:Int) + 1)=((i + 1:Nat):Int):=by rw [z17 (by omega)];simp
   obtain ⟨r,hr⟩:∃ r,M[i]?=some r:=⟨_,List.getElem?_eq_getElem hlt⟩
   have g1:=z40 hr
   have hni:¬ ((i:Int)<0):=by omega
   rw [z30 hr,List.any_cons] at z39
   cases q:longB r
   ·rw [q,Bool.false_or] at z39
    rw [longB] at q
    repeat (first | refine z12 rfl ?_ | refine z11 rfl ?_ | refine nx ?_ | (refine z10 fun K hK=>?_;simp only [go_sem,g1,hni,q,hw];apply hK;clear hK K))
    refine ⟨rfl,i + 1,?_,⟨hlt,z39⟩,by omega⟩
    refine weA ?_ ?_ <;> simp
   ·rw [q,Bool.true_or,Bool.true_or] at z39
    rw [longB] at q
    subst z39
    repeat (first | refine z12 rfl ?_ | refine z11 rfl ?_ | refine nx ?_ | (refine z10 fun K hK=>?_;simp only [go_sem,g1,hni,q];apply hK;clear hK K))
    simp only [go_sem]
  ·have he:i=M.length:=by (have:¬ i<M.length:=by simpa using hb);omega
   subst he
   rw [List.drop_length,List.any_nil,Bool.false_or] at z39
   subst z39
   repeat (first | refine nx ?_ | (refine z10 fun K hK=>?_;simp only [go_sem,z26];apply hK;clear hK K))
   simp only [go_sem]
def longD (d:List Diners):Bool:=decide ((d.length:Int) > 20)
def longN (d:Dish):Bool:=decide ((d.needs.length:Int) > 20)
def maxTo (l:List (List Diners)):Nat→Int
 | 0=>0
 | i + 1=>max (maxTo l i) ((l.getD i []).length:Int)
def farK1 (k:Kitchen):Bool:=decide ((k.allerg.length:Int) > 20) || (decide ((k.batches.length:Int) > 20) || (decide ((k.dishes.length:Int) > 20) || decide ((k.days.length:Int) > 20)))
def farK2 (k:Kitchen):Bool:=(kitE k == 0) && (decide ((k.dishes.length:Int) > 3) || (decide ((k.days.length:Int) > 3) || decide (maxTo k.days k.days.length > 2)))
def far7 (k:Kitchen):Bool:=farK1 k || (k.days.any longD || (k.dishes.any longN || farK2 k))
theorem zf6 (k:Kitchen) (hs:KitSmall k):Fn Tryz.prog 6 [.agg k.cells] (.bool (far7 k)):=by
 have h44:=zf25 k hs
 have a1:=hs.allerg
 have a2:=hs.batches
 have a3:=hs.dishes
 have a5:=hs.days
 obtain ⟨R,hR⟩:∃ R,R=far7 k:=⟨_,rfl⟩
 rw [← hR]
 rw [far7] at hR
 rw [Kitchen.cells] at h44
 refine z14 84 Tryz.call6 Tryz.func6 rfl (by decide) fun J=>?_
 simp only [go_sem,St.start,Tryz.ntmps6,Tryz.results6,Kitchen.cells]
 repeat (first | refine nx ?_ | (refine z10 fun K hK=>?_;simp only [go_sem];apply hK;clear hK K))
 refine z56 [(27,.d (.bool (farK1 k)))] [] ?_ ?_
 ·refine z10 fun K hK=>?_
  simp only [go_sem]
  by_cases ho0:(decide ((k.allerg.length:Int) > 20))=true
  ·simp only [go_sem,ho0]
   apply hK
   clear hK K
   refine z21 ?_
   refine z19 ?_
   refine ⟨rfl,?_⟩
   rw [show (farK1 k)=(true) from by simp [farK1,ho0]]
   simp only [go_sem]
   refine weA ?_ ?_ <;> simp
  ·simp only [go_sem,ho0]
   by_cases ho1:(decide ((k.batches.length:Int) > 20))=true
   ·simp only [go_sem,ho0,ho1]
    apply hK
    clear hK K
    refine z21 ?_
    refine z19 ?_
    refine ⟨rfl,?_⟩
    rw [show (farK1 k)=(true) from by simp [farK1,ho0,ho1]]
    simp only [go_sem]
    refine weA ?_ ?_ <;> simp
   ·simp only [go_sem,ho0,ho1]
    by_cases ho2:(decide ((k.dishes.length:Int) > 20))=true
    ·simp only [go_sem,ho0,ho1,ho2]
     apply hK
     clear hK K
     refine z21 ?_
     refine z19 ?_
     refine ⟨rfl,?_⟩
     rw [show (farK1 k)=(true) from by simp [farK1,ho0,ho1,ho2]]
     simp only [go_sem]
     refine weA ?_ ?_ <;> simp
    ·simp only [go_sem,ho0,ho1,ho2]
     apply hK
     clear hK K
     refine z21 ?_
     refine z19 ?_
     refine ⟨rfl,?_⟩
     rw [show (farK1 k)=(decide ((k.days.length:Int) > 20)) from by simp [farK1,ho0,ho1,ho2]]
     simp only [go_sem]
     refine weA ?_ ?_ <;> simp
 simp only [go_sem]
 repeat (first | refine nx ?_ | (refine z10 fun K hK=>?_;simp only [go_sem];apply hK;clear hK K))
 refine z13 rfl (fun hc=>?_) (fun hc=>?_)
 ·rw [hc,Bool.true_or] at hR
  subst hR
  rw [hc]
  repeat (first | refine nx ?_ | (refine z10 fun K hK=>?_;simp only [go_sem];apply hK;clear hK K))
  simp only [go_sem,if_true]
 ·rw [hc,Bool.false_or] at hR
  rw [hc]
  repeat (first | refine nx ?_ | (refine z10 fun K hK=>?_;simp only [go_sem];apply hK;clear hK K))
  refine z15 (fun (i:Nat)=>[(4,.d (.i (i:Int))),(3,.d (.i (maxTo k.days i)))]) (fun _=>[]) (fun i=>i≤k.days.length∧R=((k.days.drop i).any longD || (k.dishes.any longN || farK2 k))) (fun i=>k.days.length - i) 0 ?_ ⟨Nat.zero_le _,hR⟩ ?_
  ·simp only [go_sem,maxTo]
   refine weA ?_ ?_ <;> simp
  ·rintro i ⟨hi,z39⟩
   have hmx:max (maxTo k.days i) ((k.days.getD i []).length:Int)=maxTo k.days (i + 1):=rfl
   obtain ⟨mi,hmi⟩:∃ m,m=maxTo k.days i:=⟨_,rfl⟩
   rw [← hmi] at hmx
   simp only [go_sem,← hmi]
   repeat (first | refine nx ?_ | (refine z10 fun K hK=>?_;simp only [go_sem];apply hK;clear hK K))
   refine z13 rfl (fun hb=>?_) (fun hb=>?_)
   ·have hlt:i<k.days.length:=by simpa using hb
    have hw:IntKind.i64.wrap ((i:Int) + 1)=((i + 1:Nat):Int):=by rw [z17 (by omega)];simp
    obtain ⟨r,hr⟩:∃ r,k.days[i]?=some r:=⟨_,List.getElem?_eq_getElem hlt⟩
    have g1:=z81 hr
    have hni:¬ ((i:Int)<0):=by omega
    rw [List.getD,hr,Option.getD_some] at hmx
    rw [z30 hr,List.any_cons] at z39
    cases q:longD r
    ·rw [q,Bool.false_or] at z39
     rw [longD] at q
     repeat (first | refine z12 rfl ?_ | refine z11 rfl ?_ | refine nx ?_ | (refine z10 fun K hK=>?_;simp only [go_sem,g1,hni,q,hw,hmx];apply hK;clear hK K))
     refine ⟨rfl,i + 1,?_,⟨hlt,z39⟩,by omega⟩
     refine weA ?_ ?_ <;> simp
     all_goals first | done | rfl | trace_state
    ·rw [q,Bool.true_or] at z39
     rw [longD] at q
     subst z39
     repeat (first | refine z12 rfl ?_ | refine z11 rfl ?_ | refine nx ?_ | (refine z10 fun K hK=>?_;simp only [go_sem,g1,hni,q];apply hK;clear hK K))
     simp only [go_sem]
   ·have he:i=k.days.length:=by (have:¬ i<k.days.length:=by simpa using hb);omega
    subst he
    rw [List.drop_length,List.any_nil,Bool.false_or] at z39
    repeat (first | refine nx ?_ | (refine z10 fun K hK=>?_;simp only [go_sem];apply hK;clear hK K))
    refine z15 (fun (j:Nat)=>[(5,.d (.i (j:Int)))]) (fun _=>[]) (fun j=>j≤k.dishes.length∧R=((k.dishes.drop j).any longN || farK2 k)) (fun j=>k.dishes.length - j) 0 ?_ ⟨Nat.zero_le _,z39⟩ ?_
    ·simp only [go_sem]
     refine weA ?_ ?_ <;> simp
    ·rintro j ⟨hj,hallj⟩
     simp only [go_sem]
     repeat (first | refine nx ?_ | (refine z10 fun K hK=>?_;simp only [go_sem];apply hK;clear hK K))
     refine z13 rfl (fun hb=>?_) (fun hb=>?_)
     ·have hlt:j<k.dishes.length:=by simpa using hb
      have hw:IntKind.i64.wrap ((j:Int) + 1)=((j + 1:Nat):Int):=by rw [z17 (by omega)];simp
      obtain ⟨r,hr⟩:∃ r,k.dishes[j]?=some r:=⟨_,List.getElem?_eq_getElem hlt⟩
      have g1:=z125 hr
      rw [Dish.row] at g1
      have hni:¬ ((j:Int)<0):=by omega
      rw [z30 hr,List.any_cons] at hallj
      cases q:longN r
      ·rw [q,Bool.false_or] at hallj
       rw [longN] at q
       repeat (first | refine z12 rfl ?_ | refine z11 rfl ?_ | refine nx ?_ | (refine z10 fun K hK=>?_;simp only [go_sem,g1,hni,q,hw];apply hK;clear hK K))
       refine ⟨rfl,j + 1,?_,⟨hlt,hallj⟩,by omega⟩
       refine weA ?_ ?_ <;> simp
      ·rw [q,Bool.true_or] at hallj
       rw [longN] at q
       subst hallj
       repeat (first | refine z12 rfl ?_ | refine z11 rfl ?_ | refine nx ?_ | (refine z10 fun K hK=>?_;simp only [go_sem,g1,hni,q];apply hK;clear hK K))
       simp only [go_sem]
     ·have he:j=k.dishes.length:=by (have:¬ j<k.dishes.length:=by simpa using hb);omega
      subst he
      rw [List.drop_length,List.any_nil,Bool.false_or,farK2,← hmi] at hallj
      obtain ⟨e,he⟩:∃ e,e=kitE k:=⟨_,rfl⟩
      rw [← he] at h44 hallj
      cases q0:(e == 0)
      ·rw [q0,Bool.false_and] at hallj
       subst hallj
       repeat (first | refine z12 rfl ?_ | refine z11 rfl ?_ | refine nx ?_ | (refine z10 fun K hK=>?_;simp only [go_sem,q0];(repeat (first | (refine ⟨_,.lent (hf:=h44) (hd:=rfl) (hr:=rfl),?_⟩;simp only [go_sem,q0]) | (refine ⟨_,.given (hf:=h44) (hd:=rfl) (ha:=rfl),?_⟩;simp only [go_sem,q0])));apply hK;clear hK K))
       simp only [go_sem]
      ·rw [q0,Bool.true_and] at hallj
       cases q1:decide ((k.dishes.length:Int) > 3)
       ·rw [q1,Bool.false_or] at hallj
        cases q2:decide ((k.days.length:Int) > 3)
        ·rw [q2,Bool.false_or] at hallj
         subst hallj
         repeat (first | refine z12 rfl ?_ | refine z11 rfl ?_ | refine nx ?_ | (refine z10 fun K hK=>?_;simp only [go_sem,q0,q1,q2];(repeat (first | (refine ⟨_,.lent (hf:=h44) (hd:=rfl) (hr:=rfl),?_⟩;simp only [go_sem,q0,q1,q2]) | (refine ⟨_,.given (hf:=h44) (hd:=rfl) (ha:=rfl),?_⟩;simp only [go_sem,q0,q1,q2])));apply hK;clear hK K))
         simp only [go_sem]
        ·rw [q2,Bool.true_or] at hallj
         subst hallj
         repeat (first | refine z12 rfl ?_ | refine z11 rfl ?_ | refine nx ?_ | (refine z10 fun K hK=>?_;simp only [go_sem,q0,q1,q2];(repeat (first | (refine ⟨_,.lent (hf:=h44) (hd:=rfl) (hr:=rfl),?_⟩;simp only [go_sem,q0,q1,q2]) | (refine ⟨_,.given (hf:=h44) (hd:=rfl) (ha:=rfl),?_⟩;simp only [go_sem,q0,q1,q2])));apply hK;clear hK K))
         simp only [go_sem]
       ·rw [q1,Bool.true_or] at hallj
        subst hallj
        repeat (first | refine z12 rfl ?_ | refine z11 rfl ?_ | refine nx ?_ | (refine z10 fun K hK=>?_;simp only [go_sem,q0,q1];(repeat (first | (refine ⟨_,.lent (hf:=h44) (hd:=rfl) (hr:=rfl),?_⟩;simp only [go_sem,q0,q1]) | (refine ⟨_,.given (hf:=h44) (hd:=rfl) (ha:=rfl),?_⟩;simp only [go_sem,q0,q1])));apply hK;clear hK K))
        simp only [go_sem]
end Go.Ab
namespace Go.Ab
open Go.RowKit Go.Proofs
set_option maxHeartbeats 8000000
set_option maxRecDepth 20000
attribute [local irreducible] WalkL Walk
def longS (l:List Hour):Bool:=decide ((l.length:Int) > 50)
def farS1 (s:Supply):Bool:=decide ((s.carr.length:Int) > 20) || (decide ((s.seen.length:Int) > 22) || decide ((s.scen.length:Int) > 8))
def farSup (s:Supply):Bool:=farS1 s || (s.scen.any longS || ((foreF s.scen != 0) && far6 s))
theorem zf8 (s:Supply) (hs:SuppSmall s):Fn Tryz.prog 8 [.agg s.cells] (.bool (farSup s)):=by
 have h81:=zf26 s.scen hs.fore
 have h11:=zf27 s hs
 have hsc:=hs.fore.1
 obtain ⟨R,hR⟩:∃ R,R=farSup s:=⟨_,rfl⟩
 rw [← hR]
 rw [farSup] at hR
 rw [Supply.cells] at h11
 refine z14 46 Tryz.call8 Tryz.func8 rfl (by decide) fun J=>?_
 simp only [go_sem,St.start,Tryz.ntmps8,Tryz.results8,Supply.cells]
 repeat (first | refine nx ?_ | (refine z10 fun K hK=>?_;simp only [go_sem];apply hK;clear hK K))
 refine z56 [(20,.d (.bool (farS1 s)))] [] ?_ ?_
 ·refine z10 fun K hK=>?_
  simp only [go_sem,z18,z72,z41]
  by_cases ho0:(decide ((s.carr.length:Int) > 20))=true
  ·simp only [go_sem,z18,z72,z41,ho0]
   apply hK
   clear hK K
   refine z21 ?_
   refine z19 ?_
   refine ⟨rfl,?_⟩
   rw [show (farS1 s)=(true) from by simp [farS1,ho0]]
   simp only [go_sem]
   refine weA ?_ ?_ <;> simp
  ·simp only [go_sem,z18,z72,z41,ho0]
   by_cases ho1:(decide ((s.seen.length:Int) > 22))=true
   ·simp only [go_sem,z18,z72,z41,ho0,ho1]
    apply hK
    clear hK K
    refine z21 ?_
    refine z19 ?_
    refine ⟨rfl,?_⟩
    rw [show (farS1 s)=(true) from by simp [farS1,ho0,ho1]]
    simp only [go_sem]
    refine weA ?_ ?_ <;> simp
   ·simp only [go_sem,z18,z72,z41,ho0,ho1]
    apply hK
    clear hK K
    refine z21 ?_
    refine z19 ?_
    refine ⟨rfl,?_⟩
    rw [show (farS1 s)=(decide ((s.scen.length:Int) > 8)) from by simp [farS1,ho0,ho1]]
    simp only [go_sem]
    refine weA ?_ ?_ <;> simp
 simp only [go_sem]
 repeat (first | refine nx ?_ | (refine z10 fun K hK=>?_;simp only [go_sem];apply hK;clear hK K))
 refine z13 rfl (fun hc=>?_) (fun hc=>?_)
 ·rw [hc,Bool.true_or] at hR
  subst hR
  rw [hc]
  repeat (first | refine nx ?_ | (refine z10 fun K hK=>?_;simp only [go_sem];apply hK;clear hK K))
  simp only [go_sem,if_true]
 ·rw [hc,Bool.false_or] at hR
  rw [hc]
  repeat (first | refine nx ?_ | (refine z10 fun K hK=>?_;simp only [go_sem];apply hK;clear hK K))
  refine z15 (fun (i:Nat)=>[(3,.d (.i (i:Int)))]) (fun _=>[]) (fun i=>i≤s.scen.length∧R=((s.scen.drop i).any longS || ((foreF s.scen != 0) && far6 s))) (fun i=>s.scen.length - i) 0 ?_ ⟨Nat.zero_le _,hR⟩ ?_
  ·simp only [go_sem]
   refine weA ?_ ?_ <;> simp
  ·rintro i ⟨hi,z39⟩
   simp only [go_sem]
   repeat (first | refine nx ?_ | (refine z10 fun K hK=>?_;simp only [go_sem,z41];apply hK;clear hK K))
   refine z13 rfl (fun hb=>?_) (fun hb=>?_)
   ·have hlt:i<s.scen.length:=by simpa using hb
    have hw:IntKind.i64.wrap ((i:Int) + 1)=((i + 1:Nat):Int):=by rw [z17 (by omega)];simp
    obtain ⟨r,hr⟩:∃ r,s.scen[i]?=some r:=⟨_,List.getElem?_eq_getElem hlt⟩
    have g1:(scenRows s.scen)[i]?=some [.sl (hourRows r)]:=by simp [scenRows,hr]
    have hni:¬ ((i:Int)<0):=by omega
    have hll:(hourRows r).length=r.length:=by simp [hourRows]
    rw [z30 hr,List.any_cons] at z39
    cases q:longS r
    ·rw [q,Bool.false_or] at z39
     rw [longS] at q
     repeat (first | refine z12 rfl ?_ | refine z11 rfl ?_ | refine nx ?_ | (refine z10 fun K hK=>?_;simp only [go_sem,g1,hni,hll,q,hw];apply hK;clear hK K))
     refine ⟨rfl,i + 1,?_,⟨hlt,z39⟩,by omega⟩
     refine weA ?_ ?_ <;> simp
    ·rw [q,Bool.true_or] at z39
     rw [longS] at q
     subst z39
     repeat (first | refine z12 rfl ?_ | refine z11 rfl ?_ | refine nx ?_ | (refine z10 fun K hK=>?_;simp only [go_sem,g1,hni,hll,q];apply hK;clear hK K))
     simp only [go_sem]
   ·have he:i=s.scen.length:=by (have:¬ i<s.scen.length:=by simpa using hb);omega
    subst he
    rw [List.drop_length,List.any_nil,Bool.false_or] at z39
    cases q0:(foreF s.scen != 0)
    ·rw [q0,Bool.false_and] at z39
     subst z39
     repeat (first | refine z12 rfl ?_ | refine z11 rfl ?_ | refine nx ?_ | (refine z10 fun K hK=>?_;simp only [go_sem,q0];(repeat (first | (refine ⟨_,.lent (hf:=h81) (hd:=rfl) (hr:=rfl),?_⟩;simp only [go_sem,q0]) | (refine ⟨_,.given (hf:=h81) (hd:=rfl) (ha:=rfl),?_⟩;simp only [go_sem,q0])));apply hK;clear hK K))
     simp only [go_sem]
    ·rw [q0,Bool.true_and] at z39
     subst z39
     repeat (first | refine z12 rfl ?_ | refine z11 rfl ?_ | refine nx ?_ | (refine z10 fun K hK=>?_;simp only [go_sem,q0];(repeat (first | (refine ⟨_,.lent (hf:=h81) (hd:=rfl) (hr:=rfl),?_⟩;simp only [go_sem,q0]) | (refine ⟨_,.lent (hf:=h11) (hd:=rfl) (hr:=rfl),?_⟩;simp only [go_sem,q0]) | (refine ⟨_,.given (hf:=h81) (hd:=rfl) (ha:=rfl),?_⟩;simp only [go_sem,q0]) | (refine ⟨_,.given (hf:=h11) (hd:=rfl) (ha:=rfl),?_⟩;simp only [go_sem,q0])));apply hK;clear hK K))
     simp only [go_sem]
end Go.Ab
namespace Go.Ab
open Go.RowKit Go.Proofs
set_option maxHeartbeats 4000000
set_option maxRecDepth 20000
def allTo (b:List Bool) (h j:Nat):Bool:=((b.drop h).take j).all id
theorem z986 {b:List Bool} {h j:Nat} {x:Bool} (hx:b[h + j]?=some x):allTo b h (j + 1)=(allTo b h j && x):=by
 unfold allTo
 rw [List.take_add_one,List.getElem?_drop,hx,List.all_append]
 simp
theorem z728 {b:List Bool} {h n:Nat} (hl:h + n≤b.length):allTo b h n=true↔IsBegin b n h:=by
 unfold allTo IsBegin
 rw [List.all_eq_true]
 constructor
 ·intro ha k h1 h2
  obtain ⟨x,hx⟩:∃ x,b[k]?=some x:=⟨_,List.getElem?_eq_getElem (by omega)⟩
  have hm:x ∈ (b.drop h).take n:=by
   refine List.mem_of_getElem? (i:=k - h) ?_
   rw [List.getElem?_take,if_pos (by omega),List.getElem?_drop,show h + (k - h)=k by omega,hx]
  have:=ha x hm
  rw [hx]
  simpa using this
 ·intro ha x hx
  obtain ⟨i,hi⟩:=List.getElem?_of_mem hx
  rw [List.getElem?_take] at hi
  split at hi
  ·rw [List.getElem?_drop,ha (h + i) (by omega) (by omega)] at hi
   cases hi
   rfl
  ·cases hi
end Go.Ab
namespace Go.Ab
open Go.RowKit Go.Proofs
set_option maxHeartbeats 8000000
set_option maxRecDepth 20000
attribute [local irreducible] WalkL Walk
theorem zf102 (b:List Bool) (n:Int) (hn:1≤n∧n≤1000) (hl:b.length<2 ^ 30):Fn Tryz.prog 102 [.sl (boolRows b),.i n] (.i (beginsF b n)):=by
 obtain ⟨N,hN⟩:∃ N:Nat,n=N:=⟨n.toNat,by omega⟩
 subst hN
 have hN1:1≤N:=by omega
 refine z14 33 Tryz.call102 Tryz.func102 rfl (by decide) fun J=>?_
 simp only [go_sem,St.start,Tryz.ntmps102,Tryz.results102]
 repeat (first | refine nx ?_ | (refine z10 fun K hK=>?_;simp only [go_sem];apply hK;clear hK K))
 refine z15 (fun (h:Nat)=>[(5,.d (.i h)),(6,.undef),(7,.undef)]) (fun _=>[]) (fun h=>h≤b.length∧∀ h'<h,¬ IsBegin b N h') (fun h=>b.length - h) 0 ?_ ⟨Nat.zero_le _,fun _ h=>by omega⟩ ?_
 ·simp only [go_sem]
  refine weA ?_ ?_ <;> simp
  all_goals first | done | rfl
 ·intro h ⟨hh,hno⟩
  have w1:IntKind.i64.wrap ((h:Int) + (N:Int))=((h + N:Nat):Int):=by rw [z17 (by omega)];simp
  simp only [go_sem]
  repeat (first | refine nx ?_ | (refine z10 fun K hK=>?_;simp only [go_sem,w1,z291];apply hK;clear hK K))
  refine z13 rfl (fun hb=>?_) (fun hb=>?_)
  ·have hle:h + N≤b.length:=by have:=of_decide_eq_true hb;omega
   have hw:IntKind.i64.wrap ((h:Int) + 1)=((h + 1:Nat):Int):=by rw [z17 (by omega)];simp
   repeat (first | refine nx ?_ | (refine z10 fun K hK=>?_;simp only [go_sem];apply hK;clear hK K))
   refine z15 (fun (j:Nat)=>[(7,.d (.i ((h + j:Nat):Int))),(6,.d (.bool (allTo b h j)))]) (fun _=>[]) (fun j=>j≤N) (fun j=>N - j) 0 ?_ (Nat.zero_le _) ?_
   ·simp only [go_sem]
    refine weA ?_ ?_ <;> simp
    all_goals first | done | rfl
   ·intro j hj
    simp only [go_sem]
    repeat (first | refine nx ?_ | (refine z10 fun K hK=>?_;simp only [go_sem,w1];apply hK;clear hK K))
    refine z13 rfl (fun hb=>?_) (fun hb=>?_)
    ·have hlt:j<N:=by have:=of_decide_eq_true hb;omega
     have hwj:IntKind.i64.wrap (((h + j:Nat):Int) + 1)=((h + (j + 1):Nat):Int):=by rw [z17 (by omega)];omega
     obtain ⟨x,hx⟩:∃ x,b[h + j]?=some x:=⟨_,List.getElem?_eq_getElem (by omega)⟩
     have g1:=z362 hx
     have hnx:=z986 hx
     cases q:allTo b h j
     ·rw [q,Bool.false_and] at hnx
      repeat (first | refine z12 rfl ?_ | refine z11 rfl ?_ | refine nx ?_ | (refine z10 fun K hK=>?_;simp only [go_sem,hwj];apply hK;clear hK K))
      refine ⟨rfl,j + 1,?_,hlt,by omega⟩
      rw [hnx]
      refine weA ?_ ?_ <;> simp
     ·rw [q,Bool.true_and] at hnx
      repeat (first | refine z12 rfl ?_ | refine z11 rfl ?_ | refine nx ?_ | (refine z10 fun K hK=>?_;simp only [go_sem,g1,hwj];apply hK;clear hK K))
      refine ⟨rfl,j + 1,?_,hlt,by omega⟩
      rw [hnx]
      refine weA ?_ ?_ <;> simp
    ·have he:j=N:=by (have:¬ (((h + j:Nat):Int)<((h + N:Nat):Int)):=by simpa using hb);omega
     subst he
     cases q:allTo b h j
     ·have hnb:¬ IsBegin b j h:=fun hc=>by rw [(z728 hle).2 hc] at q;cases q
      repeat (first | refine z12 rfl ?_ | refine z11 rfl ?_ | refine nx ?_ | (refine z10 fun K hK=>?_;simp only [go_sem,hw];apply hK;clear hK K))
      refine ⟨rfl,h + 1,?_,⟨by omega,fun h' hlt'=>by
       by_cases he:h'=h
       ·subst he;exact hnb
       ·exact hno h' (by omega)⟩,by omega⟩
      refine weA ?_ ?_ <;> simp
     ·have e:=z1071 hN1 ((z728 hle).1 q) hno
      rw [e]
      repeat (first | refine z12 rfl ?_ | refine z11 rfl ?_ | refine nx ?_ | (refine z10 fun K hK=>?_;simp only [go_sem];apply hK;clear hK K))
      simp only [go_sem]
  ·have hgt:b.length<h + N:=by (have:¬ (((h + N:Nat):Int)≤(b.length:Int)):=by simpa using hb);omega
   have e:=z1070 hN1 (l:=b) fun h' hc=>by
    by_cases hlt:h'<h
    ·exact hno h' hlt hc
    ·have:=(List.getElem?_eq_some_iff.1 (hc (h' + N - 1) (by omega) (by omega))).1
     omega
   rw [e]
   repeat (first | refine nx ?_ | (refine z10 fun K hK=>?_;simp only [go_sem];apply hK;clear hK K))
   simp only [go_sem]
end Go.Ab
namespace Go.Ab
open Go.RowKit Go.Proofs
set_option maxHeartbeats 8000000
set_option maxRecDepth 20000
attribute [local irreducible] WalkL Walk
theorem zf136 (l:Limits) (h:Hour):Fn Tryz.prog 136 [.agg h.row,.agg l.row] (.bool (alwaysB l h)):=by
 refine z14 37 Tryz.call136 Tryz.func136 rfl (by decide) fun J=>?_
 simp only [go_sem,St.start,Tryz.ntmps136,Tryz.results136,Limits.row,Hour.row]
 cases q1:decide (h.wind.hi≤l.wind) <;> cases q2:decide (h.rain.hi≤l.rain) <;> cases q3:decide (h.temp.lo ≥ l.temp.lo)
 all_goals
  have q4:decide (l.temp.lo≤h.temp.lo)=_:=q3
  repeat (first | refine nx ?_ | (refine z10 fun K hK=>?_;simp only [go_sem,q1,q2,q3];apply hK;clear hK K))
  simp only [go_sem,alwaysB,q1,q2,q4]
def mayB (l:Limits) (h:Hour):Bool:=decide (h.wind.lo≤l.wind) && (decide (h.rain.lo≤l.rain) && (decide (h.temp.lo≤l.temp.hi) && decide (h.temp.hi ≥ l.temp.lo)))
theorem zf137 (l:Limits) (h:Hour):Fn Tryz.prog 137 [.agg h.row,.agg l.row] (.bool (mayB l h)):=by
 refine z14 37 Tryz.call137 Tryz.func137 rfl (by decide) fun J=>?_
 simp only [go_sem,St.start,Tryz.ntmps137,Tryz.results137,Limits.row,Hour.row]
 cases q1:decide (h.wind.lo≤l.wind) <;> cases q2:decide (h.rain.lo≤l.rain) <;> cases q3:decide (h.temp.lo≤l.temp.hi)
 all_goals
  repeat (first | refine nx ?_ | (refine z10 fun K hK=>?_;simp only [go_sem,q1,q2,q3];apply hK;clear hK K))
  simp only [go_sem,mayB,q1,q2,q3]
theorem z1122 {l:Limits} {h:Hour} (hl:l.temp.lo≤l.temp.hi) (hh:h.temp.lo≤h.temp.hi):mayB l h=everB l h:=by
 unfold mayB everB
 congr 2
 rw [← Bool.decide_and]
 apply decide_eq_decide.2
 omega
theorem z956 (F:List (List Hour)) (seen:List Sight) (err:Int) (t:Bool):(seenF F seen≠0→lookF F seen err t=seenF F seen) ∧
  (seenF F seen=0→ForeGood F∧sightsB (hd0 F).length seen=true∧lookF F seen err t=if err=0 then (if t then (if (possL F seen).isEmpty then 3 else 0) else 1) else err):=by
 unfold seenF lookF
 cases hb:badF F
 ·cases hq:sightsB (hd0 F).length seen
  ·simp
  ·simp only [Bool.false_eq_true,if_false,if_true]
   exact ⟨fun h=>absurd rfl h,fun _=>⟨z156.1 hb,trivial,trivial⟩⟩
 ·simp
theorem zf99 (F:List (List Hour)) (seen:List Sight) (l:Limits) (t:Bool) (hs:ForeSmall F) (hsl:seen.length<2 ^ 30) :
  Fn Tryz.prog 99 [.agg [.sl (scenRows F)],.sl (sightRows seen),.agg l.row,.bool t] (.i (lookF F seen (limE l) t)):=by
 have h54:=zf120 F seen hs hsl
 have h104:=zf84 l
 rw [Limits.row] at h104
 have hsv:=z956 F seen (limE l) t
 obtain ⟨r,hr⟩:∃ r,r=lookF F seen (limE l) t:=⟨_,rfl⟩
 rw [← hr] at hsv ⊢
 clear hr
 obtain ⟨e,he⟩:∃ e,e=seenF F seen:=⟨_,rfl⟩
 rw [← he] at h54 hsv
 by_cases h0:e=0
 ·obtain ⟨hg,hsi,hlk⟩:=hsv.2 h0
  have hz:(e != 0)=false:=by simp [h0]
  have h57:=z1156 F seen hg hsi
  unfold limE at hlk
  obtain ⟨b,eb⟩:∃ b,b=limB l:=⟨_,rfl⟩
  rw [← eb] at h104 hlk
  cases b
  ·simp only [Bool.false_eq_true,if_false] at hlk
   rw [if_neg (by decide)] at hlk
   subst hlk
   refine z14 26 Tryz.call99 Tryz.func99 rfl (by decide) fun J=>?_
   simp only [go_sem,St.start,Tryz.ntmps99,Tryz.results99,Limits.row]
   repeat (first | refine z12 rfl ?_ | refine z11 rfl ?_ | refine nx ?_ | (refine z10 fun K hK=>?_;simp only [go_sem,hz];(repeat (first | (refine ⟨_,.lent (hf:=h54) (hd:=rfl) (hr:=rfl),?_⟩;simp only [go_sem,hz]) | (refine ⟨_,.lent (hf:=h104) (hd:=rfl) (hr:=rfl),?_⟩;simp only [go_sem,hz]) | (refine ⟨_,.given (hf:=h54) (hd:=rfl) (ha:=rfl),?_⟩;simp only [go_sem,hz]) | (refine ⟨_,.given (hf:=h104) (hd:=rfl) (ha:=rfl),?_⟩;simp only [go_sem,hz])));apply hK;clear hK K))
   simp only [go_sem]
  ·simp only [if_true] at hlk
   cases t
   ·simp only [Bool.false_eq_true,if_false] at hlk
    subst hlk
    refine z14 26 Tryz.call99 Tryz.func99 rfl (by decide) fun J=>?_
    simp only [go_sem,St.start,Tryz.ntmps99,Tryz.results99,Limits.row]
    repeat (first | refine z12 rfl ?_ | refine z11 rfl ?_ | refine nx ?_ | (refine z10 fun K hK=>?_;simp only [go_sem,hz];(repeat (first | (refine ⟨_,.lent (hf:=h54) (hd:=rfl) (hr:=rfl),?_⟩;simp only [go_sem,hz]) | (refine ⟨_,.lent (hf:=h104) (hd:=rfl) (hr:=rfl),?_⟩;simp only [go_sem,hz]) | (refine ⟨_,.given (hf:=h54) (hd:=rfl) (ha:=rfl),?_⟩;simp only [go_sem,hz]) | (refine ⟨_,.given (hf:=h104) (hd:=rfl) (ha:=rfl),?_⟩;simp only [go_sem,hz])));apply hK;clear hK K))
    simp only [go_sem]
   ·simp only [if_true] at hlk
    have hNl:=z103 (possL F seen)
    obtain ⟨N,hN⟩:∃ N,N=numsOf (possL F seen):=⟨_,rfl⟩
    rw [← hN] at hNl h57
    cases hp:(possL F seen).isEmpty
    ·rw [hp] at hlk
     simp only [Bool.false_eq_true,if_false] at hlk
     subst hlk
     have:possL F seen≠[]:=fun hc=>by rw [hc] at hp;cases hp
     have:=List.length_pos_iff.2 this
     have n0:((N.length:Int) == 0)=false:=by
      have:¬ ((N.length:Int)=0):=by omega
      simpa using this
     refine z14 26 Tryz.call99 Tryz.func99 rfl (by decide) fun J=>?_
     simp only [go_sem,St.start,Tryz.ntmps99,Tryz.results99,Limits.row]
     repeat (first | refine z12 rfl ?_ | refine z11 rfl ?_ | refine nx ?_ | (refine z10 fun K hK=>?_;simp only [go_sem,hz,n0];(repeat (first | (refine ⟨_,.lent (hf:=h54) (hd:=rfl) (hr:=rfl),?_⟩;simp only [go_sem,hz,n0]) | (refine ⟨_,.lent (hf:=h104) (hd:=rfl) (hr:=rfl),?_⟩;simp only [go_sem,hz,n0]) | (refine ⟨_,.lent (hf:=h57) (hd:=rfl) (hr:=rfl),?_⟩;simp only [go_sem,hz,n0]) | (refine ⟨_,.given (hf:=h54) (hd:=rfl) (ha:=rfl),?_⟩;simp only [go_sem,hz,n0]) | (refine ⟨_,.given (hf:=h104) (hd:=rfl) (ha:=rfl),?_⟩;simp only [go_sem,hz,n0]) | (refine ⟨_,.given (hf:=h57) (hd:=rfl) (ha:=rfl),?_⟩;simp only [go_sem,hz,n0])));apply hK;clear hK K))
     simp only [go_sem]
    ·rw [hp] at hlk
     simp only [if_true] at hlk
     subst hlk
     have:possL F seen=[]:=List.isEmpty_iff.1 hp
     have n0:((N.length:Int) == 0)=true:=by rw [hNl,this];rfl
     refine z14 26 Tryz.call99 Tryz.func99 rfl (by decide) fun J=>?_
     simp only [go_sem,St.start,Tryz.ntmps99,Tryz.results99,Limits.row]
     repeat (first | refine z12 rfl ?_ | refine z11 rfl ?_ | refine nx ?_ | (refine z10 fun K hK=>?_;simp only [go_sem,hz,n0];(repeat (first | (refine ⟨_,.lent (hf:=h54) (hd:=rfl) (hr:=rfl),?_⟩;simp only [go_sem,hz,n0]) | (refine ⟨_,.lent (hf:=h104) (hd:=rfl) (hr:=rfl),?_⟩;simp only [go_sem,hz,n0]) | (refine ⟨_,.lent (hf:=h57) (hd:=rfl) (hr:=rfl),?_⟩;simp only [go_sem,hz,n0]) | (refine ⟨_,.given (hf:=h54) (hd:=rfl) (ha:=rfl),?_⟩;simp only [go_sem,hz,n0]) | (refine ⟨_,.given (hf:=h104) (hd:=rfl) (ha:=rfl),?_⟩;simp only [go_sem,hz,n0]) | (refine ⟨_,.given (hf:=h57) (hd:=rfl) (ha:=rfl),?_⟩;simp only [go_sem,hz,n0])));apply hK;clear hK K))
     simp only [go_sem]
 ·rw [hsv.1 h0]
  have hz:(e != 0)=true:=by simpa using h0
  refine z14 26 Tryz.call99 Tryz.func99 rfl (by decide) fun J=>?_
  simp only [go_sem,St.start,Tryz.ntmps99,Tryz.results99,Limits.row]
  repeat (first | refine z12 rfl ?_ | refine z11 rfl ?_ | refine nx ?_ | (refine z10 fun K hK=>?_;simp only [go_sem,hz];(repeat (first | (refine ⟨_,.lent (hf:=h54) (hd:=rfl) (hr:=rfl),?_⟩;simp only [go_sem,hz]) | (refine ⟨_,.given (hf:=h54) (hd:=rfl) (ha:=rfl),?_⟩;simp only [go_sem,hz])));apply hK;clear hK K))
  simp only [go_sem]
theorem zf101 (F:List (List Hour)) (seen:List Sight) (l:Limits) (k:Int) (lk:List Hour) (hg:ForeGood F) (hsi:sightsB (hd0 F).length seen=true) (hk:0≤k) (hl:F[k.toNat]?=some lk) :
  Fn Tryz.prog 101 [.agg [.sl (scenRows F)],.sl (sightRows seen),.i k,.agg l.row] (.tup [.sl (boolRows ((seenHours seen lk).map (alwaysB l))),.sl (boolRows ((seenHours seen lk).map (mayB l)))]):=by
 have hsp:=z148 hsi
 have hF:=hg.scen
 have hH:=hg.hours
 have hll:=hg.len lk (List.mem_of_getElem? hl)
 have h30:=z1198 F (hd0 F) (z75 (by omega))
 have hSl:=z101 seen lk
 have hat:∀ i:Nat,i<lk.length→atF seen lk (i:Int)=hourAt (seenHours seen lk) (i:Int):=fun i hi=>atF_eq (seen:=seen) (l:=lk) (fun s hs=>by have:=hsp.1 s hs;omega) hsp.2.1 i
 have hget:∀ i:Nat,i<lk.length→(seenHours seen lk)[i]?=some (hourAt (seenHours seen lk) (i:Int)):=fun i hi=>by
  have:=z62 (l:=seenHours seen lk) (i:=(i:Int)) ⟨by omega,by simp;omega⟩
  simpa using this
 obtain ⟨S,hS⟩:∃ S,S=seenHours seen lk:=⟨_,rfl⟩
 rw [← hS] at hSl hat hget ⊢
 rw [← hll] at h30 hH
 have w0:(lk.length:Int)=(S.length:Int):=by omega
 rw [w0] at h30
 refine z14 37 Tryz.call101 Tryz.func101 rfl (by decide) fun J=>?_
 simp only [go_sem,St.start,Tryz.ntmps101,Tryz.results101,Limits.row]
 repeat (first | refine nx ?_ | (refine z10 fun K hK=>?_;simp only [go_sem];apply hK;clear hK K))
 refine z15 (fun (i:Nat)=>[(10,.d (.i i)),(11,.undef),(8,.own 28),(9,.own 34)]) (fun i=>[(28,some (.arr 4 1 (boolRows ((S.take i).map (alwaysB l))))),(34,some (.arr 4 1 (boolRows ((S.take i).map (mayB l)))))]) (fun i=>i≤S.length) (fun i=>S.length - i) 0 ?_ (Nat.zero_le _) ?_
 ·simp only [go_sem]
  refine z53 [28,34] ?_ ?_ rfl rfl <;> simp [lessT,lessM,lessB,AV.less]
  all_goals first | done | rfl | exact ⟨rfl,rfl⟩
 ·intro i hi
  simp only [go_sem]
  repeat (first | refine nx ?_ | (refine z10 fun K hK=>?_;simp only [go_sem];(repeat (first | (refine ⟨_,.lent (hf:=h30) (hd:=rfl) (hr:=rfl),?_⟩;simp only [go_sem]) | (refine ⟨_,.given (hf:=h30) (hd:=rfl) (ha:=rfl),?_⟩;simp only [go_sem])));apply hK;clear hK K))
  refine z13 rfl (fun hb=>?_) (fun hb=>?_)
  ·have hlt:i<S.length:=by simpa using hb
   have hw:IntKind.i64.wrap ((i:Int) + 1)=((i + 1:Nat):Int):=by rw [z17 (by omega)];simp
   have c117:=zf135 F seen lk k (i:Int) (by omega) hk hl ⟨by omega,by simp;omega⟩
   rw [hat i (by omega)] at c117
   have hx:=hget i (by omega)
   obtain ⟨x,hx0⟩:∃ x,x=hourAt S (i:Int):=⟨_,rfl⟩
   rw [← hx0] at c117 hx
   have c118:=zf136 l x
   have c119:=zf137 l x
   rw [Limits.row] at c118 c119
   rw [Hour.row] at c117 c118 c119
   have ht1:(S.take (i + 1)).map (alwaysB l)=(S.take i).map (alwaysB l)++[alwaysB l x]:=by rw [List.take_add_one,hx];simp
   have ht2:(S.take (i + 1)).map (mayB l)=(S.take i).map (mayB l)++[mayB l x]:=by rw [List.take_add_one,hx];simp
   obtain ⟨A,hA⟩:∃ A,A=(S.take i).map (alwaysB l):=⟨_,rfl⟩
   obtain ⟨B,hB⟩:∃ B,B=(S.take i).map (mayB l):=⟨_,rfl⟩
   have hAl:A.length=i:=by rw [hA];simp;omega
   have hBl:B.length=i:=by rw [hB];simp;omega
   have hn1:A.length + 1≤549755813888:=by omega
   have hn2:B.length + 1≤549755813888:=by omega
   rw [← hA] at ht1 ⊢
   rw [← hB] at ht2 ⊢
   obtain ⟨u,hu⟩:∃ u,u=alwaysB l x:=⟨_,rfl⟩
   obtain ⟨v,hv⟩:∃ v,v=mayB l x:=⟨_,rfl⟩
   rw [← hu] at c118 ht1
   rw [← hv] at c119 ht2
   repeat (first | refine nx ?_ | (refine z10 fun K hK=>?_;simp only [go_sem,hn1,hn2,hw];(repeat (first | (refine ⟨_,.lent (hf:=c117) (hd:=rfl) (hr:=rfl),?_⟩;simp only [go_sem,hn1,hn2,hw]) | (refine ⟨_,.lent (hf:=c118) (hd:=rfl) (hr:=rfl),?_⟩;simp only [go_sem,hn1,hn2,hw]) | (refine ⟨_,.lent (hf:=c119) (hd:=rfl) (hr:=rfl),?_⟩;simp only [go_sem,hn1,hn2,hw]) | (refine ⟨_,.given (hf:=c117) (hd:=rfl) (ha:=rfl),?_⟩;simp only [go_sem,hn1,hn2,hw]) | (refine ⟨_,.given (hf:=c118) (hd:=rfl) (ha:=rfl),?_⟩;simp only [go_sem,hn1,hn2,hw]) | (refine ⟨_,.given (hf:=c119) (hd:=rfl) (ha:=rfl),?_⟩;simp only [go_sem,hn1,hn2,hw])));apply hK;clear hK K))
   refine ⟨rfl,i + 1,?_,hlt,by omega⟩
   rw [ht1,ht2,z160,z160]
   refine weA ?_ ?_ <;> simp
   all_goals first | done | rfl | exact ⟨rfl,rfl⟩
  ·have he:i=S.length:=by (have:¬ i<S.length:=by simpa using hb);omega
   subst he
   rw [List.take_length]
   repeat (first | refine nx ?_ | (refine z10 fun K hK=>?_;simp only [go_sem];apply hK;clear hK K))
   simp only [go_sem]
   try rfl
end Go.Ab
namespace Go.Ab
open Go.RowKit Go.Proofs
set_option maxHeartbeats 16000000
set_option maxRecDepth 20000
attribute [local irreducible] WalkL Walk
theorem z1014 {F:List (List Hour)} {seen:List Sight} (hg:ForeGood F) (hsi:sightsB (hd0 F).length seen=true) {lk:List Hour} (hl:lk ∈ F):∀ h ∈ seenHours seen lk,hourB h=true:=by
 obtain ⟨s1,s2,s3⟩:=z148 hsi
 have key:∀ (sn:List Sight) (l:List Hour),(∀ s ∈ sn,hourB (pointH s.sky)=true)→(∀ h ∈ l,hourB h=true)→∀ h ∈ seenHours sn l,hourB h=true:=by
  intro sn
  induction sn with
  | nil=>intro l _ h2 h hh;exact h2 h hh
  | cons s sn ih =>
   intro l h1 h2 h hh
   rw [seenHours,List.foldl_cons] at hh
   refine ih _ (fun s hs=>h1 s (List.mem_cons_of_mem _ hs)) (fun g hg=>?_) h hh
   rcases List.mem_or_eq_of_mem_set hg with hg | rfl
   ·exact h2 g hg
   ·exact h1 s (List.mem_cons_self ..)
 exact key seen lk (fun s hs=>(s1 s hs).2.2) (hg.hour lk hl)
theorem z1046 {h:Hour} (hb:hourB h=true):h.temp.lo≤h.temp.hi:=by
 unfold hourB at hb
 simp only [Bool.and_eq_true,z335] at hb
 omega
structure Poss (F:List (List Hour)) (seen:List Sight) (l:Limits) (S:List (List Hour)) (N:List Int) (H:Nat):Prop where
 len:N.length=S.length
 few:S.length≤6
 pos:0<S.length
 hours:1≤H∧H≤48
 all:∀ s ∈ S,s.length=H
 get:∀ (i:Nat) s,S[i]?=some s→∃ k,N[i]?=some k∧0≤k∧Fn Tryz.prog 101 [.agg [.sl (scenRows F)],.sl (sightRows seen),.i k,.agg l.row] (.tup [.sl (boolRows (s.map (alwaysB l))),.sl (boolRows (s.map (everB l)))])
theorem z1164 {F:List (List Hour)} {seen:List Sight} {l:Limits} {err:Int} {t:Bool} (h:lookF F seen err t=0) (hl:limB l=true):Poss F seen l (scensOf (possL F seen)) (numsOf (possL F seen)) (hd0 F).length:=by
 obtain ⟨hg,hsi,hne,_,_⟩:=z190 h
 have hF:=hg.scen
 have hpl:(possL F seen).length≤F.length:=z79 _ _ _
 refine ⟨by rw [z103,z219],by rw [z219];omega,by rw [z219];exact List.length_pos_iff.2 hne,hg.hours,z329 hg,fun i s hs=>?_⟩
 obtain ⟨k,hk⟩:∃ k,(numsOf (possL F seen))[i]?=some k:=⟨_,List.getElem?_eq_getElem (by rw [z103,← z219];exact (List.getElem?_eq_some_iff.1 hs).1)⟩
 obtain ⟨k0,lk,hlk,_,_,hpi⟩:=z1117 hk
 have e:s=seenHours seen lk:=by
  rw [scensOf,List.getElem?_map,hpi] at hs
  simp at hs
  exact hs.symm
 have hm:=List.mem_of_getElem? hlk
 have h68:=zf101 F seen l k lk hg hsi k0 hlk
 rw [← e] at h68
 have hme:s.map (mayB l)=s.map (everB l):=List.map_congr_left fun h hh=>z1122 (by have:=(z1175.1 hl).2.2;omega) (z1046 (z1014 hg hsi hm h (e ▸ hh)))
 rw [hme] at h68
 exact ⟨k,hk,k0,h68⟩
def rowAll (q:Hour→Bool) (S:List (List Hour)) (H:Nat):List Bool:=(List.range H).map fun (h:Nat)=>S.all fun s=>q (hourAt s (h:Int))
def rowAny (q:Hour→Bool) (S:List (List Hour)) (H:Nat):List Bool:=(List.range H).map fun (h:Nat)=>S.any fun s=>q (hourAt s (h:Int))
theorem z724 {n:Int} (hn:1≤n):∀ (b:List Bool) (i:Nat) (run:Int),0≤beginsFrom n b i run→beginsFrom n b i run<i + b.length
 | [],i,run=>by
  rw [beginsFrom]
  intro h
  omega
 | x::b,i,run=>by
  rw [beginsFrom,List.length_cons]
  generalize (if x then run + 1 else 0)=r
  have:=z724 hn b (i + 1) r
  by_cases h:r=n
  ·rw [if_pos h];omega
  ·rw [if_neg h];omega
theorem z364 {n:Int} (hn:1≤n):∀ (b:List Bool) (i:Nat) (run:Int),run<i + 1→0≤run→-1≤beginsFrom n b i run
 | [],i,run,_,_=>by rw [beginsFrom];omega
 | x::b,i,run,h1,h2=>by
  rw [beginsFrom]
  have hr:(if x then run + 1 else 0)<(i:Int) + 2∧0≤(if x then run + 1 else 0):=by split <;> omega
  generalize (if x then run + 1 else 0)=r at hr
  by_cases h:r=n
  ·rw [if_pos h];omega
  ·rw [if_neg h]
   exact z364 hn b (i + 1) r (by push_cast;omega) hr.2
theorem z978 {H a x:Int} (h1:0≤a∧a≤H) (h2:-1≤x∧x<H) :
  (if (if decide (x ≥ 0) then min a x else a)=H then (-1:Int) else (if decide (x ≥ 0) then min a x else a)) =
   if (decide (x ≥ 0) && (decide ((if a=H then (-1:Int) else a)<0) || decide (x<(if a=H then (-1:Int) else a))))=true then x else (if a=H then (-1:Int) else a):=by
 simp only [Bool.and_eq_true,Bool.or_eq_true,decide_eq_true_eq]
 by_cases hx0:x ≥ 0
 ·simp only [hx0,if_true,true_and]
  by_cases ha:a=H
  ·simp only [ha,if_true]
   rw [if_neg (by omega),if_pos (.inl (by decide))]
   omega
  ·simp only [ha,if_false]
   rw [if_neg (by omega)]
   by_cases hxa:x<a
   ·rw [if_pos (.inr hxa)];omega
   ·rw [if_neg (by omega)];omega
 ·simp only [hx0,if_false,false_and]
theorem zf66 (F:List (List Hour)) (seen:List Sight) (l:Limits) (n:Int) (hs:ForeSmall F) (hsl:seen.length<2 ^ 30) :
  Fn Tryz.prog 66 [.agg [.sl (scenRows F)],.sl (sightRows seen),.agg l.row,.i n] (.tup [.i (windowF F seen l n).1,.i (windowF F seen l n).2.1,.i (windowF F seen l n).2.2]):=by
 have h67:=zf99 F seen l (withinB n 1 48) hs hsl
 have h72:=z1075 n 1 48
 obtain ⟨w,hw0⟩:∃ w,w=withinB n 1 48:=⟨_,rfl⟩
 unfold windowF
 rw [← hw0] at h67 h72 ⊢
 obtain ⟨e,he⟩:∃ e,e=lookF F seen (limE l) w:=⟨_,rfl⟩
 rw [← he] at h67 ⊢
 rw [Limits.row] at h67
 by_cases h0:e=0
 ·rw [if_pos h0]
  have hz:(e != 0)=false:=by simp [h0]
  rw [h0] at he
  obtain ⟨hg,hsi,hne,hlim,hwt⟩:=z190 he.symm
  rw [hwt] at hw0
  have hn:=z24.1 hw0.symm
  have hlb:limB l=true:=by
   unfold limE at hlim
   split at hlim
   ·assumption
   ·cases hlim
  have hp:=z1164 he.symm hlb
  have h57:=z1156 F seen hg hsi
  obtain ⟨N,hN⟩:∃ N,N=numsOf (possL F seen):=⟨_,rfl⟩
  obtain ⟨S,hS⟩:∃ S,S=scensOf (possL F seen):=⟨_,rfl⟩
  obtain ⟨H,hHe⟩:∃ H,H=(hd0 F).length:=⟨_,rfl⟩
  rw [← hN,← hS,← hHe] at hp
  rw [← hS,← hHe]
  rw [← hN] at h57
  have hlen:=hp.len
  have hfew:=hp.few
  have hH:=hp.hours
  -- what the program's way of reckoning says of the document's
  have bnd:∀ s ∈ S,∀ q:Hour→Bool,-1≤beginsF (s.map q) n∧beginsF (s.map q) n<(H:Int):=fun s hs q=>by
   have hsH:=hp.all s hs
   have h1:=z724 (n:=n) (by omega) (s.map q) 0 0
   have h2:=z364 (n:=n) (by omega) (s.map q) 0 0 (by decide) (by decide)
   rw [List.length_map,hsH] at h1
   unfold beginsF
   refine ⟨h2,?_⟩
   by_cases h:0≤beginsFrom n (s.map q) 0 0
   ·have:=h1 h;omega
   ·omega
  have fst:∀ i,i≤S.length→0≤winFirst l n (S.take i) H∧winFirst l n (S.take i) H≤H:=by
   intro i
   induction i with
   | zero=>intro _;simp [winFirst]
   | succ i ih =>
    intro hi
    obtain ⟨s,hx⟩:∃ s,S[i]?=some s:=⟨_,List.getElem?_eq_getElem (by omega)⟩
    have e1:winFirst l n (S.take (i + 1)) H=if decide (beginsF (s.map (everB l)) n ≥ 0) then min (winFirst l n (S.take i) H) (beginsF (s.map (everB l)) n) else winFirst l n (S.take i) H:=z32 _ _ _ _ _ hx
    have:=ih (by omega)
    rw [e1]
    split
    ·rename_i hd
     have:=of_decide_eq_true hd
     omega
    ·omega
  obtain ⟨fr,hfr⟩:∃ fr:Nat→Int,fr=fun i=>if winFirst l n (S.take i) H=H then -1 else winFirst l n (S.take i) H:=⟨_,rfl⟩
  have fr0:fr 0=-1:=by rw [hfr];simp [winFirst]
  have frs:∀ i s,S[i]?=some s→fr (i + 1)=if (decide (beginsF (s.map (everB l)) n ≥ 0) && (decide (fr i<0) || decide (beginsF (s.map (everB l)) n<fr i)))=true then beginsF (s.map (everB l)) n else fr i:=fun i s hx=>by
   have e1:winFirst l n (S.take (i + 1)) H=if decide (beginsF (s.map (everB l)) n ≥ 0) then min (winFirst l n (S.take i) H) (beginsF (s.map (everB l)) n) else winFirst l n (S.take i) H:=z32 _ _ _ _ _ hx
   have hi:=(List.getElem?_eq_some_iff.1 hx).1
   have h1:=fst i (by omega)
   have h2:=bnd s (List.mem_of_getElem? hx) (everB l)
   rw [hfr]
   dsimp only
   rw [e1]
   exact z978 h1 h2
  have frH:(if winFirst l n S H=H then (-1:Int) else winFirst l n S H)=fr S.length:=by rw [hfr];dsimp only;rw [List.take_length]
  obtain ⟨la,hla⟩:∃ la:Nat→Int,la=fun i=>(S.take i).foldl (fun a s=>max a (beginsF (s.map (alwaysB l)) n)) 0:=⟨_,rfl⟩
  have la0:la 0=0:=by rw [hla];rfl
  have las:∀ i s,S[i]?=some s→la (i + 1)=max (la i) (beginsF (s.map (alwaysB l)) n):=fun i s hx=>by
   rw [hla];exact z32 _ _ _ _ _ hx
  have lag:winNever l n S=false→winLast l n S=la S.length:=fun hnv=>by
   have key:∀ i,i≤S.length→la i=max 0 (winLast l n (S.take i)):=by
    intro i
    induction i with
    | zero=>intro _;rw [la0];rfl
    | succ i ih =>
     intro hi
     obtain ⟨s,hx⟩:∃ s,S[i]?=some s:=⟨_,List.getElem?_eq_getElem (by omega)⟩
     have e1:winLast l n (S.take (i + 1))=max (winLast l n (S.take i)) (beginsF (s.map (alwaysB l)) n):=z32 _ _ _ _ _ hx
     rw [las i s hx,e1,ih (by omega)]
     omega
   have:=key S.length (Nat.le_refl _)
   rw [List.take_length] at this
   rw [this]
   obtain ⟨s,hx⟩:∃ s,S[S.length - 1]?=some s:=⟨_,List.getElem?_eq_getElem (by have:=hp.pos;omega)⟩
   have e1:winLast l n (S.take (S.length - 1 + 1))=max (winLast l n (S.take (S.length - 1))) (beginsF (s.map (alwaysB l)) n):=z32 _ _ _ _ _ hx
   rw [show S.length - 1 + 1=S.length by have:=hp.pos;omega,List.take_length] at e1
   have:0≤beginsF (s.map (alwaysB l)) n:=by
    unfold winNever at hnv
    rw [List.any_eq_false] at hnv
    have:=hnv s (List.mem_of_getElem? hx)
    simp at this
    exact this
   rw [e1]
   omega
  have wv:(if winNever l n S=true then (-1:Int) else winLast l n S)=if winNever l n S=true then (-1:Int) else la S.length:=by
   cases hnv:winNever l n S
   ·simp only [Bool.false_eq_true,if_false];exact lag hnv
   ·rfl
  rw [frH,wv]
  have nv0:winNever l n (S.take 0)=false:=rfl
  have nvs:∀ i s,S[i]?=some s→winNever l n (S.take (i + 1))=(winNever l n (S.take i) || decide (beginsF (s.map (alwaysB l)) n<0)):=fun i s hx=>by
   unfold winNever;rw [List.take_add_one,hx];simp
  clear wv lag frH fst
  refine z14 77 Tryz.call66 Tryz.func66 rfl (by decide) fun J=>?_
  simp only [go_sem,St.start,Tryz.ntmps66,Tryz.results66,Limits.row]
  repeat (first | refine nx ?_ | (refine z10 fun K hK=>?_;simp only [go_sem];apply hK;clear hK K))
  refine z16 (by kernel_rfl) (by kernel_rfl) fun K hK=>?_
  simp only [go_sem]
  refine ⟨_,.fn (hf:=h72) (hd:=rfl) (hr:=.inl rfl),?_⟩
  simp only [go_sem]
  refine ⟨_,.fn (hf:=h67) (hd:=rfl) (hr:=.inr rfl),?_⟩
  simp only [go_sem]
  refine ⟨by kernel_rfl,hK _ ?_⟩
  clear hK K
  repeat (first | refine z12 rfl ?_ | refine z11 rfl ?_ | refine nx ?_ | (refine z10 fun K hK=>?_;simp only [go_sem,hz];(repeat (first | (refine ⟨_,.lent (hf:=h57) (hd:=rfl) (hr:=rfl),?_⟩;simp only [go_sem,hz]) | (refine ⟨_,.given (hf:=h57) (hd:=rfl) (ha:=rfl),?_⟩;simp only [go_sem,hz])));apply hK;clear hK K))
  refine z15 (fun (i:Nat)=>[(14,.d (.i i)),(8,.d (.i (fr i))),(9,.d (.i (la i))),(12,.d (.bool (winNever l n (S.take i)))),(15,.undef),(16,.undef),(17,.undef),(18,.undef)]) (fun _=>[]) (fun i=>i≤S.length) (fun i=>S.length - i) 0 ?_ (Nat.zero_le _) ?_
  ·simp only [go_sem,fr0,la0,nv0]
   refine weA ?_ ?_ <;> simp
   all_goals first | done | rfl | exact ⟨rfl,rfl⟩ | exact ⟨rfl,rfl,rfl⟩ | simp [fr0,la0,nv0]
  ·intro i hi
   have wN:(N.length:Int)=(S.length:Int):=by omega
   simp only [go_sem]
   repeat (first | refine nx ?_ | (refine z10 fun K hK=>?_;simp only [go_sem,z36,wN];apply hK;clear hK K))
   refine z13 rfl (fun hb=>?_) (fun hb=>?_)
   ·have hlt:i<S.length:=by simpa using hb
    have hw:IntKind.i64.wrap ((i:Int) + 1)=((i + 1:Nat):Int):=by rw [z17 (by omega)];simp
    obtain ⟨s,hx⟩:∃ s,S[i]?=some s:=⟨_,List.getElem?_eq_getElem hlt⟩
    obtain ⟨k,hk,hk0,h68⟩:=hp.get i s hx
    have hsH:=hp.all s (List.mem_of_getElem? hx)
    have gk:=z38 hk
    rw [Limits.row] at h68
    have c1:=zf102 (s.map (everB l)) n ⟨by omega,by omega⟩ (by simp;omega)
    have c2:=zf102 (s.map (alwaysB l)) n ⟨by omega,by omega⟩ (by simp;omega)
    have n1:=frs i s hx
    have n2:=las i s hx
    have n3:=nvs i s hx
    obtain ⟨x,hx1⟩:∃ x,x=beginsF (s.map (everB l)) n:=⟨_,rfl⟩
    obtain ⟨y,hy1⟩:∃ y,y=beginsF (s.map (alwaysB l)) n:=⟨_,rfl⟩
    rw [← hx1] at c1 n1
    rw [← hy1] at c2 n2 n3
    obtain ⟨a,ha⟩:∃ a,a=fr i:=⟨_,rfl⟩
    obtain ⟨b,hb0⟩:∃ b,b=la i:=⟨_,rfl⟩
    obtain ⟨c,hc0⟩:∃ c,c=winNever l n (S.take i):=⟨_,rfl⟩
    rw [← ha] at n1 ⊢
    rw [← hb0] at n2 ⊢
    rw [← hc0] at n3 ⊢
    cases qx:decide (x ≥ 0) <;> cases qa:decide (a<0) <;> cases qxa:decide (x<a) <;> cases c
    all_goals
     rw [qx,qa,qxa] at n1
     simp only [Bool.false_or,Bool.true_or,Bool.false_and,Bool.true_and,Bool.false_eq_true,if_false,if_true] at n1 n3
     repeat (first | refine nx ?_ | (refine z10 fun K hK=>?_;simp only [go_sem];apply hK;clear hK K))
     refine z16 (by kernel_rfl) (by kernel_rfl) fun K hK=>?_
     simp only [go_sem,gk]
     refine ⟨_,.fn (hf:=h68) (hd:=rfl) (hr:=.inr rfl),?_⟩
     simp only [go_sem]
     refine ⟨by kernel_rfl,hK _ ?_⟩
     clear hK K
     repeat (first | refine z12 rfl ?_ | refine z11 rfl ?_ | refine nx ?_ | (refine z10 fun K hK=>?_;simp only [go_sem,qx,qa,qxa,hw];(repeat (first | (refine ⟨_,.lent (hf:=c1) (hd:=rfl) (hr:=rfl),?_⟩;simp only [go_sem,qx,qa,qxa,hw]) | (refine ⟨_,.lent (hf:=c2) (hd:=rfl) (hr:=rfl),?_⟩;simp only [go_sem,qx,qa,qxa,hw]) | (refine ⟨_,.given (hf:=c1) (hd:=rfl) (ha:=rfl),?_⟩;simp only [go_sem,qx,qa,qxa,hw]) | (refine ⟨_,.given (hf:=c2) (hd:=rfl) (ha:=rfl),?_⟩;simp only [go_sem,qx,qa,qxa,hw])));apply hK;clear hK K))
     refine ⟨rfl,i + 1,?_,hlt,by omega⟩
     rw [n1,n2,n3]
     refine weA ?_ ?_ <;> simp
     all_goals first | done | rfl | exact ⟨rfl,rfl⟩ | exact ⟨rfl,rfl,rfl⟩
   ·have he:i=S.length:=by (have:¬ i<S.length:=by simpa using hb);omega
    subst he
    rw [List.take_length]
    obtain ⟨a,ha⟩:∃ a,a=fr S.length:=⟨_,rfl⟩
    obtain ⟨b,hb0⟩:∃ b,b=la S.length:=⟨_,rfl⟩
    obtain ⟨c,hc0⟩:∃ c,c=winNever l n S:=⟨_,rfl⟩
    rw [← ha,← hb0,← hc0]
    cases c
    all_goals
     repeat (first | refine z12 rfl ?_ | refine z11 rfl ?_ | refine nx ?_ | (refine z10 fun K hK=>?_;simp only [go_sem];apply hK;clear hK K))
     simp only [go_sem,h0,Bool.false_eq_true,if_false,if_true]
     try rfl
 ·rw [if_neg h0]
  have hz:(e != 0)=true:=by simpa using h0
  refine z14 77 Tryz.call66 Tryz.func66 rfl (by decide) fun J=>?_
  simp only [go_sem,St.start,Tryz.ntmps66,Tryz.results66,Limits.row]
  repeat (first | refine nx ?_ | (refine z10 fun K hK=>?_;simp only [go_sem];apply hK;clear hK K))
  refine z16 (by kernel_rfl) (by kernel_rfl) fun K hK=>?_
  simp only [go_sem]
  refine ⟨_,.fn (hf:=h72) (hd:=rfl) (hr:=.inl rfl),?_⟩
  simp only [go_sem]
  refine ⟨_,.fn (hf:=h67) (hd:=rfl) (hr:=.inr rfl),?_⟩
  simp only [go_sem]
  refine ⟨by kernel_rfl,hK _ ?_⟩
  clear hK K
  repeat (first | refine z12 rfl ?_ | refine z11 rfl ?_ | refine nx ?_ | (refine z10 fun K hK=>?_;simp only [go_sem,hz];apply hK;clear hK K))
  simp only [go_sem]
  try rfl
end Go.Ab
namespace Go.Ab
open Go.RowKit Go.Proofs
set_option maxHeartbeats 16000000
set_option maxRecDepth 20000
attribute [local irreducible] WalkL Walk
def ldAt (L:List (List Int)) (c h:Nat):Int:=getI (L.getD c []) (h:Int)
def trBad (s:Supply) (i:Nat) (p t:Int × Int):Bool:=!withinB t.1 0 ((s.hours:Int) - 1) || (!withinB t.2 0 ((s.carr.length:Int) - 1) || (ldAt s.loads t.2.toNat t.1.toNat == 0 || (decide ((i:Int) > 0) && (decide (t.1<p.1) || (t.1 == p.1 && decide (t.2≤p.2))))))
def trFrom (s:Supply):List (Int × Int)→Nat→Int × Int→Bool
 | [],_,_=>true
 | t::l,i,p=>if trBad s i p t then false else trFrom s l (i + 1) t
def ofTrip (s:Supply) (h:Nat) (t:Int × Int):Int:=if t.1=(h:Int) then ldAt s.loads t.2.toNat h else 0
def brought (s:Supply):List (Int × Int)→Nat→Int
 | [],_=>0
 | t::T,h=>ofTrip s h t + brought s T h
end Go.Ab
namespace Go.Ab
open Go.RowKit Go.Proofs
set_option maxHeartbeats 16000000
set_option maxRecDepth 20000
attribute [local irreducible] WalkL Walk
def stockAt (s:Supply) (T:List (Int × Int)) (u:Nat→Int):Nat→Int
 | 0=>s.stock
 | k + 1=>stockAt s T u k + (brought s T k - u k)
def uAt (U:List Int) (k:Nat):Int:=getI U (k:Int)
def stocksL (s:Supply) (T:List (Int × Int)) (U:List Int):List Int:=rowQ (fun k=>stockAt s T (uAt U) (k + 1)) s.hours fun _=>true
end Go.Ab
namespace Go.Ab
open Go.RowKit Go.Proofs
set_option maxHeartbeats 16000000
set_option maxRecDepth 20000
attribute [local irreducible] WalkL Walk
def kU (u:Int):Nat→Int:=fun _=>u
def lvl (s:Supply) (T:List (Int × Int)) (u:Int) (k:Nat):Int:=stockAt s T (kU u) k
def shortB (s:Supply) (T:List (Int × Int)) (u:Nat→Int):Nat→Bool
 | 0=>false
 | n + 1=>shortB s T u n || decide (stockAt s T u (n + 1)<s.reserve)
def cntN (s:Supply) (T:List (Int × Int)) (u:Nat→Int):Nat→Nat
 | 0=>0
 | n + 1=>if shortB s T u (n + 1) then cntN s T u n else cntN s T u n + 1
def fitsA (s:Supply) (T:List (Int × Int)) (u:Int):Nat→Bool
 | 0=>true
 | n + 1=>fitsA s T u n && decide (lvl s T u n + brought s T n≤s.room)
def cumB (s:Supply) (T:List (Int × Int)):Nat→Int
 | 0=>0
 | n + 1=>cumB s T n + brought s T n
end Go.Ab
namespace Go.Ab
open Go.RowKit Go.Proofs
set_option maxHeartbeats 16000000
set_option maxRecDepth 20000
attribute [local irreducible] WalkL Walk
end Go.Ab
namespace Go.Ab
open Go.RowKit Go.Proofs
set_option maxHeartbeats 16000000
set_option maxRecDepth 20000
attribute [local irreducible] WalkL Walk
theorem zf34 (s:Supply) (c n:Int) (hs:SuppSmall s):Fn Tryz.prog 34 [.agg s.cells,.i c,.i n] (.tup [.i (nextP s c n).1,.bool (nextP s c n).2.1,.i (nextP s c n).2.2]):=by
 have hcl:=hs.carr
 have hw1:IntKind.i64.wrap ((s.carr.length:Int) - 1)=s.carr.length - 1:=z17 (by omega)
 have k1:=z1077 c 0 ((s.carr.length:Int) - 1)
 have k2:=z1077 n 1 48
 have h24:=zf55 s hs
 rw [Supply.cells] at h24
 unfold nextP openS6 askB
 obtain ⟨a1,ha1⟩:∃ b,b=withinB c 0 ((s.carr.length:Int) - 1):=⟨_,rfl⟩
 obtain ⟨a2,ha2⟩:∃ b,b=withinB n 1 48:=⟨_,rfl⟩
 rw [← ha1] at k1 ⊢
 rw [← ha2] at k2 ⊢
 by_cases h0:suppE s=0
 ·rw [h0] at h24
  rw [if_pos h0]
  cases a1
  ·refine z14 69 Tryz.call34 Tryz.func34 rfl (by decide) fun J=>?_
   simp only [go_sem,St.start,Tryz.ntmps34,Tryz.results34,Supply.cells]
   repeat (first | refine z12 rfl ?_ | refine z11 rfl ?_ | refine nx ?_ | (refine z10 fun K hK=>?_;simp only [go_sem,hw1,z18];(repeat (first | (refine ⟨_,.lent (hf:=h24) (hd:=rfl) (hr:=rfl),?_⟩;simp only [go_sem,hw1,z18]) | (refine ⟨_,.lent (hf:=k1) (hd:=rfl) (hr:=rfl),?_⟩;simp only [go_sem,hw1,z18]) | (refine ⟨_,.given (hf:=h24) (hd:=rfl) (ha:=rfl),?_⟩;simp only [go_sem,hw1,z18]) | (refine ⟨_,.given (hf:=k1) (hd:=rfl) (ha:=rfl),?_⟩;simp only [go_sem,hw1,z18])));apply hK;clear hK K))
   simp only [go_sem]
  ·cases a2
   ·refine z14 69 Tryz.call34 Tryz.func34 rfl (by decide) fun J=>?_
    simp only [go_sem,St.start,Tryz.ntmps34,Tryz.results34,Supply.cells]
    repeat (first | refine z12 rfl ?_ | refine z11 rfl ?_ | refine nx ?_ | (refine z10 fun K hK=>?_;simp only [go_sem,hw1,z18];(repeat (first | (refine ⟨_,.lent (hf:=h24) (hd:=rfl) (hr:=rfl),?_⟩;simp only [go_sem,hw1,z18]) | (refine ⟨_,.lent (hf:=k1) (hd:=rfl) (hr:=rfl),?_⟩;simp only [go_sem,hw1,z18]) | (refine ⟨_,.lent (hf:=k2) (hd:=rfl) (hr:=rfl),?_⟩;simp only [go_sem,hw1,z18]) | (refine ⟨_,.given (hf:=h24) (hd:=rfl) (ha:=rfl),?_⟩;simp only [go_sem,hw1,z18]) | (refine ⟨_,.given (hf:=k1) (hd:=rfl) (ha:=rfl),?_⟩;simp only [go_sem,hw1,z18]) | (refine ⟨_,.given (hf:=k2) (hd:=rfl) (ha:=rfl),?_⟩;simp only [go_sem,hw1,z18])));apply hK;clear hK K))
    simp only [go_sem]
   ·have hr:=z24.1 ha1.symm
    obtain ⟨x,hx⟩:∃ x,s.carr[c.toNat]?=some x:=⟨_,List.getElem?_eq_getElem (by omega)⟩
    have gx:=z126 hx
    rw [Carrier.row] at gx
    have h12:=zf66 s.scen s.seen x.lim n hs.fore hs.seen
    have hW:nextW s c n=windowF s.scen s.seen x.lim n:=by rw [nextW,List.getD,hx];rfl
    rw [← hW] at h12
    unfold nextE
    obtain ⟨W,hWW⟩:∃ W,W=nextW s c n:=⟨_,rfl⟩
    rw [← hWW] at h12 ⊢
    obtain ⟨w1,w2,w3⟩:=W
    dsimp only at h12 ⊢
    rw [Limits.row] at h12
    have hc0:¬ c<0:=by omega
    simp only [Bool.and_self,if_true]
    refine z14 69 Tryz.call34 Tryz.func34 rfl (by decide) fun J=>?_
    simp only [go_sem,St.start,Tryz.ntmps34,Tryz.results34,Supply.cells]
    repeat (first | refine z12 rfl ?_ | refine z11 rfl ?_ | refine nx ?_ | (refine z10 fun K hK=>?_;simp only [go_sem,hw1,z18];(repeat (first | (refine ⟨_,.lent (hf:=h24) (hd:=rfl) (hr:=rfl),?_⟩;simp only [go_sem,hw1,z18]) | (refine ⟨_,.lent (hf:=k1) (hd:=rfl) (hr:=rfl),?_⟩;simp only [go_sem,hw1,z18]) | (refine ⟨_,.lent (hf:=k2) (hd:=rfl) (hr:=rfl),?_⟩;simp only [go_sem,hw1,z18]) | (refine ⟨_,.given (hf:=h24) (hd:=rfl) (ha:=rfl),?_⟩;simp only [go_sem,hw1,z18]) | (refine ⟨_,.given (hf:=k1) (hd:=rfl) (ha:=rfl),?_⟩;simp only [go_sem,hw1,z18]) | (refine ⟨_,.given (hf:=k2) (hd:=rfl) (ha:=rfl),?_⟩;simp only [go_sem,hw1,z18])));apply hK;clear hK K))
    refine z16 (by kernel_rfl) (by kernel_rfl) fun K hK=>?_
    simp only [go_sem,gx,hr.1]
    refine ⟨_,.fn (hf:=h12) (hd:=rfl) (hr:=.inl rfl),?_⟩
    simp only [go_sem]
    refine ⟨by kernel_rfl,hK _ ?_⟩
    clear hK K
    by_cases c1:w3=0
    ·have q2:(w3 != 0)=false:=by simp [c1]
     by_cases c2:w2<0
     ·have q3:decide (w2<0)=true:=decide_eq_true c2
      rw [if_pos (show w3=0∧w2<0 from ⟨c1,c2⟩),if_neg (by decide)]
      repeat (first | refine z12 rfl ?_ | refine z11 rfl ?_ | refine nx ?_ | (refine z10 fun K hK=>?_;simp only [go_sem,q2,q3];apply hK;clear hK K))
      simp only [go_sem]
     ·have q3:decide (w2<0)=false:=decide_eq_false c2
      rw [if_neg (show ¬ (w3=0∧w2<0) from fun h=>c2 h.2),if_pos c1]
      dsimp only
      repeat (first | refine z12 rfl ?_ | refine z11 rfl ?_ | refine nx ?_ | (refine z10 fun K hK=>?_;simp only [go_sem,q2,q3];apply hK;clear hK K))
      cases q4:(w2 == 0)
      ·refine z16 (by kernel_rfl) (by kernel_rfl) fun K hK=>?_
       simp only [go_sem,q4]
       refine ⟨by kernel_rfl,hK _ ?_⟩
       clear hK K
       repeat (first | refine z12 rfl ?_ | refine z11 rfl ?_ | refine nx ?_ | (refine z10 fun K hK=>?_;simp only [go_sem];apply hK;clear hK K))
       simp only [go_sem]
      ·refine z16 (by kernel_rfl) (by kernel_rfl) fun K hK=>?_
       simp only [go_sem,q4]
       refine ⟨by kernel_rfl,hK _ ?_⟩
       clear hK K
       repeat (first | refine z12 rfl ?_ | refine z11 rfl ?_ | refine nx ?_ | (refine z10 fun K hK=>?_;simp only [go_sem];apply hK;clear hK K))
       simp only [go_sem]
    ·have q2:(w3 != 0)=true:=by simpa using c1
     rw [if_neg (show ¬ (w3=0∧w2<0) from fun h=>c1 h.1),if_neg c1]
     repeat (first | refine z12 rfl ?_ | refine z11 rfl ?_ | refine nx ?_ | (refine z10 fun K hK=>?_;simp only [go_sem,q2];apply hK;clear hK K))
     simp only [go_sem]
 ·rw [if_neg h0]
  have hz:(suppE s != 0)=true:=by simpa using h0
  have hz2:¬ suppE s=0:=h0
  rw [if_neg h0]
  obtain ⟨e,he⟩:∃ e,e=suppE s:=⟨_,rfl⟩
  rw [← he] at h24 hz ⊢
  refine z14 69 Tryz.call34 Tryz.func34 rfl (by decide) fun J=>?_
  simp only [go_sem,St.start,Tryz.ntmps34,Tryz.results34,Supply.cells]
  repeat (first | refine z12 rfl ?_ | refine z11 rfl ?_ | refine nx ?_ | (refine z10 fun K hK=>?_;simp only [go_sem,hz];(repeat (first | (refine ⟨_,.lent (hf:=h24) (hd:=rfl) (hr:=rfl),?_⟩;simp only [go_sem,hz]) | (refine ⟨_,.given (hf:=h24) (hd:=rfl) (ha:=rfl),?_⟩;simp only [go_sem,hz])));apply hK;clear hK K))
  simp only [go_sem]
end Go.Ab
