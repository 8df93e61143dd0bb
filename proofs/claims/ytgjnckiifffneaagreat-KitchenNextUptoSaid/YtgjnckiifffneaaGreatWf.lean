/- A walk engine over abstract states, and the contracts of the functions that the statement reaches: part 6. -/
import Derived.Test.YtgjnckiifffneaaGreatWe
set_option linter.unusedVariables false
set_option linter.unusedSimpArgs false
set_option linter.unnecessarySimpa false
namespace Go.Ab
open Go.RowKit Go.Proofs
def vK (k:Kitchen) (g:Nat) (t:Int) (l:List Int):Int:=vO k g t l (List.range k.batches.length)
theorem z981 (k:Kitchen) (g:Nat) (t:Int) (l:List Int):vO k g t l (ordK k)=vK k g t l:=z992 (z320 k).1
theorem z229 {k:Kitchen} {g good:Nat} (hne:g≠good) (t:Int) (p:List Nat):∀ (o:List Nat) (a:List Int × Int),(∀ x ∈ o,x<a.1.length)→vO k g t (o.foldl (takeStep k good) a).1 p=vO k g t a.1 p
 | [],a,_=>rfl
 | i::o,a,h=>by
  have hlen:(takeStep k good a i).1.length=a.1.length:=by unfold takeStep;split <;> simp
  rw [List.foldl_cons,z229 hne t p o _ (fun x hx=>by rw [hlen];exact h x (by simp [hx]))]
  unfold takeStep
  split
  ·rename_i hg
   refine z129 p fun j _=>?_
   have hil:=h i (by simp)
   by_cases e:j=i
   ·subst e
    rw [if_neg (fun c=>hne (by have:=c.1;omega)),if_neg (fun c=>hne (by have:=c.1;omega))]
   ·have e2:=z124 hil (getI a.1 (i:Int) - min a.2 (getI a.1 (i:Int))) j
    rw [if_neg e] at e2
    dsimp only
    rw [e2]
  ·rfl
theorem z424 {k:Kitchen} (hg:KitGood k) {needs C:List Int} (hl:C.length=k.batches.length) (ha:AmtOk C) (hn:∀ x ∈ needs,0≤x):∀ G,
  ((takeTo k (ordK k) needs C G).isSome=true↔∀ g,g<G→getI needs (g:Int)≤vK k g 0 C) ∧
    ∀ c,takeTo k (ordK k) needs C G=some c→(∀ g,g<G→∀ t:Int,0≤t→vK k g t c=min (vK k g t C) (vK k g 0 C - getI needs (g:Int)))∧∀ g,G≤g→∀ t:Int,vK k g t c=vK k g t C
 | 0=>⟨⟨fun _ g h=>by omega,fun _=>rfl⟩,fun c hc=>by cases hc;exact ⟨fun g h=>by omega,fun _ _ _=>rfl⟩⟩
 | G + 1=>by
  obtain ⟨ih1,ih2⟩:=z424 hg hl ha hn G
  obtain ⟨o1,o2⟩:=z320 k
  have hnd:(ordK k).Nodup:=o1.nodup_iff.2 List.nodup_range
  rw [takeTo]
  cases hx:takeTo k (ordK k) needs C G with
  | none =>
   rw [hx] at ih1
   refine ⟨⟨(fun h=>by cases h),fun h=>?_⟩,(fun c hc=>by cases hc)⟩
   have:=ih1.2 fun g hgl=>h g (by omega)
   cases this
  | some d =>
   obtain ⟨d1,d2⟩:=z128 ha hn G d hx
   obtain ⟨v1,v2⟩:=ih2 d hx
   rw [hx] at ih1
   have i1:=ih1.1 rfl
   have hng:=z659 hn G
   have hxl:∀ x ∈ ordK k,x<d.length:=fun x hx=>by rw [d2,hl];exact z72 hx
   have hw:=z986 (k:=k) (good:=G) (q:=fun x=>decide (x=(G:Int))) (ordK k) (a:=(d,getI needs (G:Int))) (fun x hx=>z72 hx) (by rw [d2,hl])
   obtain ⟨k1,k2,k3,k4⟩:=z276 (k:=k) (good:=G) (ordK k) (a:=(d,getI needs (G:Int))) d1 hng
   have hv0:vK k G 0 d=wOf k (fun x=>decide (x=(G:Int))) d:=by
    rw [vK,vO,z425,wOf]
    refine z426 _ fun i hi=>?_
    have:=(z1130 hg hi).2.2.1
    by_cases e:(batAt k i).good=(G:Int)
    ·rw [if_pos ⟨e,this⟩,if_pos (decide_eq_true e)]
    ·rw [if_neg (fun c=>e c.1),if_neg (by simpa using e)]
   have hpos:0≤wOf k (fun x=>decide (x=(G:Int))) ((ordK k).foldl (takeStep k G) (d,getI needs (G:Int))).1:=z308 _ fun i _=>by
    have:=(k1.get (i:Int)).1
    split <;> omega
   dsimp only at hw ⊢
   rw [if_pos (decide_eq_true rfl)] at hw
   have edf:=fun h=>z453 (k:=k) (g:=G) (ordK k) d (getI needs (G:Int)) hnd o2 hxl d1 hng (fun i hi=>(z1130 hg (z72 hi)).2.2.1) h
   rw [z981] at edf
   have hvG:=v2 G (Nat.le_refl _) 0
   by_cases hz:(takeG k (ordK k) G d (getI needs (G:Int))).2 > 0
   ·rw [if_pos hz]
    refine ⟨⟨(fun h=>by cases h),fun h=>?_⟩,(fun c hc=>by cases hc)⟩
    have:=(edf (by rw [hvG];exact h G (by omega))).1
    unfold takeG at hz
    omega
   ·rw [if_neg hz]
    have hm:((ordK k).foldl (takeStep k G) (d,getI needs (G:Int))).2=0:=by unfold takeG at hz;omega
    rw [hm] at hw
    have hle:getI needs (G:Int)≤vK k G 0 d:=by omega
    refine ⟨⟨fun _ g hgl=>?_,fun _=>rfl⟩,fun c hc=>?_⟩
    ·by_cases e:g=G
     ·subst e;rw [← hvG];exact hle
     ·exact i1 g (by omega)
    ·cases hc
     refine ⟨fun g hgl t ht=>?_,fun g hgl t=>?_⟩
     ·by_cases e:g=G
      ·subst e
       have:=(edf hle).2 t ht
       rw [z981,z981] at this
       rw [takeG,this,v2 g (Nat.le_refl _),v2 g (Nat.le_refl _)]
      ·have:=z229 (k:=k) (g:=g) (good:=G) e t (List.range k.batches.length) (ordK k) (d,getI needs (G:Int)) hxl
       rw [takeG]
       exact this.trans (v1 g (by omega) t ht)
     ·have:=z229 (k:=k) (g:=g) (good:=G) (by omega) t (List.range k.batches.length) (ordK k) (d,getI needs (G:Int)) hxl
      rw [takeG]
      exact this.trans (v2 g (by omega) t)
theorem clr_v {k:Kitchen} {d:Nat} {l:List Int} {w:Int} (hl:l.length=k.batches.length) (ha:AmtOk l) (g:Nat) (t:Int):vK k g t (clrTo k (d:Int) l w k.batches.length).1=vK k g (max t (d:Int)) l:=by
 obtain ⟨_,_,_,h4,h5⟩:=z887 (day:=(d:Int)) (w:=w) hl ha k.batches.length (Nat.le_refl _)
 refine z129 _ fun i hi=>?_
 have hi:=List.mem_range.1 hi
 by_cases hd:(batAt k i).last<(d:Int)
 ·rw [h4 i hi hd,if_neg (fun c:(batAt k i).good=(g:Int)∧max t (d:Int)≤(batAt k i).last=>by have:=c.2;omega)]
  split <;> rfl
 ·rw [h5 i hi hd]
  by_cases hc:(batAt k i).good=(g:Int)∧t≤(batAt k i).last
  ·rw [if_pos hc,if_pos ⟨hc.1,by have:=hc.2;omega⟩]
  ·rw [if_neg hc,if_neg (fun c=>hc ⟨c.1,by have:=c.2;omega⟩)]
def sumF (f:Nat→Int):Nat→Nat→Int
 | _,0=>0
 | t,c + 1=>f t + sumF f (t + 1) c
theorem z309 {f:Nat→Int}:∀ c t,(∀ i,t≤i→i<t + c→0≤f i)→0≤sumF f t c
 | 0,_,_=>Int.le_refl _
 | c + 1,t,h=>by
  have:=h t (Nat.le_refl _) (by omega)
  have:=z309 (f:=f) c (t + 1) fun i h1 h2=>h i (by omega) (by omega)
  rw [sumF];omega
theorem z495 {f:Nat→Int} {t D:Nat} (h:t<D):sumF f t (D - t)=f t + sumF f (t + 1) (D - (t + 1)):=by
 rw [show D - t=(D - (t + 1)) + 1 by omega,sumF]
theorem z994 {f:Nat→Int} {D:Nat} {d:Nat} (h:∀ i,d≤i→i<D→0≤f i):∀ j,d + j≤D→sumF f (d + j) (D - (d + j))≤sumF f d (D - d)
 | 0,_=>Int.le_refl _
 | j + 1,hj=>by
  have ih:=z994 h j (by omega)
  rw [z495 (show d + j<D by omega)] at ih
  have:=h (d + j) (by omega) (by omega)
  rw [show d + (j + 1)=d + j + 1 by omega]
  omega
structure DayStep (k:Kitchen) (l l':List Int) (d:Nat) (nd:Nat→Int):Prop where
 val:∀ g,g<k.allerg.length→∀ t:Nat,d≤t→vK k g (t:Int) l'=min (vK k g (t:Int) l) (vK k g (d:Int) l - nd g)
theorem z1079 {k:Kitchen} (hg:KitGood k) {M:List (List Int)} (hM:shapedB (menuB k) M k.days=true) {cnt:Nat→Nat→Int} (hc:CntOk k cnt) {d:Nat} {b:List Int × Int} (hd:d<M.length) (hb:runSt k M cnt d=some b) :
  ((runSt k M cnt (d + 1)).isSome=true↔∀ g,g<k.allerg.length→getI (needD k M cnt d) (g:Int)≤vK k g (d:Int) b.1) ∧
    ∀ a,runSt k M cnt (d + 1)=some a→DayStep k b.1 a.1 d fun g=>getI (needD k M cnt d) (g:Int):=by
 obtain ⟨r1,r2,r3,r4⟩:=z277 hg hM hc d b (by omega) hb
 obtain ⟨r,hr⟩:∃ r,M[d]?=some r:=⟨_,List.getElem?_eq_getElem hd⟩
 obtain ⟨_,_,hdo⟩:=z157 hg hM hc hr
 have hnd:needD k M cnt d=needL k r (cnt d):=by rw [needD,List.getD,hr];rfl
 have hn0:∀ x ∈ needD k M cnt d,0≤x:=fun x hx=>by rw [hnd] at hx;exact (z57 hg hdo x hx).1
 obtain ⟨c1,c2,c3⟩:=z55 (k:=k) (day:=(d:Int)) (w:=b.2) r1 k.batches.length
 have c4:=z47 k (d:Int) b.1 b.2 k.batches.length
 obtain ⟨t1,t2⟩:=z424 hg (C:=(clrTo k (d:Int) b.1 b.2 k.batches.length).1) (by omega) c1 hn0 k.allerg.length
 have hv:∀ g t,vK k g t (clrTo k (d:Int) b.1 b.2 k.batches.length).1=vK k g (max t (d:Int)) b.1:=fun g t=>clr_v r2 r1 g t
 have e:runSt k M cnt (d + 1)=(takeTo k (ordK k) (needD k M cnt d) (clrTo k (d:Int) b.1 b.2 k.batches.length).1 k.allerg.length).map fun l=>(l,(clrTo k (d:Int) b.1 b.2 k.batches.length).2):=by rw [runSt,hb];rfl
 rw [e]
 refine ⟨?_,fun a ha=>?_⟩
 ·rw [Option.isSome_map,t1]
  refine forall_congr' fun g=>forall_congr' fun _=>?_
  rw [hv,show max (0:Int) (d:Int)=(d:Int) by omega]
 ·obtain ⟨l,hl,rfl⟩:=Option.map_eq_some_iff.1 ha
  refine ⟨fun g hgl t ht=>?_⟩
  have:=(t2 l hl).1 g hgl (t:Int) (by omega)
  rw [hv,hv,show max (t:Int) (d:Int)=(t:Int) by omega,show max (0:Int) (d:Int)=(d:Int) by omega] at this
  exact this
def Enough (k:Kitchen) (nd:Nat→Nat→Int) (d D:Nat) (l:List Int):Prop:=∀ g,g<k.allerg.length→∀ t,d≤t→t<D→sumF (fun e=>nd e g) t (D - t)≤vK k g (t:Int) l
theorem z35 {k:Kitchen} (hg:KitGood k) {M:List (List Int)} (hM:shapedB (menuB k) M k.days=true) {cnt:Nat→Nat→Int} (hc:CntOk k cnt) {D:Nat} (hD:D≤M.length) :
  (runSt k M cnt D).isSome=true↔Enough k (fun e g=>getI (needD k M cnt e) (g:Int)) 0 D (amtK k):=by
 obtain ⟨nd,hnd⟩:∃ nd:Nat→Nat→Int,nd=fun (e g:Nat)=>getI (needD k M cnt e) (g:Int):=⟨_,rfl⟩
 rw [← hnd]
 have hn0:∀ e g,e<D→0≤nd e g:=fun e g he=>by
  rw [hnd]
  obtain ⟨r,hr⟩:∃ r,M[e]?=some r:=⟨_,List.getElem?_eq_getElem (by omega)⟩
  obtain ⟨_,_,hdo⟩:=z157 hg hM hc hr
  have h2:needD k M cnt e=needL k r (cnt e):=by rw [needD,List.getD,hr];rfl
  exact z659 (fun x hx=>by rw [h2] at hx;exact (z57 hg hdo x hx).1) g
 have step:∀ d b,d<D→runSt k M cnt d=some b→((runSt k M cnt (d + 1)).isSome=true↔∀ g,g<k.allerg.length→nd d g≤vK k g (d:Int) b.1)∧∀ a,runSt k M cnt (d + 1)=some a→DayStep k b.1 a.1 d (nd d):=fun d b hd hb=>by
  rw [hnd]
  exact z1079 hg hM hc (by omega) hb
 constructor
 ·intro h
  -- from the last day back
  have hsome:∀ s,s≤D→∃ a,runSt k M cnt s=some a:=fun s hs=>by
   cases hx:runSt k M cnt s with
   | some a=>exact ⟨a,rfl⟩
   | none=>rw [z236 hx hs] at h;cases h
  have key:∀ j,j≤D→∀ a,runSt k M cnt (D - j)=some a→Enough k nd (D - j) D a.1:=by
   intro j
   induction j with
   | zero=>intro _ a _ g _ t h1 h2;omega
   | succ j ih =>
    intro hj a ha g hgl t ht1 ht2
    obtain ⟨s,hs⟩:∃ s,s=D - (j + 1):=⟨_,rfl⟩
    have hs1:D - j=s + 1:=by omega
    rw [← hs] at ha ht1
    rw [hs1] at ih
    obtain ⟨a',ha'⟩:=hsome (s + 1) (by omega)
    obtain ⟨p1,p2⟩:=step s a (by omega) ha
    have hneed:=p1.1 (by rw [ha'];rfl) g hgl
    have hval:=(p2 a' ha').val g hgl
    have en:=ih (by omega) a' ha' g hgl
    by_cases e:t=s
    ·subst e
     rw [z495 ht2]
     by_cases e2:t + 1<D
     ·have h1:=en (t + 1) (Nat.le_refl _) e2
      have h2:=hval (t + 1) (by omega)
      omega
     ·rw [show D - (t + 1)=0 by omega,sumF]
      omega
    ·have h1:=en t (by omega) ht2
     have h2:=hval t (by omega)
     omega
  have:=key D (Nat.le_refl _) (amtK k,0) (by rw [Nat.sub_self];rfl)
  rwa [Nat.sub_self] at this
 ·intro h
  have key:∀ s,s≤D→∃ a,runSt k M cnt s=some a∧Enough k nd s D a.1:=by
   intro s
   induction s with
   | zero=>intro _;exact ⟨(amtK k,0),rfl,h⟩
   | succ s ih =>
    intro hs
    obtain ⟨a,ha,en⟩:=ih (by omega)
    obtain ⟨p1,p2⟩:=step s a (by omega) ha
    have hs2:(runSt k M cnt (s + 1)).isSome=true:=p1.2 fun g hgl=>by
     have h1:=en g hgl s (Nat.le_refl _) (by omega)
     rw [z495 (by omega:s<D)] at h1
     have h2:=z309 (f:=fun e=>nd e g) (D - (s + 1)) (s + 1) fun i h1 h2=>hn0 i g (by omega)
     omega
    obtain ⟨a',ha'⟩:=Option.isSome_iff_exists.1 hs2
    refine ⟨a',ha',fun g hgl t ht1 ht2=>?_⟩
    have hval:=(p2 a' ha').val g hgl t (by omega)
    have h1:=en g hgl t (by omega) ht2
    have h2:=en g hgl s (Nat.le_refl _) (by omega)
    rw [z495 (by omega:s<D)] at h2
    have h3:=z994 (f:=fun e=>nd e g) (D:=D) (d:=s + 1) (fun i h1 h2=>hn0 i g h2) (t - (s + 1)) (by omega)
    rw [show s + 1 + (t - (s + 1))=t by omega] at h3
    omega
  obtain ⟨a,ha,_⟩:=key D (Nat.le_refl _)
  rw [ha]
  rfl
theorem z1104 {k:Kitchen} {M:List (List Int)} {cnt:Nat→Nat→Int} {d n:Nat} (h:d≤n):d≤lastD k M cnt n↔(runSt k M cnt d).isSome=true:=by
 constructor
 ·intro hd
  have hs:=z246 k M cnt n
  cases hx:runSt k M cnt d with
  | some a=>rfl
  | none=>rw [z236 hx hd] at hs;cases hs
 ·intro hs
  induction h with
  | refl=>rw [z213 hs];exact Nat.le_refl _
  | @step m hm ih =>
   rw [lastD]
   split
   ·exact Nat.le_succ_of_le hm
   ·exact ih
end Go.Ab
namespace Go.Ab
open Go.RowKit Go.Proofs
set_option maxHeartbeats 8000000
theorem z1017 {s:Supply} {c n:Int} (h1:suppE s=0) (hz:(nextP s c n).2.2=0) :
  askB s c n=true∧limE (s.carr.getD c.toNat ⟨0,0,0,⟨0,0,⟨0,0⟩⟩⟩).lim=0∧withinB n 1 48=true∧(nextP s c n).1=(nextW s c n).2.1∧0≤(nextW s c n).2.1:=by
 unfold nextP at hz ⊢
 unfold openS6 at hz ⊢
 rw [if_pos h1] at hz ⊢
 cases hask:askB s c n with
 | false=>rw [hask] at hz;simp at hz
 | true =>
  rw [hask] at hz
  simp only [if_true] at hz ⊢
  by_cases hne:nextE s c n=0
  ·rw [if_pos hne]
   refine ⟨trivial,?_⟩
   unfold nextE at hne
   split at hne
   ·cases hne
   ·rename_i hn
    have hneg:¬ (nextW s c n).2.1<0:=fun h=>hn ⟨hne,h⟩
    have hw:(nextW s c n).2.2=0:=hne
    rw [nextW] at hw
    rw [windowF] at hw
    split at hw
    ·rename_i hlk
     obtain ⟨_,_,_,l1,l2⟩:=z181 hlk
     exact ⟨l1,l2,rfl,by omega⟩
    ·rename_i hlk
     exact absurd hw hlk
  ·rw [if_neg hne] at hz
   exact absurd hz hne
end Go.Ab
namespace Go.Ab
open Go.RowKit Go.Proofs
set_option maxHeartbeats 16000000
set_option maxRecDepth 20000
attribute [local irreducible] WalkL Walk
def badFc (k:Kitchen) (M:List (List Int)) (s:Supply) (o:Sight):Bool:=far7 k || (farRows M || (farSup s || (openK k M != 0 || (suppE s != 0 || suppE (s.more o) != 0))))
def betterCells (s:Supply) (c n:Int) (o:Sight):List DV:=[.sl (scenRows s.scen),.sl (sightRows s.seen),.i s.stock,.i s.reserve,.i s.room,.i s.use.lo,.i s.use.hi,.sl (carrRows s.carr),.i c,.i n,.i o.hour,.i o.sky.wind,.i o.sky.rain,.i o.sky.temp]
end Go.Ab
namespace Go.Ab
set_option maxHeartbeats 8000000
def boughtB (buy:List Int):List Batch:=(List.range buy.length).map fun (g:Nat)=>⟨(g:Int),getI buy (g:Int),30⟩
def moreK (k:Kitchen) (buy:List Int):Kitchen:={ k with batches:=k.batches++boughtB buy }
end Go.Ab
namespace Go.Ab
set_option maxHeartbeats 8000000
def restL (buy b:List Int):List Int:=(List.range buy.length).map fun (i:Nat)=>getI buy (i:Int) - getI b (i:Int)
theorem z519 {l:List Int} {g:Nat} {x:Int} (h:g<l.length):getI (l.set g x) (g:Int)=x:=by
 rw [getI,Int.toNat_natCast,List.getD,List.getElem?_set_self h]
 rfl
theorem z850 {l:List Int} {g i:Nat} {x:Int} (h:g≠i):getI (l.set g x) (i:Int)=getI l (i:Int):=by
 rw [getI,getI,Int.toNat_natCast,List.getD,List.getD,List.getElem?_set_ne h]
def LeL (b c:List Int):Prop:=∀ i:Nat,getI b (i:Int)≤getI c (i:Int)
theorem LeL.refl (b:List Int):LeL b b:=fun _=>Int.le_refl _
theorem LeL.trans {a b c:List Int} (h:LeL a b) (h':LeL b c):LeL a c:=fun i=>Int.le_trans (h i) (h' i)
theorem LeL.set {b:List Int} {g:Nat} {m:Int} (hm:0≤m) (hg:g<b.length):LeL b (b.set g (getI b (g:Int) + m)):=fun i=>by
 by_cases he:g=i
 ·subst he
  rw [z519 hg]
  omega
 ·rw [z850 he]
  exact Int.le_refl _
section
variable {k:Kitchen} {needs C b:List Int} {B:Int} (hC:AmtOk C) (hb:BuyOk B b) (hB:0≤B) (hn:∀ x ∈ needs,0≤x∧x≤2 ^ 40)
include hC hb hB hn
end
end Go.Ab
namespace Go.Ab
set_option maxHeartbeats 8000000
end Go.Ab
namespace Go.Ab
open Go.RowKit Go.Proofs
set_option maxHeartbeats 16000000
set_option maxRecDepth 20000
attribute [local irreducible] WalkL Walk
end Go.Ab
namespace Go.Ab
open Go.RowKit Go.Proofs
set_option maxHeartbeats 16000000
set_option maxRecDepth 20000
attribute [local irreducible] WalkL Walk
def oldTo (k:Kitchen) (l:List Int) (g:Nat):Nat→Int
 | 0=>-1
 | i + 1=>if (batAt k i).good=(g:Int)∧getI l (i:Int) > 0∧(oldTo k l g i<0∨(batAt k i).last<(batAt k (oldTo k l g i).toNat).last) then (i:Int) else oldTo k l g i
end Go.Ab

namespace Go.Ab
open Go.RowKit Go.Proofs
set_option maxHeartbeats 16000000
set_option maxRecDepth 20000
attribute [local irreducible] WalkL Walk
def ServeC (k:Kitchen) (l ds cs:List Int):Option (List Int)→Prop
 | some c=>FnG Tryz.prog 103 [] [] (List.map AV.d [.agg k.cells,.sl (intRows l),.sl (intRows ds),.sl (intRows cs)]) (.tup [.own 0,.d (.bool true)]) [.arr 3 1 (intRows c)]
 | none=>Fn Tryz.prog 103 [.agg k.cells,.sl (intRows l),.sl (intRows ds),.sl (intRows cs)] (.tup [.sl (intRows l),.bool false])
end Go.Ab
namespace Go.Ab
open Go.RowKit Go.Proofs
set_option maxHeartbeats 16000000
set_option maxRecDepth 20000
attribute [local irreducible] WalkL Walk
def endRow (b:Bool) (d:List Diners):List Int:=d.map fun g=>if b=true then g.count.hi else g.count.lo
def endsTo (k:Kitchen) (b:Bool) (i:Nat):List (List Int):=(k.days.take i).map (endRow b)
def endsL (k:Kitchen) (b:Bool):List (List Int):=k.days.map (endRow b)
end Go.Ab
namespace Go.Ab
open Go.RowKit Go.Proofs
set_option maxHeartbeats 16000000
set_option maxRecDepth 20000
attribute [local irreducible] WalkL Walk
end Go.Ab
namespace Go.Ab
open Go.RowKit Go.Proofs
set_option maxHeartbeats 16000000
set_option maxRecDepth 20000
attribute [local irreducible] WalkL Walk
def pickC (k:Kitchen) (b:Bool) (d g:Nat):Int:=if b=true then (dinAt k d g).count.hi else (dinAt k d g).count.lo
end Go.Ab
namespace Go.Ab
open Go.RowKit Go.Proofs
set_option maxHeartbeats 16000000
set_option maxRecDepth 20000
attribute [local irreducible] WalkL Walk
end Go.Ab
/- What a function makes of its own,told as a deep value. -/
namespace Go.Ab
open Go.RowKit
theorem FnG.deep {P:Program} {f:FuncId} {args:List DV} {r:AV} {m1:List Blk} {d:DV} (h:FnG P f [] [] (args.map AV.d) r m1) (hr:reify (m1.map some) Ab.deep r=some d):Fn P f args d :=
 ⟨h.enters,fun w own vs hb hh hd=>(h.calls (ltU w.heap.size) w own (fun _=>none) vs hb (fun _ h=>h)
   ⟨fun n b h=>by simp at h,fun n h=>by simp at h,fun n k b z l c z' l' c' h=>by simp at h,fun n b z l c h=>by simp at h⟩
   (hh.less fun b hb=>hb.elim id fun ⟨_,_,_,_,h⟩=>by simp at h) (by simpa using hd.1) (fun i x v hx hv=>by
    simp only [List.getElem?_map,Option.map_eq_some_iff] at hx
    obtain ⟨y,hy,rfl⟩:=hx
    refine .d ((hd.2 i y v hy hv).goes fun b o u h1 h2=>⟨fun hc=>h1 (hc.elim id fun ⟨_,_,_,_,h⟩=>by simp at h),h2⟩))).mono fun en w' hq=>by
  obtain ⟨v,μ1,he,hv,hm,hk,_⟩:=hq
  exact ⟨v,he,z63 hm own (fun b hb=>.inl hb) (fun _=>True) (fun n b z l c _ hμ=>(hm.base n b z l c hμ).2.2) Ab.deep r v d hv hr (fun _ _=>trivial) (.inl fun _ _ _ _ _ _=>trivial),hk.keep.below.to⟩⟩
end Go.Ab
namespace Go.Ab
open Go.RowKit Go.Proofs
set_option maxHeartbeats 16000000
set_option maxRecDepth 20000
attribute [local irreducible] WalkL Walk
end Go.Ab
namespace Go.Ab
open Go.RowKit Go.Proofs
set_option maxHeartbeats 16000000
set_option maxRecDepth 20000
attribute [local irreducible] WalkL Walk
theorem zf20 (k:Kitchen) (M C:List (List Int)) (hs:KitSmall k) (hM:M.length<2 ^ 30) (hMr:∀ r ∈ M,r.length<2 ^ 30) (hC:C.length<2 ^ 30) (hCr:∀ r ∈ C,r.length<2 ^ 30) :
  Fn Tryz.prog 20 [.agg k.cells,.sl (listRows M),.sl (listRows C)] (.tup [.i ((cookP k M C).2.2.1:Nat),.bool ((cookP k M C).2.2.2 == 0)]):=by
 have h29:=zf29 k M C hs hM hMr hC hCr
 obtain ⟨⟨L,w,d,e⟩,hL⟩:∃ P,P=cookP k M C:=⟨_,rfl⟩
 rw [← hL] at h29 ⊢
 dsimp only at h29 ⊢
 rw [Kitchen.cells] at h29 ⊢
 refine z14 24 Tryz.call20 Tryz.func20 rfl (by decide) fun J=>?_
 simp (maxSteps:=4000000) only [go_sem,St.start,Tryz.ntmps20,Tryz.results20]
 repeat (first | refine nx ?_ | (refine z10 fun K hK=>?_;simp (maxSteps:=4000000) only [go_sem];(repeat (first | (refine ⟨_,.lent (hf:=h29) (hd:=rfl) (hr:=rfl),?_⟩;simp (maxSteps:=4000000) only [go_sem]) | (refine ⟨_,.given (hf:=h29) (hd:=rfl) (ha:=rfl),?_⟩;simp (maxSteps:=4000000) only [go_sem])));refine hK _ ?_;clear hK K))
 simp (maxSteps:=4000000) only [go_sem]
theorem z431 {k:Kitchen} (hg:KitGood k) {ds:List Int} {c c':Nat→Int} (hd:DayOk k ds c') (good:Nat):∀ n,n≤ds.length→(∀ g,g<n→c g≤c' g)→needG k ds c good n≤needG k ds c' good n
 | 0,_,_=>Int.le_refl _
 | n + 1,hn,h=>by
  have ih:=z431 hg hd good n (by omega) fun g hg=>h g (by omega)
  obtain ⟨m,hm,hml⟩:=hd.dish n (by omega)
  have e:getI ds (n:Int)=m:=by rw [z216,List.getD_eq_getElem?_getD,hm];rfl
  have q:=z339 hg hml (good:Int)
  have:=Int.mul_le_mul_of_nonneg_left (h n (by omega)) q.1
  rw [needG,needG,e]
  omega
theorem z630 {f f':Nat→Int}:∀ c t,(∀ i,t≤i→i<t + c→f i≤f' i)→sumF f t c≤sumF f' t c
 | 0,_,_=>Int.le_refl _
 | c + 1,t,h=>by
  have:=h t (Nat.le_refl _) (by omega)
  have:=z630 (f:=f) (f':=f') c (t + 1) fun i h1 h2=>h i (by omega) (by omega)
  rw [sumF,sumF];omega
theorem z1027 {k:Kitchen} (hg:KitGood k) {M:List (List Int)} (hM:shapedB (menuB k) M k.days=true) {c c':Nat→Nat→Int} (hc:CntOk k c) (hc':CntOk k c') (h:∀ d g,d<k.days.length→g<(k.days.getD d []).length→c d g≤c' d g) :
  lastD k M c' M.length≤lastD k M c M.length:=by
 have hle:=z877 k M c' M.length
 rw [z1104 hle,z35 hg hM hc hle]
 have h1:=(z35 hg hM hc' hle).1 (z246 k M c' M.length)
 intro g hgl t h2 h3
 refine Int.le_trans (z630 _ _ fun i hi1 hi2=>?_) (h1 g hgl t h2 h3)
 obtain ⟨r,hr⟩:∃ r,M[i]?=some r:=⟨_,List.getElem?_eq_getElem (by omega)⟩
 obtain ⟨p1,p2,p3⟩:=z157 hg hM hc' hr
 have e:∀ c:Nat→Nat→Int,getI (needD k M c i) (g:Int)=needG k r (c i) g r.length:=fun c=>by
  rw [needD,List.getD_eq_getElem?_getD,hr,Option.getD_some,needL,z216,List.getD_eq_getElem?_getD,List.getElem?_map,List.getElem?_range hgl]
  rfl
 dsimp only
 rw [e,e]
 exact z431 hg p3 g r.length (Nat.le_refl _) fun q hq=>h i q p1 (by omega)
theorem z856 {k:Kitchen} {C:List (List Int)} (hC:shapedB countB C k.days=true) {d g:Nat} (hd:d<k.days.length) (hgl:g<(k.days.getD d []).length):(dinAt k d g).count.lo≤cntOf C d g∧cntOf C d g≤(dinAt k d g).count.hi:=by
 have hl:=z50 hC
 obtain ⟨r,hr⟩:∃ r,C[d]?=some r:=⟨_,List.getElem?_eq_getElem (by omega)⟩
 obtain ⟨x,hx,hro⟩:=z161 hC hr
 have e:k.days.getD d []=x:=by rw [List.getD_eq_getElem?_getD,hx];rfl
 rw [e] at hgl
 have hrl:=z82 hro
 obtain ⟨n,hn⟩:∃ n,r[g]?=some n:=⟨_,List.getElem?_eq_getElem (by omega)⟩
 obtain ⟨y,hy,hq⟩:=z278 hro hn
 have hw:=z28.1 hq
 have e2:cntOf C d g=n:=by rw [cntOf,List.getD_eq_getElem?_getD,hr,Option.getD_some,z216,List.getD_eq_getElem?_getD,hn];rfl
 have e3:dinAt k d g=y:=by rw [dinAt,e,List.getD_eq_getElem?_getD,hy];rfl
 rw [e2,e3]
 exact hw
theorem z1016 {s:Supply} {c n:Int} (hz:(nextP s c n).2.2=0):suppE s=0:=by
 by_cases h:suppE s=0
 ·exact h
 ·unfold nextP openS6 at hz
  simp only [if_neg h] at hz
  exact absurd hz h
theorem z951 {s:Supply} {c n:Int} (hz:(nextP s c n).2.2=0):0≤(nextP s c n).1∧(nextP s c n).1≤48:=by
 have h1:=z1016 hz
 obtain ⟨hask,hlim,hwn,he,h0⟩:=z1017 h1 hz
 obtain ⟨hg,hsi,hpo,_,_⟩:=z181 (z305 h1)
 have hw1:=z28.1 hwn
 obtain ⟨N,rfl⟩:∃ N:Nat,n=(N:Int):=⟨n.toNat,by omega⟩
 have hN:1≤N:=by omega
 obtain ⟨L,hL⟩:∃ L,L=(s.carr.getD c.toNat ⟨0,0,0,⟨0,0,⟨0,0⟩⟩⟩).lim:=⟨_,rfl⟩
 rw [← hL] at hlim
 have hW1:(nextW s c N).2.1=if winNever L N (scensOf (possL s.scen s.seen)) then -1 else winLast L N (scensOf (possL s.scen s.seen)):=by
  rw [nextW,← hL,windowF,hlim,hwn,if_pos (z305 h1)]
 rw [hW1] at h0 he
 have hnv:winNever L N (scensOf (possL s.scen s.seen))=false:=by
  cases hv:winNever L N (scensOf (possL s.scen s.seen)) with
  | false=>rfl
  | true=>rw [hv] at h0;simp at h0
 rw [hnv] at h0 he
 simp only [Bool.false_eq_true,if_false] at h0 he
 have z35:∀ x ∈ scensOf (possL s.scen s.seen),0≤beginsF (x.map (alwaysB L)) N:=fun x hx=>by
  rw [winNever,List.any_eq_false] at hnv
  have:=hnv x hx
  simp at this
  exact this
 have h48:winLast L N (scensOf (possL s.scen s.seen))≤48:=z421.2 ⟨by decide,fun x hx=>by
  have hb:=z253 hN (z35 x hx)
  obtain ⟨l,hl,_,rfl⟩:=z944.1 hx
  rw [List.length_map,z99,hg.len l hl] at hb
  have:=hg.hours
  omega⟩
 rw [he]
 exact ⟨h0,h48⟩
theorem z1166 {a:Int} (h0:0≤a) (hb:a≤48):24 * daysP a ≥ a∧24 * (daysP a - 1)<a∧0≤daysP a∧daysP a≤3:=by
 have e:daysP a=(a + 23) / 24:=by
  rw [daysP,z18 (x:=a + 23) (by omega),Int.tdiv_eq_ediv_of_nonneg (by omega),z18 (by omega)]
 rw [e]
 omega
def waitCells (s:Supply) (c n:Int):List DV:=[.sl (scenRows s.scen),.sl (sightRows s.seen),.i s.stock,.i s.reserve,.i s.room,.i s.use.lo,.i s.use.hi,.sl (carrRows s.carr),.i c,.i n]
theorem zf4 (k:Kitchen) (M C:List (List Int)) (no:Int) (s:Supply) (c n:Int) (hk:KitSmall k) (hM:M.length<2 ^ 30) (hMr:∀ r ∈ M,r.length<2 ^ 30) (hC:C.length<2 ^ 30) (hCr:∀ r ∈ C,r.length<2 ^ 30) (hs:SuppSmall s) :
  Fn Tryz.prog 4 [.agg k.cells,.agg [.sl (listRows M),.sl (listRows C),.i no],.agg (waitCells s c n)] (.bool true):=by
 have h15:=zf15 k hk
 have h7:=zf7 M hM
 have h7b:=zf7 C hC
 have h8:=zf8 s hs
 have h9:=zf9
 rw [Supply.cells] at h8
 cases q1:readyB k with
 | false =>
  rw [q1] at h15
  rw [Kitchen.cells] at h15 ⊢
  refine z14 136 Tryz.call4 Tryz.func4 rfl (by decide) fun J=>?_
  simp (maxSteps:=4000000) only [go_sem,St.start,Tryz.ntmps4,Tryz.results4,waitCells]
  repeat (first | refine z12 rfl ?_ | refine z11 rfl ?_ | refine nx ?_ | (refine z10 fun K hK=>?_;simp (maxSteps:=4000000) only [go_sem];(repeat (first | (refine ⟨_,.lent (hf:=h15) (hd:=rfl) (hr:=rfl),?_⟩;simp (maxSteps:=4000000) only [go_sem]) | (refine ⟨_,.lent (hf:=h9) (hd:=rfl) (hr:=rfl),?_⟩;simp (maxSteps:=4000000) only [go_sem]) | (refine ⟨_,.given (hf:=h15) (hd:=rfl) (ha:=rfl),?_⟩;simp (maxSteps:=4000000) only [go_sem]) | (refine ⟨_,.given (hf:=h9) (hd:=rfl) (ha:=rfl),?_⟩;simp (maxSteps:=4000000) only [go_sem])));refine hK _ ?_;clear hK K))
  simp (maxSteps:=4000000) only [go_sem]
 | true =>
 rw [q1] at h15
 cases q2:farRows M with
 | true =>
  rw [q2] at h7
  rw [Kitchen.cells] at h15 ⊢
  refine z14 136 Tryz.call4 Tryz.func4 rfl (by decide) fun J=>?_
  simp (maxSteps:=4000000) only [go_sem,St.start,Tryz.ntmps4,Tryz.results4,waitCells]
  repeat (first | refine z12 rfl ?_ | refine z11 rfl ?_ | refine nx ?_ | (refine z10 fun K hK=>?_;simp (maxSteps:=4000000) only [go_sem];(repeat (first | (refine ⟨_,.lent (hf:=h15) (hd:=rfl) (hr:=rfl),?_⟩;simp (maxSteps:=4000000) only [go_sem]) | (refine ⟨_,.lent (hf:=h7) (hd:=rfl) (hr:=rfl),?_⟩;simp (maxSteps:=4000000) only [go_sem]) | (refine ⟨_,.lent (hf:=h9) (hd:=rfl) (hr:=rfl),?_⟩;simp (maxSteps:=4000000) only [go_sem]) | (refine ⟨_,.given (hf:=h15) (hd:=rfl) (ha:=rfl),?_⟩;simp (maxSteps:=4000000) only [go_sem]) | (refine ⟨_,.given (hf:=h7) (hd:=rfl) (ha:=rfl),?_⟩;simp (maxSteps:=4000000) only [go_sem]) | (refine ⟨_,.given (hf:=h9) (hd:=rfl) (ha:=rfl),?_⟩;simp (maxSteps:=4000000) only [go_sem])));refine hK _ ?_;clear hK K))
  simp (maxSteps:=4000000) only [go_sem]
 | false =>
 rw [q2] at h7
 cases q3:farRows C with
 | true =>
  rw [q3] at h7b
  rw [Kitchen.cells] at h15 ⊢
  refine z14 136 Tryz.call4 Tryz.func4 rfl (by decide) fun J=>?_
  simp (maxSteps:=4000000) only [go_sem,St.start,Tryz.ntmps4,Tryz.results4,waitCells]
  repeat (first | refine z12 rfl ?_ | refine z11 rfl ?_ | refine nx ?_ | (refine z10 fun K hK=>?_;simp (maxSteps:=4000000) only [go_sem];(repeat (first | (refine ⟨_,.lent (hf:=h15) (hd:=rfl) (hr:=rfl),?_⟩;simp (maxSteps:=4000000) only [go_sem]) | (refine ⟨_,.lent (hf:=h7) (hd:=rfl) (hr:=rfl),?_⟩;simp (maxSteps:=4000000) only [go_sem]) | (refine ⟨_,.lent (hf:=h7b) (hd:=rfl) (hr:=rfl),?_⟩;simp (maxSteps:=4000000) only [go_sem]) | (refine ⟨_,.lent (hf:=h9) (hd:=rfl) (hr:=rfl),?_⟩;simp (maxSteps:=4000000) only [go_sem]) | (refine ⟨_,.given (hf:=h15) (hd:=rfl) (ha:=rfl),?_⟩;simp (maxSteps:=4000000) only [go_sem]) | (refine ⟨_,.given (hf:=h7) (hd:=rfl) (ha:=rfl),?_⟩;simp (maxSteps:=4000000) only [go_sem]) | (refine ⟨_,.given (hf:=h7b) (hd:=rfl) (ha:=rfl),?_⟩;simp (maxSteps:=4000000) only [go_sem]) | (refine ⟨_,.given (hf:=h9) (hd:=rfl) (ha:=rfl),?_⟩;simp (maxSteps:=4000000) only [go_sem])));refine hK _ ?_;clear hK K))
  simp (maxSteps:=4000000) only [go_sem]
 | false =>
 rw [q3] at h7b
 cases q4:farSup s with
 | true =>
  rw [q4] at h8
  rw [Kitchen.cells] at h15 ⊢
  refine z14 136 Tryz.call4 Tryz.func4 rfl (by decide) fun J=>?_
  simp (maxSteps:=4000000) only [go_sem,St.start,Tryz.ntmps4,Tryz.results4,waitCells]
  repeat (first | refine z12 rfl ?_ | refine z11 rfl ?_ | refine nx ?_ | (refine z10 fun K hK=>?_;simp (maxSteps:=4000000) only [go_sem];(repeat (first | (refine ⟨_,.lent (hf:=h15) (hd:=rfl) (hr:=rfl),?_⟩;simp (maxSteps:=4000000) only [go_sem]) | (refine ⟨_,.lent (hf:=h7) (hd:=rfl) (hr:=rfl),?_⟩;simp (maxSteps:=4000000) only [go_sem]) | (refine ⟨_,.lent (hf:=h7b) (hd:=rfl) (hr:=rfl),?_⟩;simp (maxSteps:=4000000) only [go_sem]) | (refine ⟨_,.lent (hf:=h8) (hd:=rfl) (hr:=rfl),?_⟩;simp (maxSteps:=4000000) only [go_sem]) | (refine ⟨_,.lent (hf:=h9) (hd:=rfl) (hr:=rfl),?_⟩;simp (maxSteps:=4000000) only [go_sem]) | (refine ⟨_,.given (hf:=h15) (hd:=rfl) (ha:=rfl),?_⟩;simp (maxSteps:=4000000) only [go_sem]) | (refine ⟨_,.given (hf:=h7) (hd:=rfl) (ha:=rfl),?_⟩;simp (maxSteps:=4000000) only [go_sem]) | (refine ⟨_,.given (hf:=h7b) (hd:=rfl) (ha:=rfl),?_⟩;simp (maxSteps:=4000000) only [go_sem]) | (refine ⟨_,.given (hf:=h8) (hd:=rfl) (ha:=rfl),?_⟩;simp (maxSteps:=4000000) only [go_sem]) | (refine ⟨_,.given (hf:=h9) (hd:=rfl) (ha:=rfl),?_⟩;simp (maxSteps:=4000000) only [go_sem])));refine hK _ ?_;clear hK K))
  simp (maxSteps:=4000000) only [go_sem]
 | false =>
 rw [q4] at h8
 have hr:=q1
 simp only [readyB,Bool.and_eq_true,beq_iff_eq] at hr
 have h0:=hr.2
 have hg:KitGood k:=z183 (z170.1 h0)
 have h16:=zf16 k hg M hM hMr
 have h17:=zf17 k hg C hC hCr
 cases q5:shapedB (menuB k) M k.days with
 | false =>
  rw [q5] at h16
  rw [Kitchen.cells] at h15 h16 ⊢
  refine z14 136 Tryz.call4 Tryz.func4 rfl (by decide) fun J=>?_
  simp (maxSteps:=4000000) only [go_sem,St.start,Tryz.ntmps4,Tryz.results4,waitCells]
  repeat (first | refine z12 rfl ?_ | refine z11 rfl ?_ | refine nx ?_ | (refine z10 fun K hK=>?_;simp (maxSteps:=4000000) only [go_sem];(repeat (first | (refine ⟨_,.lent (hf:=h15) (hd:=rfl) (hr:=rfl),?_⟩;simp (maxSteps:=4000000) only [go_sem]) | (refine ⟨_,.lent (hf:=h7) (hd:=rfl) (hr:=rfl),?_⟩;simp (maxSteps:=4000000) only [go_sem]) | (refine ⟨_,.lent (hf:=h7b) (hd:=rfl) (hr:=rfl),?_⟩;simp (maxSteps:=4000000) only [go_sem]) | (refine ⟨_,.lent (hf:=h8) (hd:=rfl) (hr:=rfl),?_⟩;simp (maxSteps:=4000000) only [go_sem]) | (refine ⟨_,.lent (hf:=h16) (hd:=rfl) (hr:=rfl),?_⟩;simp (maxSteps:=4000000) only [go_sem]) | (refine ⟨_,.lent (hf:=h9) (hd:=rfl) (hr:=rfl),?_⟩;simp (maxSteps:=4000000) only [go_sem]) | (refine ⟨_,.given (hf:=h15) (hd:=rfl) (ha:=rfl),?_⟩;simp (maxSteps:=4000000) only [go_sem]) | (refine ⟨_,.given (hf:=h7) (hd:=rfl) (ha:=rfl),?_⟩;simp (maxSteps:=4000000) only [go_sem]) | (refine ⟨_,.given (hf:=h7b) (hd:=rfl) (ha:=rfl),?_⟩;simp (maxSteps:=4000000) only [go_sem]) | (refine ⟨_,.given (hf:=h8) (hd:=rfl) (ha:=rfl),?_⟩;simp (maxSteps:=4000000) only [go_sem]) | (refine ⟨_,.given (hf:=h16) (hd:=rfl) (ha:=rfl),?_⟩;simp (maxSteps:=4000000) only [go_sem]) | (refine ⟨_,.given (hf:=h9) (hd:=rfl) (ha:=rfl),?_⟩;simp (maxSteps:=4000000) only [go_sem])));refine hK _ ?_;clear hK K))
  simp (maxSteps:=4000000) only [go_sem]
 | true =>
 rw [q5] at h16
 cases q6:shapedB countB C k.days with
 | false =>
  rw [q6] at h17
  rw [Kitchen.cells] at h15 h16 h17 ⊢
  refine z14 136 Tryz.call4 Tryz.func4 rfl (by decide) fun J=>?_
  simp (maxSteps:=4000000) only [go_sem,St.start,Tryz.ntmps4,Tryz.results4,waitCells]
  repeat (first | refine z12 rfl ?_ | refine z11 rfl ?_ | refine nx ?_ | (refine z10 fun K hK=>?_;simp (maxSteps:=4000000) only [go_sem];(repeat (first | (refine ⟨_,.lent (hf:=h15) (hd:=rfl) (hr:=rfl),?_⟩;simp (maxSteps:=4000000) only [go_sem]) | (refine ⟨_,.lent (hf:=h7) (hd:=rfl) (hr:=rfl),?_⟩;simp (maxSteps:=4000000) only [go_sem]) | (refine ⟨_,.lent (hf:=h7b) (hd:=rfl) (hr:=rfl),?_⟩;simp (maxSteps:=4000000) only [go_sem]) | (refine ⟨_,.lent (hf:=h8) (hd:=rfl) (hr:=rfl),?_⟩;simp (maxSteps:=4000000) only [go_sem]) | (refine ⟨_,.lent (hf:=h16) (hd:=rfl) (hr:=rfl),?_⟩;simp (maxSteps:=4000000) only [go_sem]) | (refine ⟨_,.lent (hf:=h17) (hd:=rfl) (hr:=rfl),?_⟩;simp (maxSteps:=4000000) only [go_sem]) | (refine ⟨_,.lent (hf:=h9) (hd:=rfl) (hr:=rfl),?_⟩;simp (maxSteps:=4000000) only [go_sem]) | (refine ⟨_,.given (hf:=h15) (hd:=rfl) (ha:=rfl),?_⟩;simp (maxSteps:=4000000) only [go_sem]) | (refine ⟨_,.given (hf:=h7) (hd:=rfl) (ha:=rfl),?_⟩;simp (maxSteps:=4000000) only [go_sem]) | (refine ⟨_,.given (hf:=h7b) (hd:=rfl) (ha:=rfl),?_⟩;simp (maxSteps:=4000000) only [go_sem]) | (refine ⟨_,.given (hf:=h8) (hd:=rfl) (ha:=rfl),?_⟩;simp (maxSteps:=4000000) only [go_sem]) | (refine ⟨_,.given (hf:=h16) (hd:=rfl) (ha:=rfl),?_⟩;simp (maxSteps:=4000000) only [go_sem]) | (refine ⟨_,.given (hf:=h17) (hd:=rfl) (ha:=rfl),?_⟩;simp (maxSteps:=4000000) only [go_sem]) | (refine ⟨_,.given (hf:=h9) (hd:=rfl) (ha:=rfl),?_⟩;simp (maxSteps:=4000000) only [go_sem])));refine hK _ ?_;clear hK K))
  simp (maxSteps:=4000000) only [go_sem]
 | true =>
 rw [q6] at h17
 have hop:openK k M=0:=by rw [openK,if_pos h0,if_pos q5]
 have hce:cookE k M C=0:=by rw [cookE,if_pos hop,if_pos q6]
 have h10:=zf10 k M s c n hk hM hMr hs
 have h18:=zf18 s c n hs
 have h19:=zf19 k M hk hM hMr
 have h20:=zf20 k M C hk hM hMr hC hCr
 rw [if_pos hop] at h19
 rw [cookP,if_pos hce] at h20
 rw [enoughP,if_pos hop] at h10
 have hless:=z1027 hg q5 (z1128 hg q6) (z1034 hg) fun d g hd hgl=>(z856 q6 hd hgl).2
 change mostK k M≤_ at hless
 obtain ⟨hi,hhi⟩:∃ x,x=mostK k M:=⟨_,rfl⟩
 obtain ⟨lo,hlo⟩:∃ x,x=leastK k M:=⟨_,rfl⟩
 obtain ⟨dd,hdd⟩:∃ x,x=lastD k M (cntOf C) M.length:=⟨_,rfl⟩
 rw [← hhi] at h19 h10 hless
 rw [← hlo] at h19
 rw [← hdd] at h20 hless
 dsimp only at h20
 by_cases hz:(nextP s c n).2.2=0
 ·rw [if_pos hz] at h10
  obtain ⟨r0,r1⟩:=z951 hz
  obtain ⟨d1,d2,d3,d4⟩:=z1166 r0 r1
  obtain ⟨⟨a,b,e⟩,hP⟩:∃ x,nextP s c n=x:=⟨_,rfl⟩
  rw [hP] at h10 h18 r0 r1 d1 d2 d3 d4 hz
  dsimp only at h10 h18 r0 r1 d1 d2 d3 d4 hz
  subst hz
  obtain ⟨N,hN⟩:∃ N,N=daysP a:=⟨_,rfl⟩
  rw [← hN] at h10 d1 d2 d3 d4
  have w1:IntKind.i64.wrap (24 * N)=24 * N:=z18 (by omega)
  have w2:IntKind.i64.wrap (N - 1)=N - 1:=z18 (by omega)
  have w3:IntKind.i64.wrap (24 * (N - 1))=24 * (N - 1):=z18 (by omega)
  have c1:decide (24 * N ≥ a)=true:=decide_eq_true d1
  have c2:decide (24 * (N - 1)<a)=true:=decide_eq_true d2
  cases q7:decide (N≤(hi:Int)) with
  | false =>
   rw [q7] at h10
   have c3:decide ((hi:Int) ≥ N)=false:=q7
   rw [Supply.cells] at h10 h18
   rw [Kitchen.cells] at h15 h16 h17 h10 h19 h20 ⊢
   refine z14 136 Tryz.call4 Tryz.func4 rfl (by decide) fun J=>?_
   simp (maxSteps:=4000000) only [go_sem,St.start,Tryz.ntmps4,Tryz.results4,waitCells]
   repeat (first | refine z12 rfl ?_ | refine z11 rfl ?_ | refine nx ?_ | (refine z10 fun K hK=>?_;simp (maxSteps:=4000000) only [go_sem,w1,w2,w3,c1,c2,c3];(repeat (first | (refine ⟨_,.lent (hf:=h15) (hd:=rfl) (hr:=rfl),?_⟩;simp (maxSteps:=4000000) only [go_sem,w1,w2,w3,c1,c2,c3]) | (refine ⟨_,.lent (hf:=h7) (hd:=rfl) (hr:=rfl),?_⟩;simp (maxSteps:=4000000) only [go_sem,w1,w2,w3,c1,c2,c3]) | (refine ⟨_,.lent (hf:=h7b) (hd:=rfl) (hr:=rfl),?_⟩;simp (maxSteps:=4000000) only [go_sem,w1,w2,w3,c1,c2,c3]) | (refine ⟨_,.lent (hf:=h8) (hd:=rfl) (hr:=rfl),?_⟩;simp (maxSteps:=4000000) only [go_sem,w1,w2,w3,c1,c2,c3]) | (refine ⟨_,.lent (hf:=h16) (hd:=rfl) (hr:=rfl),?_⟩;simp (maxSteps:=4000000) only [go_sem,w1,w2,w3,c1,c2,c3]) | (refine ⟨_,.lent (hf:=h17) (hd:=rfl) (hr:=rfl),?_⟩;simp (maxSteps:=4000000) only [go_sem,w1,w2,w3,c1,c2,c3]) | (refine ⟨_,.lent (hf:=h10) (hd:=rfl) (hr:=rfl),?_⟩;simp (maxSteps:=4000000) only [go_sem,w1,w2,w3,c1,c2,c3]) | (refine ⟨_,.lent (hf:=h18) (hd:=rfl) (hr:=rfl),?_⟩;simp (maxSteps:=4000000) only [go_sem,w1,w2,w3,c1,c2,c3]) | (refine ⟨_,.lent (hf:=h19) (hd:=rfl) (hr:=rfl),?_⟩;simp (maxSteps:=4000000) only [go_sem,w1,w2,w3,c1,c2,c3]) | (refine ⟨_,.lent (hf:=h20) (hd:=rfl) (hr:=rfl),?_⟩;simp (maxSteps:=4000000) only [go_sem,w1,w2,w3,c1,c2,c3]) | (refine ⟨_,.lent (hf:=h9) (hd:=rfl) (hr:=rfl),?_⟩;simp (maxSteps:=4000000) only [go_sem,w1,w2,w3,c1,c2,c3]) | (refine ⟨_,.given (hf:=h15) (hd:=rfl) (ha:=rfl),?_⟩;simp (maxSteps:=4000000) only [go_sem,w1,w2,w3,c1,c2,c3]) | (refine ⟨_,.given (hf:=h7) (hd:=rfl) (ha:=rfl),?_⟩;simp (maxSteps:=4000000) only [go_sem,w1,w2,w3,c1,c2,c3]) | (refine ⟨_,.given (hf:=h7b) (hd:=rfl) (ha:=rfl),?_⟩;simp (maxSteps:=4000000) only [go_sem,w1,w2,w3,c1,c2,c3]) | (refine ⟨_,.given (hf:=h8) (hd:=rfl) (ha:=rfl),?_⟩;simp (maxSteps:=4000000) only [go_sem,w1,w2,w3,c1,c2,c3]) | (refine ⟨_,.given (hf:=h16) (hd:=rfl) (ha:=rfl),?_⟩;simp (maxSteps:=4000000) only [go_sem,w1,w2,w3,c1,c2,c3]) | (refine ⟨_,.given (hf:=h17) (hd:=rfl) (ha:=rfl),?_⟩;simp (maxSteps:=4000000) only [go_sem,w1,w2,w3,c1,c2,c3]) | (refine ⟨_,.given (hf:=h10) (hd:=rfl) (ha:=rfl),?_⟩;simp (maxSteps:=4000000) only [go_sem,w1,w2,w3,c1,c2,c3]) | (refine ⟨_,.given (hf:=h18) (hd:=rfl) (ha:=rfl),?_⟩;simp (maxSteps:=4000000) only [go_sem,w1,w2,w3,c1,c2,c3]) | (refine ⟨_,.given (hf:=h19) (hd:=rfl) (ha:=rfl),?_⟩;simp (maxSteps:=4000000) only [go_sem,w1,w2,w3,c1,c2,c3]) | (refine ⟨_,.given (hf:=h20) (hd:=rfl) (ha:=rfl),?_⟩;simp (maxSteps:=4000000) only [go_sem,w1,w2,w3,c1,c2,c3]) | (refine ⟨_,.given (hf:=h9) (hd:=rfl) (ha:=rfl),?_⟩;simp (maxSteps:=4000000) only [go_sem,w1,w2,w3,c1,c2,c3])));refine hK _ ?_;clear hK K))
   simp (maxSteps:=4000000) only [go_sem]
  | true =>
   rw [q7] at h10
   have c3:decide ((hi:Int) ≥ N)=true:=q7
   have c4:decide ((dd:Int) ≥ N)=true:=decide_eq_true (by have:=of_decide_eq_true q7;omega)
   rw [Supply.cells] at h10 h18
   rw [Kitchen.cells] at h15 h16 h17 h10 h19 h20 ⊢
   refine z14 136 Tryz.call4 Tryz.func4 rfl (by decide) fun J=>?_
   simp (maxSteps:=4000000) only [go_sem,St.start,Tryz.ntmps4,Tryz.results4,waitCells]
   repeat (first | refine z12 rfl ?_ | refine z11 rfl ?_ | refine nx ?_ | (refine z10 fun K hK=>?_;simp (maxSteps:=4000000) only [go_sem,w1,w2,w3,c1,c2,c3,c4];(repeat (first | (refine ⟨_,.lent (hf:=h15) (hd:=rfl) (hr:=rfl),?_⟩;simp (maxSteps:=4000000) only [go_sem,w1,w2,w3,c1,c2,c3,c4]) | (refine ⟨_,.lent (hf:=h7) (hd:=rfl) (hr:=rfl),?_⟩;simp (maxSteps:=4000000) only [go_sem,w1,w2,w3,c1,c2,c3,c4]) | (refine ⟨_,.lent (hf:=h7b) (hd:=rfl) (hr:=rfl),?_⟩;simp (maxSteps:=4000000) only [go_sem,w1,w2,w3,c1,c2,c3,c4]) | (refine ⟨_,.lent (hf:=h8) (hd:=rfl) (hr:=rfl),?_⟩;simp (maxSteps:=4000000) only [go_sem,w1,w2,w3,c1,c2,c3,c4]) | (refine ⟨_,.lent (hf:=h16) (hd:=rfl) (hr:=rfl),?_⟩;simp (maxSteps:=4000000) only [go_sem,w1,w2,w3,c1,c2,c3,c4]) | (refine ⟨_,.lent (hf:=h17) (hd:=rfl) (hr:=rfl),?_⟩;simp (maxSteps:=4000000) only [go_sem,w1,w2,w3,c1,c2,c3,c4]) | (refine ⟨_,.lent (hf:=h10) (hd:=rfl) (hr:=rfl),?_⟩;simp (maxSteps:=4000000) only [go_sem,w1,w2,w3,c1,c2,c3,c4]) | (refine ⟨_,.lent (hf:=h18) (hd:=rfl) (hr:=rfl),?_⟩;simp (maxSteps:=4000000) only [go_sem,w1,w2,w3,c1,c2,c3,c4]) | (refine ⟨_,.lent (hf:=h19) (hd:=rfl) (hr:=rfl),?_⟩;simp (maxSteps:=4000000) only [go_sem,w1,w2,w3,c1,c2,c3,c4]) | (refine ⟨_,.lent (hf:=h20) (hd:=rfl) (hr:=rfl),?_⟩;simp (maxSteps:=4000000) only [go_sem,w1,w2,w3,c1,c2,c3,c4]) | (refine ⟨_,.lent (hf:=h9) (hd:=rfl) (hr:=rfl),?_⟩;simp (maxSteps:=4000000) only [go_sem,w1,w2,w3,c1,c2,c3,c4]) | (refine ⟨_,.given (hf:=h15) (hd:=rfl) (ha:=rfl),?_⟩;simp (maxSteps:=4000000) only [go_sem,w1,w2,w3,c1,c2,c3,c4]) | (refine ⟨_,.given (hf:=h7) (hd:=rfl) (ha:=rfl),?_⟩;simp (maxSteps:=4000000) only [go_sem,w1,w2,w3,c1,c2,c3,c4]) | (refine ⟨_,.given (hf:=h7b) (hd:=rfl) (ha:=rfl),?_⟩;simp (maxSteps:=4000000) only [go_sem,w1,w2,w3,c1,c2,c3,c4]) | (refine ⟨_,.given (hf:=h8) (hd:=rfl) (ha:=rfl),?_⟩;simp (maxSteps:=4000000) only [go_sem,w1,w2,w3,c1,c2,c3,c4]) | (refine ⟨_,.given (hf:=h16) (hd:=rfl) (ha:=rfl),?_⟩;simp (maxSteps:=4000000) only [go_sem,w1,w2,w3,c1,c2,c3,c4]) | (refine ⟨_,.given (hf:=h17) (hd:=rfl) (ha:=rfl),?_⟩;simp (maxSteps:=4000000) only [go_sem,w1,w2,w3,c1,c2,c3,c4]) | (refine ⟨_,.given (hf:=h10) (hd:=rfl) (ha:=rfl),?_⟩;simp (maxSteps:=4000000) only [go_sem,w1,w2,w3,c1,c2,c3,c4]) | (refine ⟨_,.given (hf:=h18) (hd:=rfl) (ha:=rfl),?_⟩;simp (maxSteps:=4000000) only [go_sem,w1,w2,w3,c1,c2,c3,c4]) | (refine ⟨_,.given (hf:=h19) (hd:=rfl) (ha:=rfl),?_⟩;simp (maxSteps:=4000000) only [go_sem,w1,w2,w3,c1,c2,c3,c4]) | (refine ⟨_,.given (hf:=h20) (hd:=rfl) (ha:=rfl),?_⟩;simp (maxSteps:=4000000) only [go_sem,w1,w2,w3,c1,c2,c3,c4]) | (refine ⟨_,.given (hf:=h9) (hd:=rfl) (ha:=rfl),?_⟩;simp (maxSteps:=4000000) only [go_sem,w1,w2,w3,c1,c2,c3,c4])));refine hK _ ?_;clear hK K))
   simp (maxSteps:=4000000) only [go_sem]
 ·rw [if_neg hz] at h10
  obtain ⟨⟨a,b,e⟩,hP⟩:∃ x,nextP s c n=x:=⟨_,rfl⟩
  rw [hP] at h10 h18 hz
  dsimp only at h10 h18 hz
  have n1:(e != e)=false:=by simp
  have n2:(e != 0)=true:=by simpa using hz
  rw [Supply.cells] at h10 h18
  rw [Kitchen.cells] at h15 h16 h17 h10 ⊢
  refine z14 136 Tryz.call4 Tryz.func4 rfl (by decide) fun J=>?_
  simp (maxSteps:=4000000) only [go_sem,St.start,Tryz.ntmps4,Tryz.results4,waitCells]
  repeat (first | refine z12 rfl ?_ | refine z11 rfl ?_ | refine nx ?_ | (refine z10 fun K hK=>?_;simp (maxSteps:=4000000) only [go_sem,n1,n2];(repeat (first | (refine ⟨_,.lent (hf:=h15) (hd:=rfl) (hr:=rfl),?_⟩;simp (maxSteps:=4000000) only [go_sem,n1,n2]) | (refine ⟨_,.lent (hf:=h7) (hd:=rfl) (hr:=rfl),?_⟩;simp (maxSteps:=4000000) only [go_sem,n1,n2]) | (refine ⟨_,.lent (hf:=h7b) (hd:=rfl) (hr:=rfl),?_⟩;simp (maxSteps:=4000000) only [go_sem,n1,n2]) | (refine ⟨_,.lent (hf:=h8) (hd:=rfl) (hr:=rfl),?_⟩;simp (maxSteps:=4000000) only [go_sem,n1,n2]) | (refine ⟨_,.lent (hf:=h16) (hd:=rfl) (hr:=rfl),?_⟩;simp (maxSteps:=4000000) only [go_sem,n1,n2]) | (refine ⟨_,.lent (hf:=h17) (hd:=rfl) (hr:=rfl),?_⟩;simp (maxSteps:=4000000) only [go_sem,n1,n2]) | (refine ⟨_,.lent (hf:=h10) (hd:=rfl) (hr:=rfl),?_⟩;simp (maxSteps:=4000000) only [go_sem,n1,n2]) | (refine ⟨_,.lent (hf:=h18) (hd:=rfl) (hr:=rfl),?_⟩;simp (maxSteps:=4000000) only [go_sem,n1,n2]) | (refine ⟨_,.lent (hf:=h9) (hd:=rfl) (hr:=rfl),?_⟩;simp (maxSteps:=4000000) only [go_sem,n1,n2]) | (refine ⟨_,.given (hf:=h15) (hd:=rfl) (ha:=rfl),?_⟩;simp (maxSteps:=4000000) only [go_sem,n1,n2]) | (refine ⟨_,.given (hf:=h7) (hd:=rfl) (ha:=rfl),?_⟩;simp (maxSteps:=4000000) only [go_sem,n1,n2]) | (refine ⟨_,.given (hf:=h7b) (hd:=rfl) (ha:=rfl),?_⟩;simp (maxSteps:=4000000) only [go_sem,n1,n2]) | (refine ⟨_,.given (hf:=h8) (hd:=rfl) (ha:=rfl),?_⟩;simp (maxSteps:=4000000) only [go_sem,n1,n2]) | (refine ⟨_,.given (hf:=h16) (hd:=rfl) (ha:=rfl),?_⟩;simp (maxSteps:=4000000) only [go_sem,n1,n2]) | (refine ⟨_,.given (hf:=h17) (hd:=rfl) (ha:=rfl),?_⟩;simp (maxSteps:=4000000) only [go_sem,n1,n2]) | (refine ⟨_,.given (hf:=h10) (hd:=rfl) (ha:=rfl),?_⟩;simp (maxSteps:=4000000) only [go_sem,n1,n2]) | (refine ⟨_,.given (hf:=h18) (hd:=rfl) (ha:=rfl),?_⟩;simp (maxSteps:=4000000) only [go_sem,n1,n2]) | (refine ⟨_,.given (hf:=h9) (hd:=rfl) (ha:=rfl),?_⟩;simp (maxSteps:=4000000) only [go_sem,n1,n2])));refine hK _ ?_;clear hK K))
  simp (maxSteps:=4000000) only [go_sem]
end Go.Ab
