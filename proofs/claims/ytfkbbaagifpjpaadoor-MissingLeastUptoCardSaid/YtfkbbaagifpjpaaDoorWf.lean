/- A walk engine over abstract states, and the contracts of the functions that the statement reaches: part 6. -/
import Derived.Test.YtfkbbaagifpjpaaDoorWe
set_option linter.unusedVariables false
set_option linter.unusedSimpArgs false
set_option linter.unnecessarySimpa false
namespace Go.Ab
open Go.RowKit Go.Proofs
set_option maxHeartbeats 4000000
theorem z1085:((List.range 32).all fun s=>(List.range 32).all fun t=>!(elems s).isPerm (elems t) || s == t)=true:=by decide +kernel
theorem z1185 {s t:Nat} (hs:s<32) (ht:t<32) (h:(elems s).Perm (elems t)):s=t:=by
 have:=List.all_eq_true.1 (List.all_eq_true.1 z1085 s (List.mem_range.2 hs)) t (List.mem_range.2 ht)
 rw [List.isPerm_iff.2 h] at this
 simpa using this
theorem z479 {l:List Nat} (h5:∀ i ∈ l,i<5):setOf l<32:=z958 (k:=5) l h5
theorem z1215 {l:List Nat} {s:Nat} (hs:s<32) (h:l.Perm (elems s)):setOf l=s:=by
 have hn:l.Nodup:=h.nodup_iff.2 (z232 s)
 have h5:∀ i ∈ l,i<5:=fun i hi=>z214 (h.mem_iff.1 hi)
 exact z1185 (z479 h5) hs ((z269 hn h5).symm.trans h)
theorem z1139:∀ (bs:List Nat) (ls:List (List Nat)) (s:Nat),bs≠[]→ls.length=bs.length→s<32→ls.flatten.Perm (elems s)→PartS bs s (ls.map setOf)
 | [],_,_,h,_,_,_=>absurd rfl h
 | [b],[],s,_,hl,_,_=>by simp at hl
 | [b],[l],s,_,_,hs,h=>by
  have h:l.Perm (elems s):=by simpa using h
  rw [PartS,List.map_cons,List.map_nil,z1215 hs h]
 | [b],_::_::_,s,_,hl,_,_=>by simp at hl
 | b::c::t,[],s,_,hl,_,_=>by simp at hl
 | b::c::t,l::ls,s,_,hl,hs,h=>by
  rw [List.flatten_cons] at h
  have hn:(l++ls.flatten).Nodup:=h.nodup_iff.2 (z232 s)
  have hn1:=(List.nodup_append.1 hn).1
  have h5:∀ i ∈ l,i<5:=fun i hi=>z214 (h.mem_iff.1 (by simp [hi]))
  have hand:setOf l &&& s=setOf l:=by
   apply Nat.eq_of_testBit_eq
   intro i
   rw [Nat.testBit_and,z348]
   by_cases hi:i ∈ l
   ·have:i ∈ elems s:=h.mem_iff.1 (by simp [hi])
    rw [elems,List.mem_filter] at this
    simp [hi,this.2]
   ·simp [hi]
  obtain⟨p1,p2,p3,p4⟩:=z41 hs hand
  refine⟨setOf l,ls.map setOf,rfl,hand,z1139 (c::t) ls (s - setOf l) (by simp) (by simpa using hl) p3 ?_⟩
  have h1:(l++ls.flatten).Perm (l++elems (s - setOf l)):=h.trans (p4.trans ((z269 hn1 h5).symm.append_right _))
  exact (List.perm_append_left_iff l).1 h1
theorem z1140:∀ (bs:List Nat) (s:Nat) (xs:List Nat),PartS bs s xs→s<32→xs.length=bs.length∧(∀ x ∈ xs,x<32∧∀ i ∈ elems x,i ∈ elems s)∧(xs.map elems).flatten.Perm (elems s)
 | [],_,_,h,_=>h.elim
 | [b],s,xs,h,hs=>by
  rw [PartS] at h
  subst h
  exact⟨rfl,fun x hx=>by simp at hx;subst hx;exact⟨hs,fun i hi=>hi⟩,by simp⟩
 | b::c::t,s,xs,h,hs=>by
  obtain⟨o,r,rfl,ho,hr⟩:=h
  obtain⟨p1,p2,p3,p4⟩:=z41 hs ho
  obtain⟨h1,h2,h3⟩:=z1140 (c::t) (s - o) r hr p3
  refine⟨by simp [h1],fun x hx=>?_,?_⟩
  ·rcases List.mem_cons.1 hx with rfl | hx
   ·exact⟨p2,fun i hi=>p4.mem_iff.2 (by simp [hi])⟩
   ·exact⟨(h2 x hx).1,fun i hi=>p4.mem_iff.2 (by simp [(h2 x hx).2 i hi])⟩
  ·rw [List.map_cons,List.flatten_cons]
   exact (h3.append_left _).trans p4.symm
theorem z965 {m:Nat} {F G:Mat} {S:List SpotT} (h:PlanB m F G S):∀ (bs:List Nat) (ls:List (List Nat)),(∀ b ∈ bs,b<m)→ls.flatten.Nodup→(∀ i ∈ ls.flatten,i<S.length)→reachS F S bs ls→sumV F S bs (ls.map setOf)≤costS F S bs ls
 | [],ls,_,_,_,_=>by rw [sumV.eq_def,costS.eq_def];simp
 | b::bs,[],_,_,_,_=>by simp [sumV,costS]
 | b::bs,l::ls,hb,hn,hi,hr=>by
  have hlen:=h.nice.spots.len
  rw [List.flatten_cons] at hn hi
  obtain⟨n1,n2,_⟩:=List.nodup_append.1 hn
  have hl:∀ i ∈ l,i<S.length:=fun i h=>hi i (by simp [h])
  have h5:∀ i ∈ l,i<5:=fun i h=>by have:=hl i h;omega
  have hm:=z714 h5
  have ih:=z965 h bs ls (fun x hx=>hb x (by simp [hx])) n2 (fun i h=>hi i (by simp [h])) hr.2
  have hle:=z385 h l b (setOf l) (hb b (by simp)) (z479 h5) (fun j hj=>hl j ((hm j).1 hj)) (z269 n1 h5) hr.1
  rw [List.map_cons,sumV,costS]
  omega
theorem z920 {m:Nat} {F G:Mat} {S:List SpotT} (h:PlanB m F G S) {bs:List Nat} {ls:List (List Nat)} (h0:bs≠[]) (hb:∀ b ∈ bs,b<m) (hp:PlansOk F S bs ls):(shareV F S bs (fullN S)).1≤costS F S bs ls:=by
 have hl5:=h.nice.spots.len
 have hf:=z176 hl5
 have he:elems (fullN S)=List.range S.length:=z215 _ hl5
 have hpart:=z1139 bs ls (fullN S) h0 hp.len hf (by rw [he];exact hp.all)
 have h1:=(z189 h bs (fullN S) h0 hb hf (z121 _ hl5)).2.1 _ hpart
 have h2:=z965 h bs ls hb (hp.all.nodup_iff.2 List.nodup_range) (fun i hi=>List.mem_range.1 (hp.all.mem_iff.1 hi)) hp.reach
 omega
def ordersV (F:Mat) (S:List SpotT):List Nat→List Nat→List (List Nat)
 | b::bs,x::xs=>orderV F S 5 b x::ordersV F S bs xs
 | _,_=>[]
theorem z470 {m:Nat} {F G:Mat} {S:List SpotT} (h:PlanB m F G S):∀ (bs xs:List Nat),(∀ b ∈ bs,b<m)→(∀ x ∈ xs,x<32∧∀ i ∈ elems x,i<S.length)→0≤sumV F S bs xs
 | [],xs,_,_=>by rw [sumV.eq_def];simp
 | b::bs,[],_,_=>by simp [sumV]
 | b::bs,x::xs,hb,hx=>by
  have h1:=z162 h (hb b (by simp)) (hx x (by simp)).1 (hx x (by simp)).2
  have h2:=z470 h bs xs (fun c hc=>hb c (by simp [hc])) (fun y hy=>hx y (by simp [hy]))
  rw [sumV]
  omega
theorem z726 {m:Nat} {F G:Mat} {S:List SpotT} (h:PlanB m F G S):∀ (bs xs:List Nat) (M:MemB),(∀ b ∈ bs,b<m)→xs.length=bs.length→(∀ x ∈ xs,x<32∧∀ i ∈ elems x,i<S.length)→sumV F S bs xs<farW→SoundB F S M →
  OrdsOk F S bs xs M∧ordersM F S bs xs M=(ordersV F S bs xs).map natsI∧reachS F S bs (ordersV F S bs xs)∧costS F S bs (ordersV F S bs xs)=sumV F S bs xs∧(ordersV F S bs xs).flatten.Perm (xs.map elems).flatten∧(ordersV F S bs xs).length=bs.length
 | [],[],M,_,_,_,_,_=>⟨trivial,rfl,trivial,rfl,.refl _,rfl⟩
 | [],x::xs,M,_,hl,_,_,_=>by simp at hl
 | b::bs,[],M,_,hl,_,_,_=>by simp at hl
 | b::bs,x::xs,M,hb,hl,hx,hc,hM=>by
  have hbb:=hb b (by simp)
  obtain⟨hx1,hx2⟩:=hx x (by simp)
  have hb':∀ c ∈ bs,c<m:=fun c hc=>hb c (by simp [hc])
  have hx':∀ y ∈ xs,y<32∧∀ i ∈ elems y,i<S.length:=fun y hy=>hx y (by simp [hy])
  have h1:=z162 h hbb hx1 hx2
  have h2:=z470 h bs xs hb' hx'
  rw [sumV] at hc
  have hcb:(bestV F S 5 b x).1<farW:=by omega
  obtain⟨o1,o2,o3,_⟩:=z83 h 5 b x hbb hx1 hx2 (z19 x hx1) hcb
  obtain⟨e1,e2⟩:=z574 h 5 b x M hbb hx1 hx2 (z19 x hx1) hM hcb
  obtain⟨g1,g2,g3,g4,g5,g6⟩:=z726 h bs xs (orderM F S 5 b x M).2 hb' (by simpa using hl) hx' (by omega) e2
  refine⟨⟨⟨hx1,hx2⟩,z1143 h.nice 5 b x M hbb hx1 hx2 (z19 x hx1) hM hcb,g1⟩,?_,⟨o2,g3⟩,?_,?_,by rw [ordersV,List.length_cons,g6,List.length_cons]⟩
  ·rw [ordersM,ordersV,List.map_cons,g2,e1];rfl
  ·rw [ordersV,costS,sumV,g4,o3]
  ·rw [ordersV,List.flatten_cons,List.map_cons,List.flatten_cons]
   exact o1.append g5
theorem z236 {n:Net} {p:Party} {bases:List Int} {S:List SpotT} (h:readyE n p bases S=0) (hl:S.length≤5) (h5:n.places≤5) :
  ((shareT (allM n p) S bases).1.1<farW→OrdsOk (allM n p) S (bases.map Int.toNat) (shareT (allM n p) S bases).1.2 (shareT (allM n p) S bases).2) ∧
  ((farW≤(shareV (allM n p) S (bases.map Int.toNat) (fullN S)).1∧teamsC n p (allM n p) bases S=([],0,3)∧teamsD n p bases S=(0,3)) ∨
   ((shareV (allM n p) S (bases.map Int.toNat) (fullN S)).1<farW∧∃ ls,teamsC n p (allM n p) bases S=(ls.map natsI,(shareV (allM n p) S (bases.map Int.toNat) (fullN S)).1,0)∧PlansOk (allM n p) S (bases.map Int.toNat) ls ∧
     costS (allM n p) S (bases.map Int.toNat) ls=(shareV (allM n p) S (bases.map Int.toNat) (fullN S)).1∧teamsD n p bases S=((shareV (allM n p) S (bases.map Int.toNat) (fullN S)).1,0))):=by
 have hP:=z966 h hl h5
 obtain⟨hn,hp,hlen,hsp,hbl,hbs⟩:=z108 h
 have hf:=z176 hl
 have hfi:=z121 _ hl
 have he:elems (fullN S)=List.range S.length:=z215 _ hl
 have hnw:neverW=1073741824:=rfl
 have hfw:farW=1099511627776:=rfl
 have hb0:bases.map Int.toNat≠[]:=by intro hh;have:=congrArg List.length hh;simp at this;subst this;simp at hbl
 have hbm:∀ b ∈ bases.map Int.toNat,b<n.places.toNat:=by
  intro b hb
  obtain⟨c,hc,rfl⟩:=List.mem_map.1 hb
  have:=hbs c hc
  omega
 have hl1:=z189 hP (bases.map Int.toNat) (fullN S) hb0 hbm hf hfi
 obtain⟨s1,s2⟩:=z476 (F:=allM n p) (S:=S) (bases.map Int.toNat) (fullN S) ([],0) hf (fun e he=>by simp at he)
 have hsame:=z477 hP (bases.map Int.toNat) (fullN S) hb0 hbm hf hfi
 have e1:teamsC n p (allM n p) bases S=if (shareT (allM n p) S bases).1.1 ≥ farW then ([],0,3) else (ordersM (allM n p) S (bases.map Int.toNat) (shareT (allM n p) S bases).1.2 (shareT (allM n p) S bases).2,(shareT (allM n p) S bases).1.1,0):=by
  unfold teamsC
  exact if_neg (fun hh=>hh h)
 have e2:teamsD n p bases S=if shareD (allR n p) S (bases.map Int.toNat) (fullN S) ≥ neverW then (0,3) else (shareD (allR n p) S (bases.map Int.toNat) (fullN S),0):=by
  unfold teamsD
  exact if_neg (fun hh=>hh h)
 rw [e1,e2,hsame,shareT,s1]
 have hlenf:=z19 (fullN S) hf
 by_cases hc:(shareV (allM n p) S (bases.map Int.toNat) (fullN S)).1<farW
 ·obtain⟨q1,q2⟩:=hl1.2.2 hc
  obtain⟨r1,r2,r3⟩:=z1140 _ _ _ q1 hf
  obtain⟨g1,g2,g3,g4,g5,g6⟩:=z726 hP (bases.map Int.toNat) _ (shareM (allM n p) S (bases.map Int.toNat) (fullN S) ([],0)).2 hbm r1 (fun x hx=>⟨(r2 x hx).1,fun i hi=>hfi i ((r2 x hx).2 i hi)⟩) (by omega) s2
  refine⟨fun _=>g1,.inr ⟨hc,_,?_,⟨g6,?_,g3⟩,by rw [g4,q2],?_⟩⟩
  ·rw [if_neg (by omega),g2]
  ·rw [← he];exact g5.trans r3
  ·rw [if_pos hc,if_neg (by omega)]
 ·refine⟨fun hh=>absurd hh hc,.inl ⟨by omega,?_,?_⟩⟩
  ·rw [if_pos (by omega)]
  ·rw [if_neg hc,if_pos (by omega)]
end Go.Ab
namespace Go.Ab
open Go.RowKit Go.Proofs
set_option maxHeartbeats 4000000
theorem z462:∀ bs:List Nat,bs≠[]→PartS bs 0 (List.replicate bs.length 0)
 | [],h=>absurd rfl h
 | [b],_=>rfl
 | b::c::t,_=>⟨0,List.replicate (c::t).length 0,rfl,by decide,z462 (c::t) (by simp)⟩
theorem z598 (F:Mat) (S:List SpotT):∀ bs:List Nat,sumV F S bs (List.replicate bs.length 0)=0
 | []=>rfl
 | b::bs=>by
  have e:List.replicate (b::bs).length 0=0::List.replicate bs.length 0:=rfl
  rw [e,sumV,z598 F S bs,bestV,if_pos rfl]
  rfl
theorem z907 {m:Nat} {F G:Mat} {S:List SpotT} (h:PlanB m F G S) {b:Nat} {bs:List Nat} (hb:∀ c ∈ b::bs,c<m):(shareV F S (b::bs) (fullN S)).1≤(bestV F S 5 b (fullN S)).1:=by
 have hl5:=h.nice.spots.len
 have hf:=z176 hl5
 cases bs with
 | nil=>rw [shareV];exact Int.le_refl _
 | cons c t =>
  have hp:PartS (b::c::t) (fullN S) (fullN S::List.replicate (c::t).length 0):=⟨fullN S,List.replicate (c::t).length 0,rfl,Nat.and_self _,by rw [Nat.sub_self];exact z462 (c::t) (by simp)⟩
  have h1:=(z189 h (b::c::t) (fullN S) (by simp) hb hf (z121 _ hl5)).2.1 _ hp
  rw [sumV,z598] at h1
  omega
theorem z1145 {m:Nat} {F G:Mat} {S:List SpotT} (h:PlanB m F G S) {b:Nat} {ls:List (List Nat)} (hp:PlansOk F S [b] ls):∃ l,ls=[l]∧l.Perm (elems (fullN S))∧reachL F S b l∧costS F S [b] ls=costL F S b l:=by
 have he:elems (fullN S)=List.range S.length:=z215 _ h.nice.spots.len
 have h1:=hp.len
 match ls,h1 with
 | [l],_ =>
  refine⟨l,rfl,?_,hp.reach.1,by simp [costS]⟩
  rw [he]
  simpa using hp.all
theorem z1294 {n:Net} {p:Party} {b:Int} {S:List SpotT} (h:readyE n p [b] S=0) (hl:S.length≤5) (h5:n.places≤5) :
  planC n p (allM n p) b S=if (bestV (allM n p) S 5 b.toNat (fullN S)).1<farW then (natsI (orderV (allM n p) S 5 b.toNat (fullN S)),(bestV (allM n p) S 5 b.toNat (fullN S)).1,0) else ([],0,3):=by
 have hP:=z966 h hl h5
 obtain⟨hn,_,_,_,_,hb⟩:=z108 h
 have hb:=hb b (by simp)
 have hf:=z176 hl
 obtain⟨b1,b2⟩:=z87 (F:=allM n p) (S:=S) 5 b.toNat (fullN S) ([],0) hf (z19 _ hf) (Nat.le_refl _) (fun e he=>by simp at he)
 have e1:planC n p (allM n p) b S=if (bestP (allM n p) S b.toNat).1.1 ≥ farW then ([],0,3) else (orderP (allM n p) S b.toNat,(bestP (allM n p) S b.toNat).1.1,0):=by
  unfold planC
  exact if_neg (fun hh=>hh h)
 rw [e1,bestP,b1]
 by_cases hc:(bestV (allM n p) S 5 b.toNat (fullN S)).1<farW
 ·rw [if_neg (by omega),if_pos hc,orderP,bestP]
  have:=(z574 hP 5 b.toNat (fullN S) (bestM (allM n p) S 5 b.toNat (fullN S) ([],0)).2 (by omega) hf (z121 _ hl) (z19 _ hf) b2 hc).1
  rw [this]
  rfl
 ·rw [if_pos (by omega),if_neg hc]
theorem z1164 {n:Net} {p:Party} {bases:List Int} {S:List SpotT} {b0:Int} {bt:List Int} (h:readyE n p bases S=0) (hl:S.length≤5) (h5:n.places≤5) (hb0:bases=b0::bt) :
  readyE n p [b0] S=0∧OrdP (allM n p) S b0.toNat ∧
  ((bestV (allM n p) S 5 b0.toNat (fullN S)).1<farW→(shareV (allM n p) S (bases.map Int.toNat) (fullN S)).1<farW∧(shareV (allM n p) S (bases.map Int.toNat) (fullN S)).1≤(bestV (allM n p) S 5 b0.toNat (fullN S)).1 ∧
    sharedF (allR n p) S [b0.toNat] [natsI (orderV (allM n p) S 5 b0.toNat (fullN S))]=((bestV (allM n p) S 5 b0.toNat (fullN S)).1,true)) ∧
  (∀ yo c,sharedF (allR n p) S [b0.toNat] [yo]=(c,true)→(bestV (allM n p) S 5 b0.toNat (fullN S)).1<farW∧(bestV (allM n p) S 5 b0.toNat (fullN S)).1≤c∧(c=(bestV (allM n p) S 5 b0.toNat (fullN S)).1→earlierI yo (natsI (orderV (allM n p) S 5 b0.toNat (fullN S)))=false)) ∧
  (∀ os c,sharedF (allR n p) S (bases.map Int.toNat) os=(c,true)→(shareV (allM n p) S (bases.map Int.toNat) (fullN S)).1<farW∧(shareV (allM n p) S (bases.map Int.toNat) (fullN S)).1≤c):=by
 have hP:=z966 h hl h5
 obtain⟨hn,hp,hlen,hsp,hbl,hbs⟩:=z108 h
 have hf:=z176 hl
 have hfi:=z121 _ hl
 have hfw:farW=1099511627776:=rfl
 have hb:=hbs b0 (by rw [hb0];simp)
 have hbm:∀ b ∈ bases.map Int.toNat,b<n.places.toNat:=by
  intro b hb
  obtain⟨c,hc,rfl⟩:=List.mem_map.1 hb
  have:=hbs c hc
  omega
 have hr1:readyE n p [b0] S=0:=by
  rw [readyE,if_neg (fun hh=>hh (z110.2 ⟨hn,hp⟩)),if_neg]
  intro hbad
  rw [readyE,if_neg (fun hh=>hh (z110.2 ⟨hn,hp⟩))] at h
  split at h
  ·cases h
  ·rename_i hok
   simp only [badTeams,Bool.or_eq_true,not_or] at hbad hok
   obtain⟨k1,k2,k3,k4⟩:=hok
   rcases hbad with g | g | g | g
   ·exact k1 g
   ·exact k2 g
   ·simp [withinB] at g
   ·rw [hb0] at k4
    simp only [List.any_cons,List.any_nil,Bool.or_false] at g
    exact k4 (by simp [g])
 have hlf:=z19 (fullN S) hf
 have hle:=fun (l:List Nat) (h1:l.Perm (elems (fullN S))) (h2:reachL (allM n p) S b0.toNat l)=>And.intro (z385 hP l b0.toNat (fullN S) (by omega) hf hfi h1 h2) (z104 hP l b0.toNat (by rw [h1.length_eq];exact hlf) (fun i hi=>hfi i (h1.mem_iff.1 hi)) h2)
 refine⟨hr1,z1235 hr1 hl,fun hc=>?_,fun yo c hsh=>?_,fun os c hsh=>?_⟩
 ·obtain⟨o1,o2,o3,o4⟩:=z83 hP 5 b0.toNat (fullN S) (by omega) hf hfi hlf hc
  have hfirst:=z907 hP (b:=b0.toNat) (bs:=bt.map Int.toNat) (by rw [hb0] at hbm;simpa using hbm)
  have e:bases.map Int.toNat=b0.toNat::bt.map Int.toNat:=by rw [hb0];rfl
  rw [e]
  refine⟨by omega,hfirst,(z268 hP _ _ _).2 ⟨[orderV (allM n p) S 5 b0.toNat (fullN S)],rfl,⟨rfl,?_,⟨o2,trivial⟩⟩,by simp [costS,o3]⟩⟩
  have he:elems (fullN S)=List.range S.length:=z215 _ hl
  rw [← he]
  simpa using o1
 ·obtain⟨ls,g1,g2,g3⟩:=(z268 hP _ _ _).1 hsh
  obtain⟨l,rfl,q1,q2,q3⟩:=z1145 hP g2
  have hyo:yo=natsI l:=by simpa using g1
  obtain⟨h1,h2,h3⟩:=hle l q1 q2
  have hl5:(l.length:Int)≤5:=by have:=q1.length_eq;omega
  rw [q3] at g3
  have hc:(bestV (allM n p) S 5 b0.toNat (fullN S)).1<farW:=by omega
  refine⟨hc,by omega,fun hcc=>?_⟩
  obtain⟨o1,o2,o3,o4⟩:=z83 hP 5 b0.toNat (fullN S) (by omega) hf hfi hlf hc
  rw [hyo,z318]
  exact o4 l q1 q2 (by omega)
 ·obtain⟨ls,g1,g2,g3⟩:=(z268 hP _ _ _).1 hsh
  have hne:bases.map Int.toNat≠[]:=by rw [hb0];simp
  have h1:=z920 hP hne hbm g2
  have hsum:∀ (bs:List Nat) (ls:List (List Nat)),reachS (allM n p) S bs ls→(∀ l ∈ ls,l.length≤5)→(∀ l ∈ ls,∀ i ∈ l,i<S.length)→costS (allM n p) S bs ls≤481500000 * bs.length:=by
   intro bs
   induction bs with
   | nil=>intro ls _ _ _;rw [costS.eq_def];simp
   | cons b bs ih =>
    intro ls hr h5 hi
    cases ls with
    | nil=>simp [costS];omega
    | cons l ls =>
     have h1:=z104 hP l b (h5 l (by simp)) (hi l (by simp)) hr.1
     have h2:=ih ls hr.2 (fun l h=>h5 l (by simp [h])) (fun l h=>hi l (by simp [h]))
     have h3:=h5 l (by simp)
     rw [costS,List.length_cons]
     omega
  have hin:∀ l ∈ ls,l.length≤5∧∀ i ∈ l,i<S.length:=fun l hl2=>by
   have hsub:∀ i ∈ l,i ∈ ls.flatten:=fun i hi=>List.mem_flatten.2 ⟨l,hl2,hi⟩
   have h1:l.length≤ls.flatten.length:=by
    obtain⟨a,b,rfl⟩:=List.append_of_mem hl2
    simp;omega
   have h2:=g2.all.length_eq
   rw [List.length_range] at h2
   exact⟨by omega,fun i hi=>List.mem_range.1 (g2.all.mem_iff.1 (hsub i hi))⟩
  have h2:=hsum _ _ g2.reach (fun l h=>(hin l h).1) (fun l h=>(hin l h).2)
  rw [List.length_map] at h2
  omega
end Go.Ab
namespace Go.Ab
open Go.RowKit Go.Proofs
set_option maxHeartbeats 8000000
set_option maxRecDepth 20000
attribute [local irreducible] WalkL Walk
def oneT (b:Int) (s:SpotT):SpotT:={ s with pl:=b }
def oneS (b:Int) (S:List SpotT):List SpotT:=S.map (oneT b)
end Go.Ab
namespace Go.Ab
open Go.RowKit Go.Proofs
set_option maxHeartbeats 16000000
set_option maxRecDepth 20000
attribute [local irreducible] WalkL Walk
def partS (b:Int) (S:List SpotT) (i:Nat):List (List DV):=((S.take i).map (oneT b)).map SpotT.row++(S.drop i).map SpotT.row
end Go.Ab
namespace Go.Ab
open Go.RowKit Go.Proofs
set_option maxHeartbeats 16000000
set_option maxRecDepth 20000
attribute [local irreducible] WalkL Walk
theorem z1078 {n:Net} {p:Party} (h:farM n=false) (hg:n.Good):n.places≤5:=by
 simp only [farM,Bool.or_eq_false_iff,Bool.and_eq_false_iff,decide_eq_false_iff_not,Bool.not_eq_false'] at h
 have hb:badNet n=false:=by
  have:=z143.2 hg
  simpa using this
 rcases h.2.2 with h1 | h1
 ·rw [hb] at h1;cases h1
 ·omega
theorem z1184 {n:Net} {p:Party} {bases:List Int} {S:List SpotT} {mins:Int} (h:farSe ⟨p,bases,S,mins⟩=false):S.length≤5∨readyE n p bases S≠0:=by
 by_cases he:readyE n p bases S=0
 ·obtain⟨_,_,hlen,_⟩:=z108 he
  simp only [farSe,Bool.or_eq_false_iff,Bool.and_eq_false_iff,decide_eq_false_iff_not] at h
  left;omega
 ·exact .inr he
end Go.Ab
namespace Go.Ab
open Go.RowKit Go.Proofs
set_option maxHeartbeats 16000000
set_option maxRecDepth 20000
attribute [local irreducible] WalkL Walk
structure PlansT where
 order:List Int
 teams:List (List Int)
def PlansT.row (y:PlansT):List DV:=[.sl (intRows y.order),.sl (slRows y.teams)]
theorem zf9 (n:Net) (x:SearchT) (y:PlansT) (hs:n.Small) (hb:x.bases.length<2 ^ 30) (hl:x.spots.length<2 ^ 30) (hy1:y.order.length<2 ^ 30) (hy2:y.teams.length<2 ^ 30) (hy3:∀ o ∈ y.teams,o.length<2 ^ 30) :
  Fn Tryd.prog 9 [.agg n.cells,.agg x.row,.agg y.row] (.bool true):=by
 have h20:=z1452 n x hs hb hl
 have h14:=z1454
 have hrb:=z12 x.bases
 have hsl:(x.spots.map SpotT.row).length=x.spots.length:=by simp
 obtain⟨p,bases,S,mins⟩:=x
 obtain⟨yo,yt⟩:=y
 dsimp only at hb hl hrb hsl hy1 hy2 hy3
 have hyo:=z12 yo
 have hyt:(slRows yt).length=yt.length:=by simp [slRows]
 cases hv:searchB n ⟨p,bases,S,mins⟩
 case false =>
  rw [hv] at h20
  rw [Net.cells] at *
  rw [SearchT.row] at *
  rw [PlansT.row]
  refine z11 185 Tryd.call9 Tryd.func9 rfl (by decide) fun J=>?_
  simp only [go_sem,St.start,Tryd.ntmps9,Tryd.results9,Net.cells,SearchT.row]
  repeat (first|refine nx ?_|(refine z3 fun K hK=>?_;simp only [go_sem];(repeat (first|(refine⟨_,.lent (hf:=h20) (hd:=rfl) (hr:=rfl),?_⟩;simp only [go_sem])|(refine⟨_,.given (hf:=h20) (hd:=rfl) (ha:=rfl),?_⟩;simp only [go_sem])));apply hK;clear hK K))
  refine z8 (by rfl) ?_
  repeat (first|refine nx ?_|(refine z3 fun K hK=>?_;simp only [go_sem];(repeat (first|(refine⟨_,.lent (hf:=h14) (hd:=rfl) (hr:=rfl),?_⟩;simp only [go_sem])|(refine⟨_,.given (hf:=h14) (hd:=rfl) (ha:=rfl),?_⟩;simp only [go_sem])));apply hK;clear hK K))
  simp only [go_sem]
 case true =>
  rw [hv] at h20
  by_cases c1:60<yo.length
  ·have d1:decide ((yo.length:Int) > 60)=true:=decide_eq_true (by omega)
   rw [Net.cells] at *
   rw [SearchT.row] at *
   rw [PlansT.row]
   refine z11 185 Tryd.call9 Tryd.func9 rfl (by decide) fun J=>?_
   simp only [go_sem,St.start,Tryd.ntmps9,Tryd.results9,Net.cells,SearchT.row]
   repeat (first|refine nx ?_|(refine z3 fun K hK=>?_;simp only [go_sem,hyo,d1];(repeat (first|(refine⟨_,.lent (hf:=h20) (hd:=rfl) (hr:=rfl),?_⟩;simp only [go_sem,hyo,d1])|(refine⟨_,.given (hf:=h20) (hd:=rfl) (ha:=rfl),?_⟩;simp only [go_sem,hyo,d1])));apply hK;clear hK K))
   refine z8 (by rfl) ?_
   repeat (first|refine nx ?_|(refine z3 fun K hK=>?_;simp only [go_sem];(repeat (first|(refine⟨_,.lent (hf:=h14) (hd:=rfl) (hr:=rfl),?_⟩;simp only [go_sem])|(refine⟨_,.given (hf:=h14) (hd:=rfl) (ha:=rfl),?_⟩;simp only [go_sem])));apply hK;clear hK K))
   simp only [go_sem]
  ·have d1:decide ((yo.length:Int) > 60)=false:=decide_eq_false (by omega)
   by_cases c2:20<yt.length
   ·have d2:decide ((yt.length:Int) > 20)=true:=decide_eq_true (by omega)
    rw [Net.cells] at *
    rw [SearchT.row] at *
    rw [PlansT.row]
    refine z11 185 Tryd.call9 Tryd.func9 rfl (by decide) fun J=>?_
    simp only [go_sem,St.start,Tryd.ntmps9,Tryd.results9,Net.cells,SearchT.row]
    repeat (first|refine nx ?_|(refine z3 fun K hK=>?_;simp only [go_sem,hyo,hyt,d1,d2];(repeat (first|(refine⟨_,.lent (hf:=h20) (hd:=rfl) (hr:=rfl),?_⟩;simp only [go_sem,hyo,hyt,d1,d2])|(refine⟨_,.given (hf:=h20) (hd:=rfl) (ha:=rfl),?_⟩;simp only [go_sem,hyo,hyt,d1,d2])));apply hK;clear hK K))
    refine z8 (by rfl) ?_
    repeat (first|refine nx ?_|(refine z3 fun K hK=>?_;simp only [go_sem];(repeat (first|(refine⟨_,.lent (hf:=h14) (hd:=rfl) (hr:=rfl),?_⟩;simp only [go_sem])|(refine⟨_,.given (hf:=h14) (hd:=rfl) (ha:=rfl),?_⟩;simp only [go_sem])));apply hK;clear hK K))
    simp only [go_sem]
   ·have d2:decide ((yt.length:Int) > 20)=false:=decide_eq_false (by omega)
    have hv2:=hv
    simp only [searchB,Bool.and_eq_true,Bool.not_eq_true',beq_iff_eq] at hv2
    obtain⟨hfm,hfs,hr⟩:=hv2
    obtain⟨hg,hp,hlen,hsp,hbl,hbs⟩:=z108 hr
    have hS5:S.length≤5:=(z1184 (n:=n) hfs).resolve_right fun h=>h hr
    have hp5:=z1078 (p:=p) hfm hg
    obtain⟨b0,bt,hb0⟩:∃ b0 bt,bases=b0::bt:=by
     cases hbb:bases with
     | nil=>rw [hbb] at hbl;simp at hbl
     | cons b t=>exact⟨b,t,rfl⟩
    obtain⟨w1,w2,w3,w4,w5⟩:=z1164 hr hS5 hp5 hb0
    have hbb0:=hbs b0 (by rw [hb0];simp)
    have hSok:SpotsOk n.places.toNat S:=⟨hS5,fun s hs=>by have:=(hsp s hs).1;have:=hg.places;omega⟩
    have h21:=z1425 n p (allM n p) b0 S hs (.inl hS5) hl (fun _=>rfl) (fun _=>w2)
    have h36a:=z1424 n p (allM n p) [b0] S hs (by simp) hl (.inl hS5) (fun _=>rfl) (fun _=>(z236 w1 hS5 hp5).1)
    have h36b:=z1424 n p (allM n p) bases S hs hb hl (.inl hS5) (fun _=>rfl) (fun _=>(z236 hr hS5 hp5).1)
    have h32y:=z1376 n p [b0] S mins [yo] hg hSok (fun b h=>by simp at h;subst h;exact hbb0) (by simp) (by simp) (fun o h=>by simp at h;subst h;exact hy1)
    have h32t:=z1376 n p bases S mins yt hg hSok hbs hb hy2 hy3
    have h35:=fun O h=>z1446 yo O hy1 h
    have t1:=(z236 w1 hS5 hp5).2
    have t2:=(z236 hr hS5 hp5).2
    have pe:=z1294 w1 hS5 hp5
    have em:[b0].map Int.toNat=[b0.toNat]:=rfl
    have ev:shareV (allM n p) S [b0.toNat] (fullN S)=((bestV (allM n p) S 5 b0.toNat (fullN S)).1,[fullN S]):=by rw [shareV]
    rw [em] at t1 h32y
    rw [ev] at t1
    dsimp only at t1
    obtain⟨V,hV⟩:∃ V,V=(bestV (allM n p) S 5 b0.toNat (fullN S)).1:=⟨_,rfl⟩
    obtain⟨W,hW⟩:∃ W,W=(shareV (allM n p) S (bases.map Int.toNat) (fullN S)).1:=⟨_,rfl⟩
    obtain⟨O,hO⟩:∃ O,O=natsI (orderV (allM n p) S 5 b0.toNat (fullN S)):=⟨_,rfl⟩
    rw [← hV] at t1 w3 w4 pe
    rw [← hW] at t2 w3 w5
    rw [← hO] at w3 w4 pe
    obtain⟨⟨k1,i1⟩,hi1⟩:∃ r,r=sharedF (allR n p) S [b0.toNat] [yo]:=⟨_,rfl⟩
    obtain⟨⟨k2,i2⟩,hi2⟩:∃ r,r=sharedF (allR n p) S (bases.map Int.toNat) yt:=⟨_,rfl⟩
    rw [← hi1] at h32y
    rw [← hi2] at h32t
    dsimp only at h32y h32t
    have key:∃ cost e os1 all g os2 OO,planC n p (allM n p) b0 S=(OO,cost,e)∧teamsC n p (allM n p) [b0] S=(os1,cost,e)∧teamsC n p (allM n p) bases S=(os2,all,g)∧OO.length<2 ^ 30 ∧
      ((e=0∧g=0∧all≤cost∧Fn Tryd.prog 32 [.agg n.cells,.agg (SearchT.mk p [b0] S mins).row,.sl (slRows [OO])] (.tup [.i cost,.bool true]))∨(e=3∧(g=0∨g=3))) ∧
      (i1=true→e=0∧cost≤k1∧(k1=cost→earlierI yo OO=false))∧(i2=true→g=0∧all≤k2):=by
     have hOl:O.length<2 ^ 30:=by
      by_cases hVf:V<farW
      ·rw [hO,z76]
       have hf:=z176 hS5
       have:=(z83 (z966 hr hS5 hp5) 5 b0.toNat (fullN S) (by have:=hg.places;omega) hf (z121 _ hS5) (z19 _ hf) (by rw [← hV];exact hVf)).1.length_eq
       have h5:=z19 _ hf
       omega
      ·rw [hO,z76]
       have:∀ (f q s:Nat),(orderV (allM n p) S f q s).length≤f:=by
        intro f
        induction f with
        | zero=>intro q s;simp [orderV]
        | succ f ih =>
         intro q s
         rw [orderV]
         split
         ·simp
         ·simp only [List.length_cons]
          have:=ih (nextP S (bestV (allM n p) S 5 q s).2.toNat) (s - 2 ^ (bestV (allM n p) S 5 q s).2.toNat)
          omega
       have:=this 5 b0.toNat (fullN S)
       omega
     by_cases hVf:V<farW
     ·obtain⟨v1,v2,v3⟩:=w3 hVf
      rw [if_pos hVf] at pe
      rcases t1 with ⟨hh,_⟩ | ⟨_,ls,t1,_⟩
      ·omega
      rcases t2 with ⟨hh,_⟩ | ⟨_,ls2,t2,_⟩
      ·omega
      have h32o:=z1376 n p [b0] S mins [O] hg hSok (fun b h=>by simp at h;subst h;exact hbb0) (by simp) (by simp) (fun o h=>by simp at h;subst h;exact hOl)
      rw [em,v3] at h32o
      refine⟨V,0,_,W,0,_,O,pe,t1,t2,hOl,.inl ⟨rfl,rfl,v2,h32o⟩,fun h=>?_,fun h=>?_⟩
      ·subst h
       obtain⟨_,q2,q3⟩:=w4 yo k1 hi1.symm
       exact⟨rfl,q2,q3⟩
      ·subst h
       exact⟨rfl,(w5 yt k2 hi2.symm).2⟩
     ·rw [if_neg hVf] at pe
      rcases t1 with ⟨_,t1,_⟩ | ⟨hh,_⟩
      ·rcases t2 with ⟨hh2,t2,_⟩ | ⟨hh2,ls2,t2,_⟩
       ·refine⟨0,3,_,0,3,_,[],pe,t1,t2,by simp,.inr ⟨rfl,.inr rfl⟩,fun h=>?_,fun h=>?_⟩
        ·subst h;exact absurd (w4 yo k1 hi1.symm).1 hVf
        ·subst h;exact absurd (w5 yt k2 hi2.symm).1 (by omega)
       ·refine⟨0,3,_,W,0,_,[],pe,t1,t2,by simp,.inr ⟨rfl,.inl rfl⟩,fun h=>?_,fun h=>?_⟩
        ·subst h;exact absurd (w4 yo k1 hi1.symm).1 hVf
        ·subst h;exact⟨rfl,(w5 yt k2 hi2.symm).2⟩
      ·exact absurd hh hVf
    obtain⟨cost,e,os1,all,g,os2,OO,y1,y2,y3,y4,y5,y6,y7⟩:=key
    rw [planD,y1] at h21
    rw [y2] at h36a
    rw [y3] at h36b
    dsimp only at h21 h36a h36b
    have h35o:=h35 OO y4
    have g0:(intRows bases)[0]?=some [.i b0]:=by rw [hb0];rfl
    have hb1:0<bases.length:=by omega
    have n1:(1:Int)≤(bases.length:Int):=by omega
    have hhb:headIs 1 (intRows bases)=true:=by rw [hb0];rfl
    have htk:List.take 1 (intRows bases)=[[.i b0]]:=by rw [hb0];rfl
    have nc:(cost != cost)=false:=by simp
    have c3:i1=true→decide (k1<cost)=false:=fun h=>decide_eq_false (by have:=(y6 h).2.1;omega)
    have c4:i2=true→decide (all≤k2)=true:=fun h=>decide_eq_true (y7 h).2
    have fin:∀ (ee:Int),ee=ee:=fun _=>rfl
    clear t1 t2 pe w3 w4 w5 hi1 hi2
    rw [Net.cells] at *
    rw [SearchT.row] at *
    rw [PlansT.row]
    rw [Party.cells] at h21 h36a h36b
    have hlr:∀ z:Int,intRows [z]=[[DV.i z]]:=fun _=>rfl
    rcases y5 with ⟨rfl,rfl,y5a,h32o⟩ | ⟨rfl,rfl | rfl⟩
    ·have hgt:decide (all > cost)=false:=decide_eq_false (by omega)
     refine z11 185 Tryd.call9 Tryd.func9 rfl (by decide) fun J=>?_
     simp only [go_sem,St.start,Tryd.ntmps9,Tryd.results9,Net.cells,SearchT.row]
     repeat (first|refine nx ?_|(refine z3 fun K hK=>?_;simp only [go_sem,hyo,hyt,d1,d2];(repeat (first|(refine⟨_,.lent (hf:=h20) (hd:=rfl) (hr:=rfl),?_⟩;simp only [go_sem,hyo,hyt,d1,d2])|(refine⟨_,.given (hf:=h20) (hd:=rfl) (ha:=rfl),?_⟩;simp only [go_sem,hyo,hyt,d1,d2])));apply hK;clear hK K))
     refine z4 (by rfl) ?_
     repeat refine nx ?_
     refine z7 (by kernel_rfl) (by kernel_rfl) fun K hK=>?_
     simp only [go_sem,g0,hb1,hrb]
     refine⟨_,.fn (hf:=h21) (hd:=rfl) (hr:=.inr rfl),?_⟩
     simp only [go_sem]
     refine⟨by kernel_rfl,hK _ ?_⟩
     clear hK K
     repeat (first|refine nx ?_|(refine z3 fun K hK=>?_;simp only [go_sem];apply hK;clear hK K))
     refine z4 (by rfl) ?_
     repeat (first|refine nx ?_|(refine z3 fun K hK=>?_;simp only [go_sem,n1,hhb,htk,hrb,List.drop_zero];apply hK;clear hK K))
     refine z8 (by rfl) ?_
     repeat (first|refine nx ?_|(refine z3 fun K hK=>?_;simp only [go_sem,nc];(repeat (first|(refine⟨_,.lent (hf:=h32o) (hd:=rfl) (hr:=rfl),?_⟩;simp only [go_sem,nc])|(refine⟨_,.given (hf:=h32o) (hd:=rfl) (ha:=rfl),?_⟩;simp only [go_sem,nc])));apply hK;clear hK K))
     refine z4 (by rfl) ?_
     repeat (first|refine nx ?_|(refine z3 fun K hK=>?_;simp only [go_sem];(repeat (first|(refine⟨_,.lent (hf:=h32y) (hd:=rfl) (hr:=rfl),?_⟩;simp only [go_sem])|(refine⟨_,.given (hf:=h32y) (hd:=rfl) (ha:=rfl),?_⟩;simp only [go_sem])));apply hK;clear hK K))
     refine z25 [] [] ?_ ?_
     ·cases hq:i1
      ·refine z4 (by rfl) ?_
       repeat (first|refine nx ?_|(refine z3 fun K hK=>?_;simp only [go_sem];apply hK;clear hK K))
       refine⟨rfl,?_⟩
       try simp only [go_sem]
       refine weA ?_ ?_ <;> simp
      ·refine z8 (by rfl) ?_
       by_cases hk:k1=cost
       ·have e1:(k1 == cost)=true:=by simp [hk]
        rw [(y6 hq).2.2 hk] at h35o
        repeat (first|refine nx ?_|(refine z3 fun K hK=>?_;simp only [go_sem,c3 hq,e1];(repeat (first|(refine⟨_,.lent (hf:=h35o) (hd:=rfl) (hr:=rfl),?_⟩;simp only [go_sem,c3 hq,e1])|(refine⟨_,.given (hf:=h35o) (hd:=rfl) (ha:=rfl),?_⟩;simp only [go_sem,c3 hq,e1])));apply hK;clear hK K))
        refine z4 (by rfl) ?_
        repeat (first|refine nx ?_|(refine z3 fun K hK=>?_;simp only [go_sem];apply hK;clear hK K))
        refine⟨rfl,?_⟩
        try simp only [go_sem]
        refine weA ?_ ?_ <;> simp
       ·have e1:(k1 == cost)=false:=by simp [hk]
        repeat (first|refine nx ?_|(refine z3 fun K hK=>?_;simp only [go_sem,c3 hq,e1];(repeat (first|(refine⟨_,.lent (hf:=h35o) (hd:=rfl) (hr:=rfl),?_⟩;simp only [go_sem,c3 hq,e1])|(refine⟨_,.given (hf:=h35o) (hd:=rfl) (ha:=rfl),?_⟩;simp only [go_sem,c3 hq,e1])));apply hK;clear hK K))
        refine z4 (by rfl) ?_
        repeat (first|refine nx ?_|(refine z3 fun K hK=>?_;simp only [go_sem];apply hK;clear hK K))
        refine⟨rfl,?_⟩
        try simp only [go_sem]
        refine weA ?_ ?_ <;> simp
     ·simp only [go_sem]
      repeat (first|refine nx ?_|(refine z3 fun K hK=>?_;simp only [go_sem,nc,hgt];(repeat (first|(refine⟨_,.lent (hf:=h36a) (hd:=rfl) (hr:=rfl),?_⟩;simp only [go_sem,nc,hgt])|(refine⟨_,.lent (hf:=h36b) (hd:=rfl) (hr:=rfl),?_⟩;simp only [go_sem,nc,hgt])|(refine⟨_,.given (hf:=h36a) (hd:=rfl) (ha:=rfl),?_⟩;simp only [go_sem,nc,hgt])|(refine⟨_,.given (hf:=h36b) (hd:=rfl) (ha:=rfl),?_⟩;simp only [go_sem,nc,hgt])));apply hK;clear hK K))
      refine z4 (by rfl) ?_
      repeat (first|refine nx ?_|(refine z3 fun K hK=>?_;simp only [go_sem];(repeat (first|(refine⟨_,.lent (hf:=h32t) (hd:=rfl) (hr:=rfl),?_⟩;simp only [go_sem])|(refine⟨_,.given (hf:=h32t) (hd:=rfl) (ha:=rfl),?_⟩;simp only [go_sem])));apply hK;clear hK K))
      cases hq:i2
      ·repeat (first|refine nx ?_|(refine z3 fun K hK=>?_;simp only [go_sem];(repeat (first|(refine⟨_,.lent (hf:=h14) (hd:=rfl) (hr:=rfl),?_⟩;simp only [go_sem])|(refine⟨_,.given (hf:=h14) (hd:=rfl) (ha:=rfl),?_⟩;simp only [go_sem])));apply hK;clear hK K))
       simp only [go_sem]
      ·repeat (first|refine nx ?_|(refine z3 fun K hK=>?_;simp only [go_sem,c4 hq];(repeat (first|(refine⟨_,.lent (hf:=h14) (hd:=rfl) (hr:=rfl),?_⟩;simp only [go_sem,c4 hq])|(refine⟨_,.given (hf:=h14) (hd:=rfl) (ha:=rfl),?_⟩;simp only [go_sem,c4 hq])));apply hK;clear hK K))
       simp only [go_sem]
    ·have hi1:i1=false:=by
      cases hq:i1
      ·rfl
      ·exact absurd (y6 hq).1 (by decide)
     rw [hi1] at h32y
     refine z11 185 Tryd.call9 Tryd.func9 rfl (by decide) fun J=>?_
     simp only [go_sem,St.start,Tryd.ntmps9,Tryd.results9,Net.cells,SearchT.row]
     repeat (first|refine nx ?_|(refine z3 fun K hK=>?_;simp only [go_sem,hyo,hyt,d1,d2];(repeat (first|(refine⟨_,.lent (hf:=h20) (hd:=rfl) (hr:=rfl),?_⟩;simp only [go_sem,hyo,hyt,d1,d2])|(refine⟨_,.given (hf:=h20) (hd:=rfl) (ha:=rfl),?_⟩;simp only [go_sem,hyo,hyt,d1,d2])));apply hK;clear hK K))
     refine z4 (by rfl) ?_
     repeat refine nx ?_
     refine z7 (by kernel_rfl) (by kernel_rfl) fun K hK=>?_
     simp only [go_sem,g0,hb1,hrb]
     refine⟨_,.fn (hf:=h21) (hd:=rfl) (hr:=.inr rfl),?_⟩
     simp only [go_sem]
     refine⟨by kernel_rfl,hK _ ?_⟩
     clear hK K
     repeat (first|refine nx ?_|(refine z3 fun K hK=>?_;simp only [go_sem];apply hK;clear hK K))
     refine z4 (by rfl) ?_
     repeat (first|refine nx ?_|(refine z3 fun K hK=>?_;simp only [go_sem,n1,hhb,htk,hrb,List.drop_zero];apply hK;clear hK K))
     refine z4 (by rfl) ?_
     repeat (first|refine nx ?_|(refine z3 fun K hK=>?_;simp only [go_sem];(repeat (first|(refine⟨_,.lent (hf:=h32y) (hd:=rfl) (hr:=rfl),?_⟩;simp only [go_sem])|(refine⟨_,.given (hf:=h32y) (hd:=rfl) (ha:=rfl),?_⟩;simp only [go_sem])));apply hK;clear hK K))
     refine z4 (by rfl) ?_
     repeat (first|refine nx ?_|(refine z3 fun K hK=>?_;simp only [go_sem,nc];(repeat (first|(refine⟨_,.lent (hf:=h36a) (hd:=rfl) (hr:=rfl),?_⟩;simp only [go_sem,nc])|(refine⟨_,.lent (hf:=h36b) (hd:=rfl) (hr:=rfl),?_⟩;simp only [go_sem,nc])|(refine⟨_,.given (hf:=h36a) (hd:=rfl) (ha:=rfl),?_⟩;simp only [go_sem,nc])|(refine⟨_,.given (hf:=h36b) (hd:=rfl) (ha:=rfl),?_⟩;simp only [go_sem,nc])));apply hK;clear hK K))
     refine z4 (by rfl) ?_
     repeat (first|refine nx ?_|(refine z3 fun K hK=>?_;simp only [go_sem];(repeat (first|(refine⟨_,.lent (hf:=h32t) (hd:=rfl) (hr:=rfl),?_⟩;simp only [go_sem])|(refine⟨_,.given (hf:=h32t) (hd:=rfl) (ha:=rfl),?_⟩;simp only [go_sem])));apply hK;clear hK K))
     cases hq:i2
     ·repeat (first|refine nx ?_|(refine z3 fun K hK=>?_;simp only [go_sem];(repeat (first|(refine⟨_,.lent (hf:=h14) (hd:=rfl) (hr:=rfl),?_⟩;simp only [go_sem])|(refine⟨_,.given (hf:=h14) (hd:=rfl) (ha:=rfl),?_⟩;simp only [go_sem])));apply hK;clear hK K))
      simp only [go_sem]
     ·repeat (first|refine nx ?_|(refine z3 fun K hK=>?_;simp only [go_sem,c4 hq];(repeat (first|(refine⟨_,.lent (hf:=h14) (hd:=rfl) (hr:=rfl),?_⟩;simp only [go_sem,c4 hq])|(refine⟨_,.given (hf:=h14) (hd:=rfl) (ha:=rfl),?_⟩;simp only [go_sem,c4 hq])));apply hK;clear hK K))
      simp only [go_sem]
    ·have hi1:i1=false:=by
      cases hq:i1
      ·rfl
      ·exact absurd (y6 hq).1 (by decide)
     have hi2:i2=false:=by
      cases hq:i2
      ·rfl
      ·exact absurd (y7 hq).1 (by decide)
     rw [hi1] at h32y
     rw [hi2] at h32t
     refine z11 185 Tryd.call9 Tryd.func9 rfl (by decide) fun J=>?_
     simp only [go_sem,St.start,Tryd.ntmps9,Tryd.results9,Net.cells,SearchT.row]
     repeat (first|refine nx ?_|(refine z3 fun K hK=>?_;simp only [go_sem,hyo,hyt,d1,d2];(repeat (first|(refine⟨_,.lent (hf:=h20) (hd:=rfl) (hr:=rfl),?_⟩;simp only [go_sem,hyo,hyt,d1,d2])|(refine⟨_,.given (hf:=h20) (hd:=rfl) (ha:=rfl),?_⟩;simp only [go_sem,hyo,hyt,d1,d2])));apply hK;clear hK K))
     refine z4 (by rfl) ?_
     repeat refine nx ?_
     refine z7 (by kernel_rfl) (by kernel_rfl) fun K hK=>?_
     simp only [go_sem,g0,hb1,hrb]
     refine⟨_,.fn (hf:=h21) (hd:=rfl) (hr:=.inr rfl),?_⟩
     simp only [go_sem]
     refine⟨by kernel_rfl,hK _ ?_⟩
     clear hK K
     repeat (first|refine nx ?_|(refine z3 fun K hK=>?_;simp only [go_sem];apply hK;clear hK K))
     refine z4 (by rfl) ?_
     repeat (first|refine nx ?_|(refine z3 fun K hK=>?_;simp only [go_sem,n1,hhb,htk,hrb,List.drop_zero];apply hK;clear hK K))
     refine z4 (by rfl) ?_
     repeat (first|refine nx ?_|(refine z3 fun K hK=>?_;simp only [go_sem];(repeat (first|(refine⟨_,.lent (hf:=h32y) (hd:=rfl) (hr:=rfl),?_⟩;simp only [go_sem])|(refine⟨_,.given (hf:=h32y) (hd:=rfl) (ha:=rfl),?_⟩;simp only [go_sem])));apply hK;clear hK K))
     refine z4 (by rfl) ?_
     repeat (first|refine nx ?_|(refine z3 fun K hK=>?_;simp only [go_sem,nc];(repeat (first|(refine⟨_,.lent (hf:=h36a) (hd:=rfl) (hr:=rfl),?_⟩;simp only [go_sem,nc])|(refine⟨_,.lent (hf:=h36b) (hd:=rfl) (hr:=rfl),?_⟩;simp only [go_sem,nc])|(refine⟨_,.given (hf:=h36a) (hd:=rfl) (ha:=rfl),?_⟩;simp only [go_sem,nc])|(refine⟨_,.given (hf:=h36b) (hd:=rfl) (ha:=rfl),?_⟩;simp only [go_sem,nc])));apply hK;clear hK K))
     refine z4 (by rfl) ?_
     repeat (first|refine nx ?_|(refine z3 fun K hK=>?_;simp only [go_sem];(repeat (first|(refine⟨_,.lent (hf:=h32t) (hd:=rfl) (hr:=rfl),?_⟩;simp only [go_sem])|(refine⟨_,.lent (hf:=h14) (hd:=rfl) (hr:=rfl),?_⟩;simp only [go_sem])|(refine⟨_,.given (hf:=h32t) (hd:=rfl) (ha:=rfl),?_⟩;simp only [go_sem])|(refine⟨_,.given (hf:=h14) (hd:=rfl) (ha:=rfl),?_⟩;simp only [go_sem])));apply hK;clear hK K))
     simp only [go_sem]
end Go.Ab
namespace Go.Ab
open Go.RowKit Go.Proofs Go.ChangeShapes Go.WideShapes Go.Proofs.YtfkbbaagifpjpaaDoor
set_option linter.unusedVariables false
set_option maxRecDepth 100000
def spotS:List Sh:=[iS,iS,iS]
def searchS:List Sh:=[iS,iS,iS,iS,.sl [iS],.sl spotS,iS]
theorem z1287 {N:Nat} {r:List DV} (h:Sh.fitsL N spotS r):∃ x:SpotT,r=x.row∧True:=by
 simp only [spotS,iS,Sh.fitsL,Sh.fits] at h
 obtain⟨_,_,rfl,⟨a,rfl,_⟩,_,_,rfl,⟨b,rfl,_⟩,_,_,rfl,⟨c,rfl,_⟩,rfl⟩:=h
 exact⟨⟨a,b,c⟩,rfl,trivial⟩
theorem z1125 {N:Nat} (hN:N<2 ^ 30) {r:List DV} (h:Sh.fitsL N searchS r):∃ x:SearchT,r=x.row∧x.bases.length<2 ^ 30∧x.spots.length<2 ^ 30:=by
 simp only [searchS] at h
 simp only [iS,Sh.fitsL,Sh.fits] at h
 obtain⟨_,_,rfl,⟨a,rfl,_⟩,_,_,rfl,⟨b,rfl,_⟩,_,_,rfl,⟨c,rfl,_⟩,_,_,rfl,⟨d,rfl,_⟩,_,_,rfl,⟨rows,rfl,hl,hr⟩,_,_,rfl,⟨rows2,rfl,hl2,hr2⟩,_,_,rfl,⟨e,rfl,_⟩,rfl⟩:=h
 obtain⟨l,rfl,_⟩:=z196 (row:=fun i:Int=>[DV.i i]) (fun r h=>z1174 (N:=N) (by simp only [iS,Sh.fitsL,Sh.fits];exact hr r h))
 obtain⟨S,rfl,_⟩:=z196 (fun r h=>z1287 (hr2 r h))
 have e1:l.length≤N:=by simpa using hl
 have e2:S.length≤N:=by simpa using hl2
 exact⟨⟨⟨a,b,⟨c,d⟩⟩,l,S,e⟩,rfl,by show l.length<2 ^ 30;omega,by show S.length<2 ^ 30;omega⟩
theorem z1218:shapes Tryd.prog 20 56=some searchS:=by kernel_rfl
theorem z1228:Rd 56 (fun x=>∃ y:SearchT,x=.agg y.row∧y.bases.length<2 ^ 30∧y.spots.length<2 ^ 30) :=
 ⟨by kernel_rfl,of_decide_eq_true (by kernel_rfl),fun H enc w base v d ps hok h hd=>by
  obtain⟨e0,hf0,r0⟩:=z596 z1218 (by decide) h hd
  obtain⟨x,rfl,hx⟩:=z1125 (by decide) hf0
  exact⟨_,⟨x,rfl,hx⟩,r0⟩⟩
abbrev aS:TypeId × (DV→Prop):=(56,fun x=>∃ y:SearchT,x=.agg y.row∧y.bases.length<2 ^ 30∧y.spots.length<2 ^ 30)
end Go.Ab
namespace Go.Ab
open Go.RowKit Go.Proofs Go.ChangeShapes Go.WideShapes Go.Proofs.YtfkbbaagifpjpaaDoor
set_option linter.unusedVariables false
set_option maxRecDepth 100000
def plansS:List Sh:=[.sl [iS],.sl [.sl [iS]]]
theorem z1286 {N:Nat} {r:List DV} (h:Sh.fitsL N [.sl [iS]] r):∃ l:List Int,r=[.sl (intRows l)]∧l.length≤N:=by
 simp only [iS,Sh.fitsL,Sh.fits] at h
 obtain⟨_,_,rfl,⟨rows,rfl,hl,hr⟩,rfl⟩:=h
 obtain⟨l,rfl,_⟩:=z196 (row:=fun i:Int=>[DV.i i]) (fun r h=>z1174 (N:=N) (by simp only [iS,Sh.fitsL,Sh.fits];exact hr r h))
 exact⟨l,rfl,by simpa using hl⟩
theorem z1234 {N:Nat} (hN:N<2 ^ 30) {r:List DV} (h:Sh.fitsL N plansS r):∃ y:PlansT,r=y.row∧y.order.length<2 ^ 30∧y.teams.length<2 ^ 30∧∀ o ∈ y.teams,o.length<2 ^ 30:=by
 simp only [plansS] at h
 simp only [iS,Sh.fitsL,Sh.fits] at h
 obtain⟨_,_,rfl,⟨rows,rfl,hl,hr⟩,_,_,rfl,⟨rows2,rfl,hl2,hr2⟩,rfl⟩:=h
 obtain⟨l,rfl,_⟩:=z196 (row:=fun i:Int=>[DV.i i]) (fun r h=>z1174 (N:=N) (by simp only [iS,Sh.fitsL,Sh.fits];exact hr r h))
 obtain⟨T,rfl,hT⟩:=z196 (row:=fun l:List Int=>[DV.sl (intRows l)]) (Q:=fun l=>l.length≤N) (fun r h=>z1286 (N:=N) (by simp only [iS,Sh.fitsL,Sh.fits];exact hr2 r h))
 have e1:l.length≤N:=by simpa using hl
 have e2:T.length≤N:=by simpa using hl2
 exact⟨⟨l,T⟩,rfl,by show l.length<2 ^ 30;omega,by show T.length<2 ^ 30;omega,fun o ho=>by have:=hT o ho;omega⟩
theorem z1293:shapes Tryd.prog 20 91=some plansS:=by kernel_rfl
theorem z1292:Rd 91 (fun x=>∃ y:PlansT,x=.agg y.row∧y.order.length<2 ^ 30∧y.teams.length<2 ^ 30∧∀ o ∈ y.teams,o.length<2 ^ 30) :=
 ⟨by kernel_rfl,of_decide_eq_true (by kernel_rfl),fun H enc w base v d ps hok h hd=>by
  obtain⟨e0,hf0,r0⟩:=z596 z1293 (by decide) h hd
  obtain⟨x,rfl,hx⟩:=z1234 (by decide) hf0
  exact⟨_,⟨x,rfl,hx⟩,r0⟩⟩
abbrev aQ:TypeId × (DV→Prop):=(91,fun x=>∃ y:PlansT,x=.agg y.row∧y.order.length<2 ^ 30∧y.teams.length<2 ^ 30∧∀ o ∈ y.teams,o.length<2 ^ 30)
end Go.Ab
