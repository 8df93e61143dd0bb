/- A walk engine over abstract states, and the contracts of the functions that the statement reaches: part 5. -/
import Derived.Test.YtgjnckiifffneaaGreatWd
set_option linter.unusedVariables false
set_option linter.unusedSimpArgs false
set_option linter.unnecessarySimpa false
/- Iterators of a second kind: they may keep memory of their own between two elements,and hand on elements from within calls. -/
namespace Go.Ab
open Go.RowKit
def Firm (J:Env) (k:Option Nat) (b o:Own) (w:World):Prop:=∀ w',BelowU b w w'→J k b o w'
theorem Firm.next {J:Env} {k:Option Nat} {b o:Own} {w w':World} (h:Firm J k b o w) (hb:BelowU b w w'):Firm J k b o w':=fun w2 h2=>h w2 (hb.trans h2)
def GivesE (P:Program) (l:Nat) (J:Env) (items:List (List DV)):Prop :=
 ∀ (m kk:Nat) (b o X:Own) (w:World) (vals:Array Value) (row:List DV),items[kk]?=some row→(∀ x,o x→b x)→(∀ x,b x→x<w.heap.size)→Firm J (some kk) b o w →
  (∀ x,X x→¬ b x∧x<w.heap.size)→DRels w (fun x=>o x∨X x) row vals →
  YieldAt (fence none) m P l vals w fun e w'=>∃ t b' o',e=.returned (.bool t)∧(∀ x,o' x→b' x)∧(∀ x,b' x→x<w'.heap.size)∧Firm J (if t then some (kk + 1) else none) b' o' w' ∧
   Stays w o w' o'∧∀ x,X x→¬ b' x
section
variable {P:Program} {base:Own} {out:Own} {st st':St} {μ:Pl} {tmps:Array Value} {w w':World} {o:Oper} {ops:Array Oper} {rd:Option Nat} {n:Nat} {J:Env} {k:Option Nat}
theorem StRel.next (h:StRel P base out st μ tmps w) (hs:w.heap.size≤w'.heap.size) (hk:∀ x,x<w.heap.size→¬ out x→w'.heap[x]?=w.heap[x]?) {b2 o2:Own}
  (ho2:∀ x,o2 x→b2 x) (hb2:∀ x,b2 x→x<w'.heap.size) (hon:∀ x,o2 x→out x∨w.heap.size≤x) (hbn:∀ x,μ.owns x→¬ b2 x):StRel P b2 o2 st μ tmps w':=by
 have hg:Goes w (ownOf out μ) w' (ownOf o2 μ):=fun b o v h1 h2=>by
  have hlt:=z88 h2
  refine ⟨fun hc=>?_,?_⟩
  ·rcases hc with hc | hc
   ·rcases hon b hc with h3 | h3
    ·exact h1 (.inl h3)
    ·omega
   ·exact h1 (.inr hc)
  ·simp only [World.cell?] at h2 ⊢
   rw [hk b hlt (fun hc=>h1 (.inl hc))];exact h2
 refine ⟨h.size,fun i x v h1 h2=>(h.tmp i x v h1 h2).goes hg (fun _ _ _=>rfl),⟨fun m blk hm=>(h.mem.blk m blk hm).goes hg rfl (fun _ _=>rfl) (fun b z l c hb=>?_),h.mem.dom,h.mem.inj,fun m b z l c hb=>?_⟩,h.hid.goes hg,ho2,hb2⟩
 ·have:=h.mem.base m b z l c hb
  exact hk b this.2.1 this.2.2
 ·have:=h.mem.base m b z l c hb
  have hn:=hbn b ⟨m,z,l,c,hb⟩
  exact ⟨hn,Nat.lt_of_lt_of_le this.2.1 hs,fun hc=>hn (ho2 b hc)⟩
theorem StRel.own_base (h:StRel P base out st μ tmps w):∀ x,μ.owns x→¬ base x∧x<w.heap.size:=fun x ⟨m,z,l,c,hm⟩=>⟨(h.mem.base m x z l c hm).1,(h.mem.base m x z l c hm).2.1⟩
def yieldKE (l l':Nat) (items:List (List DV)) (xs:List AV) (dst:Option Tmp) (k:Option Nat) (s:St) (K:Option Nat→St→Prop):Prop :=
 l'=l∧∃ kk row,k=some kk∧reifyAll s xs=some row∧s.arrs (AV.refsAll xs)=true∧items[kk]?=some row ∧
  K (some (kk + 1)) ((releaseAll (AV.refsAll xs) s).put dst (.d (.bool true)))∧K none ((releaseAll (AV.refsAll xs) s).put dst (.d (.bool false)))
theorem z729 (h:StRel P base out st μ tmps w) {l:Nat} {xs:List AV} (hy:yieldOf o st=some (l,xs)) {items:List (List DV)} (hG:GivesE P l J items) {kk:Nat} {row:List DV}
  (hrow:reifyAll st xs=some row) (harr:st.arrs (AV.refsAll xs)=true) (hk:items[kk]?=some row) (hJ:Firm J (some kk) base out w) {ds:List Deferred} {K:Act→World→Prop} {Q:Exit→Act→World→Prop}
  (hK:∀ (t:Bool) b' o' μ' w',StRel P b' o' ((releaseAll (AV.refsAll xs) st).put o.dst (.d (.bool t))) μ' (putT tmps o.dst (.bool t)) w'→Firm J (if t then some (kk + 1) else none) b' o' w'→Stays w (ownOf out μ) w' (ownOf o' μ') →
   K { tmps:=putT tmps o.dst (.bool t),defers:=ds } w'):o.wpIn (fence rd) n P { tmps:=tmps,defers:=ds } w K Q:=by
 refine ⟨fun _ _=>trivial,?_⟩
 unfold yieldOf at hy
 split at hy
 ·rename_i f args ts ho
  split at hy
  ·rename_i l' hev
   cases hy
   have hf:=h.ev f []
   rw [hev] at hf
   have hv:val tmps f=.func (.yield l) #[] #[]:=z1177 hf
   have hargs:args.map (val tmps)=(args.toList.map (val tmps)).toArray:=by apply Array.toList_inj.1;simp
   obtain ⟨μ1,h1,hless,hrels⟩:=z262 h (vs:=(args.toList.map (val tmps)).toArray) (by simp) (fun i x v hx hv=>by
    simp only [List.getElem?_map,Option.map_eq_some_iff,List.getElem?_toArray] at hx hv
    obtain ⟨a,ha,rfl⟩:=hx
    obtain ⟨b,hb,rfl⟩:=hv
    rw [ha] at hb;cases hb
    exact h.ev a []) hrow harr
   obtain ⟨fn,tmps1,assign,body,hyr,hround⟩:=hG (n - 1) kk base out μ1.owns w _ row hk h.out h.le hJ h1.own_base hrels
   have hrun:(execOp ({ tmps:=tmps,defers:=ds }:Act).eval o).run P w=.ok (.round l fn tmps1 assign body) w:=by
    unfold execOp
    rw [z48]
    simp only [val] at hv hargs
    simp only [ho,resolve,hargs,hv,Deferred.ofValue,invoke,Sem.run_bind,Sem.run_pure,Result.andThen_ok,Array.empty_append]
    exact hyr
   rw [Oper.semAt_eq _ _ _ (by rw [ho];intro c hc;cases hc),hrun]
   simp only [Oper.uponIn_round]
   have hround':RoundIn (fence rd) (n - 1) P l fn tmps1 assign body w (fun e w'=>∃ t b' o',e=.returned (.bool t)∧(∀ x,o' x→b' x)∧(∀ x,b' x→x<w'.heap.size)∧Firm J (if t then some (kk + 1) else none) b' o' w' ∧
    Stays w out w' o'∧∀ x,μ1.owns x→¬ b' x):=hround
   refine ⟨(fun hsome=>(by cases hsome)),hround'.mono ?_⟩
   rintro e w' ⟨t,b',o',rfl,q1,q2,q3,q4,q5⟩
   simp only [z176]
   have h2:StRel P b' o' (releaseAll (AV.refsAll (args.toList.map st.ev)) st) μ1 tmps w':=h1.next q4.1 (fun x hx hno=>(q4.2 x hx hno).1) q1 q2 (fun x hx=>by
    by_cases hlt:x<w.heap.size
    ·exact .inl (Classical.byContradiction fun hc=>(q4.2 x hlt hc).2 hx)
    ·exact .inr (Nat.le_of_not_lt hlt)) q5
   refine hK t b' o' μ1 w' (h2.put (.d (.bool t)) o.dst) q3 ⟨q4.1,fun x hx hno=>?_⟩
   have hno':¬ out x:=fun hc=>hno (.inl hc)
   refine ⟨(q4.2 x hx hno').1,fun hc=>?_⟩
   rcases hc with hc | hc
   ·exact (q4.2 x hx hno').2 hc
   ·exact hno (hless x (.inr hc))
  ·cases hy
 ·cases hy
theorem z113 {B:Nat} (hO:EnvOk B J) {b o:Own} (hF:Firm J k b o w) (hb:∀ x,b x→x<w.heap.size) {r:Nat} (hr:B≤r) (hno:¬ o r) (ho:Other r w w'):Firm J k b o w':=by
 by_cases hrs:r<w.heap.size
 ·exact z710 hO hF hr hno hrs ho
 ·intro w2 h2
  refine hF w2 ⟨h2.os.trans ho.wrote.os,h2.tape.trans ho.wrote.tape,h2.output.trans ho.wrote.output,by rw [← ho.wrote.size];exact h2.size,fun q hq=>?_⟩
  rw [h2.block q hq]
  exact ho.wrote.block q (fun e=>by have:=hb q hq;omega)
def lendJ (X:Own) (W:World) (J:Env):Env:=fun k b o w=>(∀ x,X x→o x)∧(∀ x,X x→w.heap[x]?=W.heap[x]?)∧(∀ x,o x→b x)∧(∀ x,b x→x<w.heap.size)∧Firm J k (fun x=>b x∧¬ X x) (fun x=>o x∧¬ X x) w
theorem z1054 {X:Own} {W:World} {b o:Own} (h1:∀ x,X x→o x) (h2:∀ x,X x→w.heap[x]?=W.heap[x]?) (h3:∀ x,o x→b x) (h4:∀ x,b x→x<w.heap.size) (h5:Firm J k (fun x=>b x∧¬ X x) (fun x=>o x∧¬ X x) w) :
  Firm (lendJ X W J) k b o w:=fun w' hb =>
 ⟨h1,fun x hx=>(hb.block x (h3 x (h1 x hx))).trans (h2 x hx),h3,fun x hx=>Nat.lt_of_lt_of_le (h4 x hx) hb.size,h5.next (hb.mono fun _ h=>h.1)⟩
theorem z681 {a X:Own} (h:∀ x,X x→¬ a x):(fun x=>(a x∨X x)∧¬ X x)=a:=funext fun x=>propext ⟨fun ⟨h1,h2⟩=>h1.resolve_right h2,fun h1=>⟨.inl h1,fun hx=>h x hx h1⟩⟩
theorem z353 {X:Own} {W:World} {b o:Own} (hX:∀ x,X x→¬ b x∧x<w.heap.size) (h2:∀ x,X x→w.heap[x]?=W.heap[x]?) (h3:∀ x,o x→b x) (h4:∀ x,b x→x<w.heap.size) (h5:Firm J k b o w) :
  Firm (lendJ X W J) k (fun x=>b x∨X x) (fun x=>o x∨X x) w :=
 z1054 (fun _ h=>.inr h) h2 (fun x h=>h.imp (h3 x) id) (fun x h=>h.elim (h4 x) fun h=>(hX x h).2)
  (by rw [z681 fun x hx=>(hX x hx).1,z681 fun x hx hc=>(hX x hx).1 (h3 x hc)];exact h5)
theorem z462 {B:Nat} (hO:EnvOk B J) (X:Own) (W:World):EnvOk B (lendJ X W J):=fun k b o w w' r hr hno ho ⟨h1,h2,h3,h4,h5⟩ =>
 ⟨h1,fun x hx=>(ho.wrote.block x (fun e=>hno (e ▸ h1 x hx))).trans (h2 x hx),h3,fun x hx=>by rw [ho.wrote.size];exact h4 x hx,
  z113 hO h5 (fun x hx=>h4 x hx.1) hr (fun hc=>hno hc.1) ho⟩
theorem z168 {m l:Nat} {vals:Array Value} {R R':Ending→World→Prop} (h:YieldAt (fence none) m P l vals w R) (hr:∀ e w,R e w→R' e w):YieldAt (fence none) m P l vals w R' :=
 let ⟨fn,t,a,b,h1,h2⟩:=h
 ⟨fn,t,a,b,h1,h2.mono hr⟩
theorem z1140 {B B':Nat} (h:B≤B') (hO:EnvOk B J):EnvOk B' J:=fun k b o w w' r hr=>hO k b o w w' r (Nat.le_trans h hr)
theorem z973 {l:Nat} {items:List (List DV)} (hG:GivesE P l J items) (X:Own) (W:World):GivesE P l (lendJ X W J) items:=by
 intro m kk b o X' w vals row hi ho hb hF hX' hrow
 obtain ⟨h1,h2,_,_,h5⟩:=hF w (.refl _ _)
 have hXb:∀ x,X x→b x:=fun x hx=>ho x (h1 x hx)
 refine z168 (hG m kk (fun x=>b x∧¬ X x) (fun x=>o x∧¬ X x) (fun x=>X x∨X' x) w vals row hi (fun x h=>⟨ho x h.1,h.2⟩) (fun x h=>hb x h.1) h5
  (fun x h=>h.elim (fun h=>⟨fun hc=>hc.2 h,hb x (hXb x h)⟩) fun h=>⟨fun hc=>(hX' x h).1 hc.1,(hX' x h).2⟩)
  ⟨hrow.1,fun i d v q1 q2=>(hrow.2 i d v q1 q2).goes fun b o u h3 h4=>⟨fun hc=>h3 (hc.elim (fun h=>.inl h.1) fun h=>h.elim (fun h=>.inl (h1 _ h)) .inr),h4⟩⟩) ?_
 rintro e w' ⟨t,b',o',rfl,q1,q2,q3,q4,q5⟩
 have hX:∀ x,X x→¬ b' x∧x<w'.heap.size:=fun x hx=>⟨q5 x (.inl hx),Nat.lt_of_lt_of_le (hb x (hXb x hx)) q4.1⟩
 refine ⟨t,fun x=>b' x∨X x,fun x=>o' x∨X x,rfl,fun x h=>h.imp (q1 x) id,fun x h=>h.elim (q2 x) fun h=>(hX x h).2,z353 hX (fun x hx=>?_) q1 q2 q3,⟨q4.1,fun x hx hno=>?_⟩,fun x hx=>?_⟩
 ·exact (q4.2 x (hb x (hXb x hx)) (fun hc=>hc.2 hx)).1.trans (h2 x hx)
 ·obtain ⟨p1,p2⟩:=q4.2 x hx (fun hc=>hno hc.1)
  exact ⟨p1,fun hc=>hc.elim p2 fun h=>hno (h1 x h)⟩
 ·rintro (hc | hc)
  ·exact q5 x (.inr hx) hc
  ·exact (hX' x hx).1 (hXb x hc)
def YFn (P:Program) (f:FuncId) (l:Nat) (m0:List Blk) (args:List AV) (items:List (List DV)):Prop:=Enters P f ∧
 ∀ (J:Env) (ITEMS:List (List DV)) (k0:Nat) (w:World) (b own:Own) (μ0:Pl) (vs:Array Value),EnvOk w.heap.size J→GivesE P l J ITEMS→(∀ (i:Nat) row,items[i]?=some row→ITEMS[k0 + i]?=some row) →
  (∀ x,own x→b x)→(∀ x,b x→x<w.heap.size)→MemRel b own w μ0 (m0.map some)→Hid P w (ownOf own μ0)→args.length=vs.size →
  (∀ (i:Nat) x v,args[i]?=some x→vs[i]?=some v→AVRel w (ownOf own μ0) μ0 x v)→Firm J (some k0) b own w →
  Calls P f vs w fun e w'=>∃ t b' o' μ1,e=.returned (.bool t)∧(∀ x,o' x→b' x)∧(∀ x,b' x→x<w'.heap.size)∧MemRel b' o' w' μ1 (m0.map some)∧Firm J (if t then some (k0 + items.length) else none) b' o' w' ∧
   Stays w (ownOf own μ0) w' (ownOf o' μ1)∧∀ i,i<m0.length→μ1 i=μ0 i
def isArr:Blk→Bool
 | .arr .. | .arrP ..=>true
 | _=>false
def handed (st:St):List Nat→Option (List Blk)
 | []=>some []
 | n::ns=>match (st.m[n]?:Option (Option Blk)),handed st ns with
  | some (some b),some l=>if isArr b then some (b::l) else none
  | _,_=>none
theorem z459 {st:St}:∀ {ns:List Nat} {m0:List Blk},handed st ns=some m0→ns.length=m0.length∧∀ (i:Nat) b,m0[i]?=some b→∃ n,ns[i]?=some n∧st.m[n]?=some (some b)∧isArr b=true
 | [],m0,h=>by cases h;exact ⟨rfl,fun i b h=>by simp at h⟩
 | n::ns,m0,h=>by
  unfold handed at h
  split at h
  ·rename_i b l hb hl
   split at h
   ·rename_i ha
    cases h
    obtain ⟨h1,h2⟩:=z459 hl
    refine ⟨by simp [h1],fun i b' hi=>?_⟩
    cases i with
    | zero=>simp at hi;subst hi;exact ⟨n,rfl,hb,ha⟩
    | succ i=>simpa using h2 i b' (by simpa using hi)
   ·cases h
  ·cases h
theorem z455 {b:Blk} (h:isArr b=true) (f:Nat→Option Nat):b.mapN f=b:=by cases b <;> first | rfl | cases h
def callYK (P:Program) (l:Nat) (items:List (List DV)) (o:Oper) (k:Option Nat) (s:St) (K:Option Nat→St→Prop):Prop :=
 ∃ kk,k=some kk∧bindK (callOf o s) fun gx=>∃ (ns:List Nat) (m0:List Blk) (its:List (List DV)),ns.Nodup∧handed s ns=some m0∧YFn P gx.1 l m0 (gx.2.map (AV.mapN (inv ns))) its ∧
  (∀ (i:Nat) row,its[i]?=some row→items[kk + i]?=some row)∧K (some (kk + its.length)) (s.put o.dst (.d (.bool true)))∧K none (s.put o.dst (.d (.bool false)))
theorem z980 (h:StRel P base out st μ tmps w) {l:Nat} {items:List (List DV)} (hG:GivesE P l J items) {B:Nat} (hO:EnvOk B J) (hB:B≤w.heap.size) {kk:Nat} (hJ:Firm J (some kk) base out w)
  {g:FuncId} {xs:List AV} (hc:callOf o st=some (g,xs)) {ns:List Nat} {m0:List Blk} {its:List (List DV)} (hnd:ns.Nodup) (hh:handed st ns=some m0) (hf:YFn P g l m0 (xs.map (AV.mapN (inv ns))) its)
  (hi:∀ (i:Nat) row,its[i]?=some row→items[kk + i]?=some row) {ds:List Deferred} {K:Act→World→Prop} {Q:Exit→Act→World→Prop}
  (hK:∀ (t:Bool) b' o' w',StRel P b' o' (st.put o.dst (.d (.bool t))) μ (putT tmps o.dst (.bool t)) w'→Firm J (if t then some (kk + its.length) else none) b' o' w'→Stays w (ownOf out μ) w' (ownOf o' μ) →
   K { tmps:=putT tmps o.dst (.bool t),defers:=ds } w'):o.wpIn (fence rd) n P { tmps:=tmps,defers:=ds } w K Q:=by
 refine ⟨fun _ _=>trivial,?_⟩
 unfold callOf at hc
 split at hc
 ·rename_i f args ts ho
  obtain ⟨fst,caps,hv,hl,hd⟩:=z719 h hc
  obtain ⟨hln,hget⟩:=z459 hh
  obtain ⟨μ0,hμ0⟩:∃ μ0:Pl,μ0=fun i=>(ns[i]?).bind μ:=⟨_,rfl⟩
  have hμ0i:∀ i n,ns[i]?=some n→μ0 i=μ n:=fun i n hi=>by rw [hμ0];simp [hi]
  have hμ0s:∀ i L,μ0 i=some L→∃ n,ns[i]?=some n∧μ n=some L:=fun i L hi=>by
   rw [hμ0] at hi
   cases hn:ns[i]? with
   | none=>simp [hn] at hi
   | some n=>simp [hn] at hi;exact ⟨n,rfl,hi⟩
  obtain ⟨X,hX⟩:∃ X:Own,X=fun b=>∃ n z l c,n ∉ ns∧μ n=some (.at b z l c):=⟨_,rfl⟩
  have hXm:∀ x,X x→μ.owns x:=fun x hx=>by rw [hX] at hx;obtain ⟨n,z,l,c,_,h2⟩:=hx;exact ⟨n,z,l,c,h2⟩
  have hXb:∀ x,X x→¬ base x∧x<w.heap.size:=fun x hx=>h.own_base x (hXm x hx)
  have hXo:∀ x,X x→¬ out x:=fun x hx hc=>(hXb x hx).1 (h.out x hc)
  have hnb:∀ i b z l c,μ0 i=some (.at b z l c)→¬ (base b∨X b):=by
   rintro i b z l c hi (hc | hc)
   ·obtain ⟨n,_,hn⟩:=hμ0s i _ hi
    exact (h.mem.base n b z l c hn).1 hc
   ·rw [hX] at hc
    obtain ⟨k,z',l',c',h1,h2⟩:=hc
    obtain ⟨n,hn,hn2⟩:=hμ0s i _ hi
    exact h1 (h.mem.inj k n b _ _ _ _ _ _ h2 hn2 ▸ List.mem_of_getElem? hn)
  have hsub:∀ b,ownOf (fun x=>out x∨X x) μ0 b→ownOf out μ b:=by
   rintro b ((hb' | hb') | ⟨i,z,l,c,hi⟩)
   ·exact .inl hb'
   ·exact .inr (hXm b hb')
   ·obtain ⟨n,_,hn⟩:=hμ0s i _ hi;exact .inr ⟨n,z,l,c,hn⟩
  have hless:Goes w (ownOf out μ) w (ownOf (fun x=>out x∨X x) μ0):=fun b o v h1 h2=>⟨fun hc=>h1 (hsub b hc),h2⟩
  have hinv:∀ n,(μ n).isSome→∀ i,inv ns n=some i→μ0 i=μ n:=fun n _ i hi=>hμ0i i n (z86 hi)
  have hM:MemRel (fun x=>base x∨X x) (fun x=>out x∨X x) w μ0 (m0.map some):=by
   refine ⟨fun i b hb=>?_,fun i hi=>?_,fun a k b z l c z' l' c' h1 h2=>?_,fun i b z l c hi=>⟨hnb i b z l c hi,?_,fun hc=>hnb i b z l c hi (hc.imp (h.out b) id)⟩⟩
   ·simp only [List.getElem?_map,Option.map_eq_some_iff,Option.some.injEq] at hb
    obtain ⟨b0,hb0,rfl⟩:=hb
    obtain ⟨n,h1,h2,h3⟩:=hget i b0 hb0
    have:=BlkRel.mapN (n':=i) (.inl hless) (hμ0i i n h1) hinv (fun _ _ _ _ _=>rfl) (h.mem.blk n b0 h2)
    rwa [z455 h3] at this
   ·obtain ⟨L,hL⟩:=Option.isSome_iff_exists.1 hi
    obtain ⟨n,hn,_⟩:=hμ0s i L hL
    have:i<m0.length:=by rw [← hln];exact (List.getElem?_eq_some_iff.1 hn).1
    exact ⟨m0[i],by simp [this]⟩
   ·obtain ⟨n,hn,hμn⟩:=hμ0s a _ h1
    obtain ⟨n',hn',hμn'⟩:=hμ0s k _ h2
    have:=h.mem.inj n n' b _ _ _ _ _ _ hμn hμn'
    subst this
    exact z177 hnd hn hn'
   ·obtain ⟨n,_,hn⟩:=hμ0s i _ hi
    exact z61 h.mem hn
  have hA:∀ (i:Nat) y v,(xs.map (AV.mapN (inv ns)))[i]?=some y→(fst++(args.toList.map (val tmps)).toArray++caps)[i]?=some v→AVRel w (ownOf (fun x=>out x∨X x) μ0) μ0 y v:=by
   intro i y v hy hv
   simp only [List.getElem?_map,Option.map_eq_some_iff] at hy
   obtain ⟨x,hx,rfl⟩:=hy
   exact (hd i x v hx hv).mapN (.inl hless) (fun n _ hs k hk=>hinv n hs k hk)
  have hcalls:=hf.2 (lendJ X w J) items kk w (fun x=>base x∨X x) (fun x=>out x∨X x) μ0 _ (z1140 hB (z462 hO X w)) (z973 hG X w) hi (fun x hx=>hx.imp (h.out x) id) (fun x hx=>hx.elim (h.le x) fun h=>(hXb x h).2)
   hM (h.hid.less hsub) (by simpa using hl) hA (z353 hXb (fun _ _=>rfl) h.out h.le hJ)
  have hrun:(execOp ({ tmps:=tmps,defers:=ds }:Act).eval o).run P w=.ok (.enter g (fst++(args.toList.map (val tmps)).toArray++caps)) w:=by
   unfold execOp
   rw [z48]
   have hargs:args.map (val tmps)=(args.toList.map (val tmps)).toArray:=by apply Array.toList_inj.1;simp
   simp only [val] at hv hargs
   simp only [ho,resolve,hargs,hv,Deferred.ofValue,invoke,Sem.run_bind,Sem.run_pure,Result.andThen_ok,Array.empty_append]
   exact hf.1 _ _
  rw [Oper.semAt_eq _ _ _ (by rw [ho];intro c hc;cases hc),hrun]
  simp only [Oper.uponIn_enter]
  refine ⟨(fun hsome=>(by cases hsome)),?_⟩
  have hci:CallsIn (fence rd) (n - 1) P g (fst++(args.toList.map (val tmps)).toArray++caps) w _:=(callsIn_wide (n:=n - 1)).2 hcalls
  refine hci.mono ?_
  rintro e w' ⟨t,b',o',μ1,rfl,q1,q2,q3,q4,q5,q6⟩
  simp only [z176]
  obtain ⟨j1,j2,_,_,j5⟩:=q4 w' (.refl _ _)
  have hpl:∀ n b z l c,μ n=some (.at b z l c)→X b∨∃ i,ns[i]?=some n∧i<m0.length∧μ1 i=some (.at b z l c):=by
   intro n b z l c hn
   by_cases hm:n ∈ ns
   ·obtain ⟨i,hi⟩:=List.mem_iff_getElem?.1 hm
    have hlt:i<m0.length:=by rw [← hln];exact (List.getElem?_eq_some_iff.1 hi).1
    exact .inr ⟨i,hi,hlt,by rw [q6 i hlt,hμ0i i n hi,hn]⟩
   ·exact .inl (by rw [hX];exact ⟨n,z,l,c,hm,hn⟩)
  have hstays:∀ x,x<w.heap.size→¬ ownOf out μ x→w'.heap[x]?=w.heap[x]?∧¬ ownOf (fun x=>o' x∧¬ X x) μ x:=fun x hx hno=>by
   obtain ⟨p1,p2⟩:=q5.2 x hx (fun hc=>hno (hsub x hc))
   exact ⟨p1,fun hc=>hc.elim (fun h=>p2 (.inl h.1)) fun h=>hno (.inr h)⟩
  have hg:Goes w (ownOf out μ) w' (ownOf (fun x=>o' x∧¬ X x) μ):=fun b o v h1 h2=>by
   obtain ⟨p1,p2⟩:=hstays b (z88 h2) h1
   refine ⟨p2,?_⟩
   simp only [World.cell?] at h2 ⊢
   rw [p1];exact h2
  have hown1:∀ x,ownOf (fun x=>o' x∧¬ X x) μ x→ownOf o' μ1 x:=by
   rintro x (hx | ⟨n,z,l,c,hn⟩)
   ·exact .inl hx.1
   ·rcases hpl n x z l c hn with hx | ⟨i,_,_,hi⟩
    ·exact .inl (j1 x hx)
    ·exact .inr ⟨i,z,l,c,hi⟩
  have hst:StRel P (fun x=>b' x∧¬ X x) (fun x=>o' x∧¬ X x) st μ tmps w':=by
   refine ⟨h.size,fun i x v h1 h2=>(h.tmp i x v h1 h2).goes hg (fun _ _ _=>rfl),⟨fun m blk hm=>?_,h.mem.dom,h.mem.inj,fun m b z l c hb=>?_⟩,h.hid.goes hg,fun x hx=>⟨q1 x hx.1,hx.2⟩,fun x hx=>q2 x hx.1⟩
   ·by_cases hmn:m ∈ ns
    ·obtain ⟨i,hi⟩:=List.mem_iff_getElem?.1 hmn
     have hlt:i<m0.length:=by rw [← hln];exact (List.getElem?_eq_some_iff.1 hi).1
     obtain ⟨n2,e1,e2,e3⟩:=hget i m0[i] (List.getElem?_eq_getElem hlt)
     rw [hi] at e1;cases e1
     rw [hm] at e2;cases e2
     have hb1:=q3.blk i m0[i] (by simp [hlt])
     have hμm:μ m=μ1 i:=by rw [q6 i hlt,hμ0i i m hi]
     have:=BlkRel.mapN (μ':=μ) (n':=m) (h:=fun _=>none) (.inl (fun b o v h1 h2=>⟨fun hc=>h1 (hown1 b hc),h2⟩:Goes w' (ownOf o' μ1) w' (ownOf (fun x=>o' x∧¬ X x) μ))) hμm (fun k _ j hj=>by cases hj) (fun _ _ _ _ _=>rfl) hb1
     rwa [z455 e3] at this
    ·refine (h.mem.blk m blk hm).goes hg rfl (fun _ _=>rfl) (fun b z l c hb=>?_)
     have hXx:X b:=by rw [hX];exact ⟨m,z,l,c,hmn,hb⟩
     exact j2 b hXx
   ·rcases hpl m b z l c hb with hx | ⟨i,_,_,hi⟩
    ·exact ⟨fun hc=>hc.2 hx,Nat.lt_of_lt_of_le (hXb b hx).2 q5.1,fun hc=>hc.2 hx⟩
    ·have:=q3.base i b z l c hi
     exact ⟨fun hc=>this.1 hc.1,this.2.1,fun hc=>this.2.2 hc.1⟩
  exact hK t _ _ w' (hst.put (.d (.bool t)) o.dst) j5 ⟨q5.1,hstays⟩
 ·cases hc
end
end Go.Ab
/- Regions that hand on elements;drawn regions that do so at their end;contracts of functions that hand on elements. -/
namespace Go.Ab
open Go.RowKit
def ysB (ys:List Nat) (dst:Option Tmp):Bool:=match dst with
 | some d=>ys.contains d
 | none=>false
theorem z1082 (ys:List Nat) (d:Tmp):ysB ys (some d)=ys.contains d:=rfl
theorem z1083 (ys:List Nat):ysB ys none=false:=rfl
def stepE (P:Program) (l:Nat) (items:List (List DV)) (ys:List Nat) (o:Oper) (k:Option Nat) (s:St) (K:Option Nat→St→Prop):Prop:=match yieldOf o s with
 | some lx=>yieldKE l lx.1 items lx.2 o.dst k s K
 | none=>match ysB ys o.dst with
  | true=>callYK P l items o k s K
  | false=>stepK P o s (K k)
def guardedEY (P:Program) (l:Nat) (items:List (List DV)) (ys:List Nat) (t:AV) (want:Bool) (o:Oper) (k:Option Nat) (s:St) (K:Option Nat→St→Prop):Prop:=guardK t want (stepE P l items ys o k s K) (K k (s.put o.dst .void))
def guardRunEY (P:Program) (l:Nat) (items:List (List DV)) (ys:List Nat) (t:AV) (want:Bool) (o:Oper) (k:Option Nat) (s:St) (R:Option Nat→St→Prop):Prop:=∀ K':Option Nat→St→Prop,(∀ k s,R k s→K' k s)→guardedEY P l items ys t want o k s K'
def runE (P:Program) (l:Nat) (items:List (List DV)) (ys:List Nat) (ops:Array Oper):List Oper→Option Nat→St→(Option Nat→St→Prop)→Prop
 | [],k,s,K=>K k s
 | o::os,k,s,K=>dstOk o=true∧match guardT ops o with
  | none=>False
  | some none=>stepE P l items ys o k s fun k s=>runE P l items ys ops os k s K
  | some (some (t,want))=>guardRunEY P l items ys (s.ev (.tmp t)) want o k s fun k s=>runE P l items ys ops os k s K
section
variable {P:Program} {base:Own} {out:Own} {st st':St} {μ:Pl} {tmps:Array Value} {w w':World} {o:Oper} {ops:Array Oper} {rd:Option Nat} {n:Nat} {J:Env}
theorem z252 {l:Nat} {items:List (List DV)} {ys:List Nat} {B:Nat} (hG:GivesE P l J items) (hO:EnvOk B J) {ds:List Deferred} {Qm:Exit→Act→World→Prop}:∀ (os:List Oper) (i:Nat) (k:Option Nat) (st:St) (K:Option Nat→St→Prop) (base:Own) (out:Own) (μ:Pl) (tmps:Array Value) (w:World),
  (∀ j o,os[j]?=some o→ops[i + j]?=some o)→runE P l items ys ops os k st K→StRel P base out st μ tmps w→Firm J k base out w→B≤w.heap.size →
  (∀ k' st' base' out' μ' tmps' w',StRel P base' out' st' μ' tmps' w'→Firm J k' base' out' w'→Stays w (ownOf out μ) w' (ownOf out' μ')→Same (opDsts os) tmps tmps'→K k' st'→Qm .normal { tmps:=tmps',defers:=ds } w') →
  wpOpsIn (fence rd) n P ops Qm (List.range' i os.length) { tmps:=tmps,defers:=ds } w
 | [],i,k,st,K,base,out,μ,tmps,w,_,hr,h,hJ,_,hK=>hK k st base out μ tmps w h hJ (.refl _ _) (Same.refl _ _) hr
 | o::os,i,k,st,K,base,out,μ,tmps,w,hos,hr,h,hJ,hB,hK=>by
  rw [List.length_cons,List.range'_succ,wpOpsIn_cons]
  have ho:ops[i]?=some o:=by simpa using hos 0 o (by simp)
  have hos':∀ j o',os[j]?=some o'→ops[i + 1 + j]?=some o':=fun j o' hj=>by have:=hos (j + 1) o' (by simpa using hj);rwa [show i + 1 + j=i + (j + 1) by omega]
  have plain:∀ s',StepG P ops o st s'→dstOk o=true→runE P l items ys ops os k s' K→wpOpIn (fence rd) n P ops Qm i (wpOpsIn (fence rd) n P ops Qm (List.range' (i + 1) os.length)) { tmps:=tmps,defers:=ds } w:=fun s' h1 hd h2 =>
   z138 h ho hd h1 fun tmps' μ' w1 h3 hB1 hSa=>z252 hG hO os (i + 1) k s' K base out μ' tmps' w1 hos' h2 h3 (hJ.next hB1.keep.below) (Nat.le_trans hB hB1.keep.below.size) fun k2 st2 base2 out2 μ2 tmps2 w2 h4 hJ2 hs2 hSa2 hk2 =>
    hK k2 st2 base2 out2 μ2 tmps2 w2 h4 hJ2 (Stays.trans ⟨hB1.keep.below.size,hB1.stays⟩ hs2) (hSa.cons hSa2) hk2
  have yes:Region.wanted o (yielded ops tmps)=true→dstOk o=true→o.guard=none∨(∃ j want t,o.guard=some (j,want)∧(ops[j]?).bind (·.dst)=some t∧st.ev (.tmp t)=.d (.bool want))→stepE P l items ys o k st (fun k s=>runE P l items ys ops os k s K) →
    wpOpIn (fence rd) n P ops Qm i (wpOpsIn (fence rd) n P ops Qm (List.range' (i + 1) os.length)) { tmps:=tmps,defers:=ds } w:=by
   intro hw hd hgd hstep
   unfold stepE at hstep
   split at hstep
   ·rename_i lx hy
    obtain ⟨l',xs⟩:=lx
    obtain ⟨rfl,kk,row,rfl,hrow,harr,hk,ht,hf⟩:=hstep
    unfold wpOpIn
    simp only [ho,hw,if_true]
    refine z729 h hy hG hrow harr hk hJ fun b b' o' μ' w1 h3 hJ1 hs1=>?_
    refine z252 hG hO os (i + 1) (if b then some (kk + 1) else none) _ K b' o' μ' _ w1 hos' (by cases b;exact hf;exact ht) h3 hJ1 (Nat.le_trans hB hs1.1) fun k2 st2 base2 out2 μ2 tmps2 w2 h4 hJ2 hs2 hSa2 hk2 =>
     hK k2 st2 base2 out2 μ2 tmps2 w2 h4 hJ2 (hs1.trans hs2) ((z220 tmps o.dst _).cons hSa2) hk2
   ·split at hstep
    ·obtain ⟨kk,rfl,⟨g,xs⟩,hc,ns,m0,its,hnd,hh,hf,hi,ht,hff⟩:=hstep
     unfold wpOpIn
     simp only [ho,hw,if_true]
     refine z980 h hG hO hB hJ hc hnd hh hf hi fun b b' o' w1 h3 hJ1 hs1=>?_
     refine z252 hG hO os (i + 1) (if b then some (kk + its.length) else none) _ K b' o' μ _ w1 hos' (by cases b;exact hff;exact ht) h3 hJ1 (Nat.le_trans hB hs1.1) fun k2 st2 base2 out2 μ2 tmps2 w2 h4 hJ2 hs2 hSa2 hk2 =>
      hK k2 st2 base2 out2 μ2 tmps2 w2 h4 hJ2 (hs1.trans hs2) ((z220 tmps o.dst _).cons hSa2) hk2
    ·obtain ⟨s1,h1,h2⟩:=z137 hstep
     refine plain s1 ?_ hd h2
     unfold StepG
     rcases hgd with hg | ⟨j,want,t,hg,ht,hev⟩
     ·rw [hg];exact h1
     ·rw [hg];exact ⟨t,ht,.inl ⟨hev,h1⟩⟩
  obtain ⟨hd,hr⟩:=hr
  cases hg:guardT ops o with
  | none=>rw [hg] at hr;exact hr.elim
  | some g =>
   rw [hg] at hr
   cases g with
   | none =>
    have hgp:=z181 hg
    exact yes (by simp [Region.wanted,hgp]) hd (.inl hgp) hr
   | some tw =>
    obtain ⟨t,want⟩:=tw
    obtain ⟨j,hj,ht⟩:=z154 hg
    have hr:guardedEY P l items ys (st.ev (.tmp t)) want o k st (fun k s=>runE P l items ys ops os k s K):=hr _ fun k s hs=>hs
    unfold guardedEY guardK at hr
    split at hr
    ·rename_i b hev
     by_cases hb:b=want
     ·subst hb
      refine yes ?_ hd (.inr ⟨j,b,t,hj,ht,hev⟩) (hr.1 rfl)
      obtain ⟨v,hv,hrel⟩:=z471 h hev (by simp)
      have:=z87 hrel
      subst this
      have:yielded ops tmps j=some b:=by unfold yielded;rw [ht];simp [hv]
      simp [Region.wanted,hj,this]
     ·have hb':b=!want:=by cases b <;> cases want <;> simp_all
      exact plain _ (by unfold StepG;rw [hj];exact ⟨t,ht,.inr ⟨.inl (by rw [hev,hb']),rfl⟩⟩) hd (hr.2 hb')
    ·rename_i hev
     exact plain _ (by unfold StepG;rw [hj];exact ⟨t,ht,.inr ⟨.inr hev,rfl⟩⟩) hd hr
    ·exact hr.elim
theorem z551 {l:Nat} {items:List (List DV)} (hG:GivesE P l J items) (ys:List Nat) {id:Nat} {k:Option Nat} {Q:Exit→Option Nat→St→Prop} (h:runE P l items ys ops ops.toList k st (Q .normal)) :
  Walk P rd n J (.region id ops false) k st Q:=fun B base out μ tmps w ds hO hst hJ hM=>by
 refine wpIn_region ?_
 have:=z252 (n:=n) (rd:=rd) hG hO (ds:=ds) (Qm:=Ends P J B (dsts (.region id ops false)) (ownOf out μ) tmps w Q) ops.toList 0 k st (Q .normal) base out μ tmps w (fun j o hj=>by simpa using hj) h hst hJ hM.1
  (fun k' st' base' out' μ' tmps' w' h1 hJ' hs hSa hk=>⟨k',st',base',out',μ',h1,hJ',hM.stays hs,hs,hSa,hk⟩)
 rw [List.range_eq_range']
 simpa using this
theorem z470 {l:Nat} {items:List (List DV)} (hG:GivesE P l J items) (ys:List Nat) {id:Nat} {k:Option Nat} {cs:List Code} {Q:Exit→Option Nat→St→Prop}
  (h:∀ K:Option Nat→St→Prop,(∀ k s,WalkL P rd n J cs k s Q→K k s)→runE P l items ys ops ops.toList k st K):WalkL P rd n J (.region id ops false::cs) k st Q :=
 z551 hG ys (h _ fun _ _ h=>h)
theorem z903 {Q:Exit→Act→World→Prop} {ρ:Type} (ix:ρ→Nat) (I:ρ→ρ→Prop) (C:List ρ→St→St→Prop) (hCn:∀ s s',C [] s s'→s=s')
  (hCc:∀ r rs s s',C (r::rs) s s'→∃ o s1,ops[ix r]?=some o∧dstOk o=true∧StepG P ops o s s1∧C rs s1 s') (hCb:∀ r B s s' A,(∀ a ∈ A,I a r)→C (A++r::B) s s'→C (r::(A++B)) s s')
  (hback:backB ops=true) (p:Nat) (htail:∀ i j,i<p→p≤j→j<ops.size→Anc ops i j) (f:Nat) {ds:List Deferred}:∀ (fuel:Nat) (listed:Array Bool) (rs:List ρ) (st:St) (μ:Pl) (tmps:Array Value) (w:World),
  rs.length=fuel→(rs.map ix).Pairwise (·<·)→listed.size=ops.size→(∀ i,i ∈ rs.map ix↔i<p∧listed[i]?=some false)→(∀ j,p≤j→j<ops.size→listed[j]?=some false) →
  (∀ (k:Nat) o,ops[k]?=some o→listed[k]?=some true→∀ e ∈ o.after,Region.binds .any e=true→listed[e.on]?=some true) →
  rs.Pairwise (fun a b=>Anc ops (ix a) (ix b)∨I a b)→C rs st st'→StRel P base out st μ tmps w →
  (∀ listed' tmps' μ' w',listed'.size=ops.size→(∀ i,i<p→i<ops.size→listed'[i]?=some true)→(∀ j,p≤j→j<ops.size→listed'[j]?=some false)→StRel P base out st' μ' tmps' w'→KeepO base (ownOf out μ) w (ownOf out μ') w' →
   Same (opDsts ops.toList) tmps tmps'→wpAnyIn (fence rd) n P .any ops Q f listed' { tmps:=tmps',defers:=ds } w') →
  wpAnyIn (fence rd) n P .any ops Q (f + fuel) listed { tmps:=tmps,defers:=ds } w:=by
 intro fuel
 induction fuel with
 | zero =>
  intro listed rs st μ tmps w hlen hsort hsize hmem htl hclosed hpairs hchain h hK
  have hnil:rs=[]:=List.eq_nil_of_length_eq_zero hlen
  subst hnil
  obtain rfl:=hCn _ _ hchain
  refine hK listed tmps μ w hsize (fun i hi hs=>?_) htl h (KeepO.refl _ _ _) (Same.refl _ _)
  have hl:i<listed.size:=by omega
  have:=mt (hmem i).2 (by simp)
  cases hb:listed[i] with
  | true=>simp [hl,hb]
  | false=>exact absurd ⟨hi,by simp [hl,hb]⟩ this
 | succ fuel ih =>
  intro listed rs st μ tmps w hlen hsort hsize hmem htl hclosed hpairs hchain h hK
  refine ⟨fun hready=>?_,fun i hi=>?_⟩
  ·cases rs with
   | nil=>simp at hlen
   | cons r rs =>
    exfalso
    obtain ⟨o,s1,ho,hd,hl,ht⟩:=hCc _ _ _ _ hchain
    obtain ⟨hrp,hun⟩:=(hmem (ix r)).1 (by simp)
    have:ix r ∈ Region.ready .any ops listed:=by
     refine mem_ready.2 ⟨by simp [hun],o,ho,fun e he hb=>?_⟩
     have hlt:=z127 hback ho he hb
     have hel:e.on<listed.size:=by
      rw [hsize]
      have:=(Array.getElem?_eq_some_iff.1 ho).1
      omega
     have hnot:e.on ∉ (r::rs).map ix:=by
      simp only [List.map_cons,List.mem_cons,not_or]
      refine ⟨by omega,fun hc=>?_⟩
      simp only [List.map_cons,List.pairwise_cons] at hsort
      have:=hsort.1 _ hc
      omega
     have hb':listed[e.on]≠false:=fun hc=>hnot ((hmem e.on).2 ⟨by omega,by simp [hel,hc]⟩)
     simp [hel]
     simpa using hb'
    rw [hready] at this
    cases this
  ·obtain ⟨h1,o,ho,z39⟩:=mem_ready.1 hi
   have hil:i<listed.size:=by rw [hsize];exact (Array.getElem?_eq_some_iff.1 ho).1
   have hun:listed[i]?=some false:=by
    simp [hil] at h1 ⊢
    exact h1
   have hanc0:∀ a b,Anc ops a b→listed[b]?=some true∨b=i→listed[a]?=some true:=by
    intro a b hab
    induction hab with
    | edge ho' he hb =>
     rintro (hk | rfl)
     ·exact hclosed _ _ ho' hk _ he hb
     ·rw [ho] at ho'
      cases ho'
      have:=z39 _ he hb
      simp only [Array.getD_eq_getD_getElem?] at this
      cases hk:listed[(_:Nat)]? with
      | none=>rw [hk] at this;cases this
      | some b=>rw [hk] at this;simp at this;rw [this]
    | step h1 h2 ih1 ih2=>intro hk;exact ih1 (.inl (ih2 hk))
   have hip:i<p:=by
    refine Classical.byContradiction fun hge=>?_
    cases rs with
    | nil=>simp at hlen
    | cons r rs =>
     obtain ⟨hrp,hur⟩:=(hmem (ix r)).1 (by simp)
     have:=hanc0 (ix r) i (htail (ix r) i hrp (by omega) (by omega)) (.inr rfl)
     rw [hur] at this
     cases this
   have hin:=(hmem i).2 ⟨hip,hun⟩
   simp only [List.mem_map] at hin
   obtain ⟨r,hr,rfl⟩:=hin
   obtain ⟨A,B,rfl⟩:=List.append_of_mem hr
   have hA:∀ a ∈ A,I a r:=by
    intro a ha
    rw [List.pairwise_append] at hpairs
    rcases hpairs.2.2 a ha r (by simp) with hc | hc
    ·exfalso
     have h2:=hanc0 _ _ hc (.inr rfl)
     have h3:=((hmem (ix a)).1 (by simp only [List.mem_map];exact ⟨a,by simp [ha],rfl⟩)).2
     rw [h2] at h3
     cases h3
    ·exact hc
   obtain ⟨o',s1,ho',hd,hl,ht⟩:=hCc _ _ _ _ (hCb r B st st' A hA hchain)
   rw [ho] at ho'
   cases ho'
   refine z138 h ho hd hl (fun tmps' μ' w' h2 hB hS=>?_)
   have hsub:(A++B).Sublist (A++r::B):=List.Sublist.append_left (List.sublist_cons_self r B) A
   refine ih (listed.setIfInBounds (ix r) true) (A++B) _ μ' tmps' w' (by simp at hlen ⊢;omega) (hsort.sublist (hsub.map _)) (by simp [hsize]) (fun k=>?_) (fun j hj hs=>?_) (fun k o' hk hlk e he hb=>?_) (hpairs.sublist hsub) ht h2
    (fun listed2 tmps2 μ2 w2 g1 g2 g3 h3 hB2 hS2=>hK listed2 tmps2 μ2 w2 g1 g2 g3 h3 (hB.trans hB2) (hS.within hS2 (z257 (os:=ops.toList) (by simpa using Array.mem_of_getElem? ho))))
   ·rw [Array.getElem?_setIfInBounds]
    by_cases hk:ix r=k
    ·subst hk
     simp only [if_true,hil]
     constructor
     ·intro hc
      exfalso
      rw [List.map_append,List.pairwise_append] at hsort
      simp only [List.map_append,List.mem_append] at hc
      rcases hc with hc | hc
      ·have:=hsort.2.2 _ hc (ix r) (by simp);omega
      ·have:=hsort.2.1
       simp only [List.map_cons,List.pairwise_cons] at this
       have:=this.1 _ hc;omega
     ·intro hc;cases hc.2
    ·rw [if_neg hk,← hmem k]
     simp only [List.map_append,List.map_cons,List.mem_append,List.mem_cons]
     constructor
     ·rintro (hc | hc)
      ·exact .inl hc
      ·exact .inr (.inr hc)
     ·rintro (hc | rfl | hc)
      ·exact .inl hc
      ·exact absurd rfl hk
      ·exact .inr hc
   ·rw [Array.getElem?_setIfInBounds,if_neg (by omega)]
    exact htl j hj hs
   ·have hon:listed[e.on]?=some true:=by
     rw [Array.getElem?_setIfInBounds] at hlk
     by_cases hkr:ix r=k
     ·subst hkr
      rw [ho] at hk
      cases hk
      have:=z39 e he hb
      simp only [Array.getD_eq_getD_getElem?] at this
      cases hk2:listed[e.on]? with
      | none=>rw [hk2] at this;cases this
      | some b=>rw [hk2] at this;simp at this;rw [this]
     ·rw [if_neg hkr] at hlk
      exact hclosed k o' hk hlk e he hb
    rw [Array.getElem?_setIfInBounds]
    split
    ·first | rfl | (split <;> simp_all)
    ·exact hon
theorem z206:∀ {os:List Oper} (p:Nat) {i:Nat},i ∈ opDsts (os.drop p)→i ∈ opDsts os
 | [],p,i,h=>by simpa using h
 | o::os,0,i,h=>h
 | o::os,p + 1,i,h=>by
  have:=z206 (os:=os) p (by simpa using h)
  unfold opDsts
  split
  ·exact List.mem_cons_of_mem _ this
  ·exact this
theorem z545 {Q:Exit→Act→World→Prop} (hback:backB ops=true) {p:Nat} (htail:∀ i j,i<j→p≤j→j<ops.size→Anc ops i j):∀ (r q:Nat) (listed:Array Bool) (a:Act) (w:World),q + r=ops.size→p≤q→listed.size=ops.size →
  (∀ i,i<q→listed[i]?=some true)→(∀ j,q≤j→j<ops.size→listed[j]?=some false)→wpOpsIn (fence rd) n P ops Q (List.range' q r) a w→wpAnyIn (fence rd) n P .any ops Q r listed a w
 | 0,q,listed,a,w,hq,_,hs,h1,_,h=>by
  refine ⟨List.eq_nil_iff_forall_not_mem.2 fun j hj=>?_,h⟩
  obtain ⟨g1,o,ho,_⟩:=mem_ready.1 hj
  have hlt:=(Array.getElem?_eq_some_iff.1 ho).1
  have:=h1 j (by omega)
  simp [this] at g1
 | r + 1,q,listed,a,w,hq,hp,hs,h1,h2,h=>by
  rw [List.range'_succ,wpOpsIn_cons] at h
  have hqs:q<ops.size:=by omega
  refine ⟨fun hready=>?_,fun i hi=>?_⟩
  ·exfalso
   have:q ∈ Region.ready .any ops listed:=by
    refine mem_ready.2 ⟨by simp [h2 q (Nat.le_refl _) hqs],ops[q],by simp [hqs],fun e he hb=>?_⟩
    have hlt:=z127 hback (by simp [hqs]:ops[q]?=some ops[q]) he hb
    simp [h1 e.on hlt]
   rw [hready] at this
   cases this
  ·obtain ⟨g1,o,ho,z39⟩:=mem_ready.1 hi
   have his:i<ops.size:=(Array.getElem?_eq_some_iff.1 ho).1
   have hiq:q≤i:=by
    refine Classical.byContradiction fun hc=>?_
    have:=h1 i (by omega)
    simp [this] at g1
   have hei:i=q:=by
    refine Classical.byContradiction fun hc=>?_
    have hanc0:∀ a b,Anc ops a b→listed[b]?=some true∨b=i→listed[a]?=some true:=by
     intro a b hab
     induction hab with
     | edge ho' he hb =>
      rintro (hk | rfl)
      ·have hlt:=z127 hback ho' he hb
       refine h1 _ ?_
       refine Nat.lt_of_lt_of_le hlt (Nat.le_of_not_lt fun hc=>?_)
       have:=h2 _ (Nat.le_of_lt hc) (Array.getElem?_eq_some_iff.1 ho').1
       rw [this] at hk
       cases hk
      ·rw [ho] at ho'
       cases ho'
       have:=z39 _ he hb
       simp only [Array.getD_eq_getD_getElem?] at this
       cases hk:listed[(_:Nat)]? with
       | none=>rw [hk] at this;cases this
       | some b=>rw [hk] at this;simp at this;rw [this]
     | step h1 h2 ih1 ih2=>intro hk;exact ih1 (.inl (ih2 hk))
    have:=hanc0 q i (htail q i (by omega) (by omega) his) (.inr rfl)
    rw [h2 q (Nat.le_refl _) hqs] at this
    cases this
   subst hei
   refine wpOpIn_mono (fun a w hk=>?_) h
   refine z545 hback htail r (i + 1) _ a w (by omega) (by omega) (by simp [hs]) (fun j hj=>?_) (fun j hj hjs=>?_) hk
   ·rw [Array.getElem?_setIfInBounds]
    by_cases hji:i=j
    ·subst hji;simp [hs,his]
    ·rw [if_neg hji];exact h1 j (by omega)
   ·rw [Array.getElem?_setIfInBounds,if_neg (by omega)]
    exact h2 j (by omega) hjs
def ancAll (mk:List Nat) (j:Nat):Nat→Bool
 | 0=>true
 | i + 1=>(mk.getD j 0).testBit i && ancAll mk j i
theorem z368 {mk:List Nat} {j:Nat}:∀ {m i:Nat},ancAll mk j m=true→i<m→(mk.getD j 0).testBit i=true
 | 0,i,_,h=>by omega
 | m + 1,i,h,hi=>by
  rw [ancAll,Bool.and_eq_true] at h
  by_cases he:i=m
  ·subst he;exact h.1
  ·exact z368 h.2 (by omega)
def tailB (ops:Array Oper) (p:Nat):Bool:=(List.range ops.size).all fun j=>decide (j<p) || ancAll (masks ops.toList []) j j
theorem z183 {p:Nat} (h:tailB ops p=true):∀ i j,i<j→p≤j→j<ops.size→Anc ops i j:=fun i j hij hp hj=>by
 simp only [tailB,List.all_eq_true,List.mem_range] at h
 have:=h j hj
 simp only [Bool.or_eq_true,decide_eq_true_eq] at this
 exact z143 ops.toList [] (fun k i hk=>by simp at hk) (fun k o hk=>by simpa using hk) j i (z368 (this.resolve_left (by omega)) hij)
theorem z733 {l:Nat} {items:List (List DV)} (hG:GivesE P l J items) (ys:List Nat) (p:Nat) {id:Nat} {k:Option Nat} {Q:Exit→Option Nat→St→Prop} (hfol:P.follows .mixedOrders=true) (hback:backB ops=true) (hp:tailB ops p=true) (hps:p≤ops.size)
  (h:runD P ops (ops.toList.take p) 0 [] st fun s=>runE P l items ys ops (ops.toList.drop p) k s (Q .normal)):Walk P rd n J (.region id ops true) k st Q:=fun B base out μ tmps w ds hO hst hJ hM=>by
 obtain ⟨rs,s1,hch,hrs,hpr,hrest⟩:=z185 (ops.toList.take p) 0 [] st _ (fun j o hj=>by
  rw [List.getElem?_take] at hj
  split at hj
  ·simpa using hj
  ·cases hj) h
 have hrl:rs.map (·.i)=List.range p:=by rw [hrs,List.range_eq_range'];simp [hps]
 have hlen:rs.length=p:=by have:=congrArg List.length hrl;simpa using this
 refine wpIn_region_any hfol ?_
 have hB0:Below w.heap.size w { w with drawn:=w.drawn + 1 }:=(Below.refl _ w).drew
 have hsz:ops.size=(ops.size - p) + p:=by omega
 conv=>arg 7;rw [hsz]
 have hpairs:=z255 (fun k i=>z143 ops.toList [] (fun k i hk=>by simp at hk) (fun k o hk=>by simpa using hk) k i) (by simpa using hpr:pairsB ops (masks ops.toList []) (rs.map Rec.key)=true)
 refine z903 (·.i) (fun a b=>indepB ops a.key b.key=true) (Chain P ops) (fun _ _ h=>by cases h;rfl) (fun r rs s s' h=>by cases h with | cons ho hd hl ht=>exact ⟨_,_,ho,hd,hl.1.step,ht⟩) (fun r B s s' A hA h=>z1067 A s hA h)
  hback p (fun i j hi hj hs=>z183 hp i j (by omega) hj hs) (ops.size - p) p _ rs st μ tmps _ hlen (by rw [hrl];exact List.pairwise_lt_range) (by simp) (fun i=>?_) (fun j hj hs=>by simp [hs]) (fun k o ho hk=>?_) hpairs hch (hst.below hB0) (fun listed' tmps' μ' w' g1 g2 g3 h1 hB hS=>?_)
 ·rw [hrl]
  simp only [List.mem_range,Array.getElem?_replicate]
  constructor
  ·intro hi;exact ⟨hi,by rw [if_pos (by omega)]⟩
  ·intro hi;exact hi.1
 ·simp only [Array.getElem?_replicate] at hk
  split at hk <;> simp at hk
 ·have hB1:=(KeepO.below (own:=ownOf out μ) hB0 hst.le).trans hB
  refine z545 hback (z183 hp) (ops.size - p) p listed' _ w' (by omega) (Nat.le_refl _) g1 (fun i hi=>g2 i hi (by omega)) g3 ?_
  have hst1:Stays w (ownOf out μ) w' (ownOf out μ'):=⟨hB1.keep.below.size,hB1.stays⟩
  have:=z252 (n:=n) (rd:=rd) hG hO (ds:=ds) (Qm:=Ends P J B (dsts (.region id ops true)) (ownOf out μ) tmps w Q) (ops.toList.drop p) p k s1 (Q .normal) base out μ' tmps' w' (fun j o hj=>by simpa [List.getElem?_drop] using hj) hrest h1 (Firm.next hJ hB1.keep.below) (Nat.le_trans hM.1 hst1.1)
   (fun k' st' base' out' μ2 tmps2 w2 h2 hJ' hs hSa hk=>⟨k',st',base',out',μ2,h2,hJ',hM.stays (hst1.trans hs),hst1.trans hs,hS.trans (hSa.mono fun i hi=>?_),hk⟩)
  ·simpa using this
  ·exact z206 p hi
theorem z271 {l:Nat} {items:List (List DV)} (hG:GivesE P l J items) (ys:List Nat) (p:Nat) {id:Nat} {k:Option Nat} {cs:List Code} {Q:Exit→Option Nat→St→Prop} (hfol:P.follows .mixedOrders=true) (hback:backB ops=true) (hp:tailB ops p=true) (hps:p≤ops.size)
  (h:∀ K:Option Nat→St→Prop,(∀ k s,WalkL P rd n J cs k s Q→K k s)→runD P ops (ops.toList.take p) 0 [] st fun s=>runE P l items ys ops (ops.toList.drop p) k s K):WalkL P rd n J (.region id ops true::cs) k st Q :=
 z733 hG ys p hfol hback hp hps (h _ fun _ _ h=>h)
end
end Go.Ab
/- Contracts of iterators of the second kind,and of functions that hand on elements;the range over such an iterator. -/
namespace Go.Ab
open Go.RowKit
section
variable {P:Program} {base:Own} {out:Own} {st st':St} {μ:Pl} {tmps:Array Value} {w w':World} {J:Env} {k:Option Nat} {B:Nat}
theorem z706 {b o:Own} (h:Firm J k b o w):Firm (Firm J) k b o w:=fun _ hb=>h.next hb
theorem z1183 {b o:Own} (h:Firm (Firm J) k b o w):Firm J k b o w:=h w (.refl _ _)
theorem z463 (hO:EnvOk B J):EnvOk B (Firm J):=fun k b o w w' r hr hno ho hF=>by
 by_cases hrs:r<w.heap.size
 ·exact z710 hO hF hr hno hrs ho
 ·intro w2 h2
  refine hF w2 ⟨h2.os.trans ho.wrote.os,h2.tape.trans ho.wrote.tape,h2.output.trans ho.wrote.output,by rw [← ho.wrote.size];exact h2.size,fun q hq=>?_⟩
  rw [h2.block q hq]
  by_cases he:q=r
  ·subst he
   rw [Array.getElem?_eq_none (Nat.le_of_not_lt hrs),Array.getElem?_eq_none (by rw [ho.wrote.size];exact Nat.le_of_not_lt hrs)]
  ·exact ho.wrote.block q he
theorem z974 {l:Nat} {items:List (List DV)} (hG:GivesE P l J items):GivesE P l (Firm J) items:=by
 intro m kk b o X w vals row hi ho hb hF hX hrow
 refine z168 (hG m kk b o X w vals row hi ho hb (z1183 hF) hX hrow) ?_
 rintro e w' ⟨t,b',o',rfl,q1,q2,q3,q4,q5⟩
 exact ⟨t,b',o',rfl,q1,q2,z706 q3,q4,q5⟩
def IterE (P:Program) (f:FuncId) (m0:List Blk) (args:Nat→List AV) (items:List (List DV)):Prop:=Enters P f ∧
 ∀ (l:Nat) (J:Env) (w:World) (b own:Own) (μ0:Pl) (vs:Array Value),EnvOk w.heap.size J→GivesE P l J items→(∀ x,own x→b x)→(∀ x,b x→x<w.heap.size)→MemRel b own w μ0 (m0.map some)→Hid P w (ownOf own μ0)→(args l).length=vs.size →
  (∀ (i:Nat) x v,(args l)[i]?=some x→vs[i]?=some v→AVRel w (ownOf own μ0) μ0 x v)→Firm J (some 0) b own w →
  Calls P f vs w fun e w'=>∃ v b' o',e=.returned v∧(∀ x,o' x→b' x)∧(∀ x,b' x→x<w'.heap.size)∧(Firm J (some items.length) b' o' w'∨Firm J none b' o' w')
theorem z970 {f:FuncId} {fn:Func} {c:Code} {m0:List Blk} {args:Nat→List AV} {items:List (List DV)} (M:Nat) (he:∀ args w,(callFunc f args).run P w=.ok (.enter f args) w) (hf:P.funcs[f]?=some fn) (hb:fn.body=some c) (h4:fn.results=#[])
  (hw:∀ l J,GivesE P l J items→WalkL P none 0 J [c] (some 0) (St.startG m0 (args l) fn.ntmps M) (fun e k _=>endsOk e∧(k=some items.length∨k=none))):IterE P f m0 args items:=by
 refine ⟨he,fun l J w b own μ0 vs hO hG hown hle hM hh hl ha hJ=>?_⟩
 have hst0:=z249 (nt:=fn.ntmps) M hown hle hM hh hl ha
 refine z89 hf hb (by rw [h4];simp) hst0 (z60 (hw l (Firm J) (z974 hG))) (z463 hO) (z706 hJ) fun e k s hq=>?_
 refine ⟨hq.1,.tup [],by simp [resultsA,h4,allSome,retA],fun base' out' μ tmps v w' hst _ hj _ _=>⟨v,base',out',rfl,hst.out,hst.le,?_⟩⟩
 rcases hq.2 with rfl | rfl
 ·exact .inl hj
 ·exact .inr hj
def nameV:AV→Option Nat
 | .vh n _ | .vc n _=>some n
 | _=>none
theorem z675 {own:Own} {x:AV} {n:Nat} {v:Value} (h:nameV x=some n) (hx:AVRel w own μ x v):∃ b z c len,μ n=some (.at b z c c)∧v=.slice (some ⟨b,0,none⟩) len c:=by
 cases hx with
 | vh len h1 _=>cases h;exact ⟨_,_,_,_,h1,rfl⟩
 | vc len h1 _=>cases h;exact ⟨_,_,_,_,h1,rfl⟩
 | _=>cases h
def pinsY (m0:List Blk) (args:List AV) (M:Nat) (s:St):List Nat→Nat→Prop
 | [],_=>True
 | p::ps,i=>(match args[p]?,(s.t[p]?:Option AV),m0[i]?,(s.m[M + i]?:Option (Option Blk)) with
  | some x,some y,some (.arrP e z rows),some (some (.arrP e' z' rows'))=>nameV x=some i∧nameV y=some (M + i)∧e=e'∧z=z'∧rows=rows'
  | _,_,_,_=>False)∧pinsY m0 args M s ps (i + 1)
theorem z659 {m0:List Blk} {args:List AV} {M:Nat} {s:St}:∀ {ps:List Nat} {i0:Nat},pinsY m0 args M s ps i0→∀ (j p:Nat),ps[j]?=some p →
  ∃ x y e z rows,args[p]?=some x∧s.t[p]?=some y∧m0[i0 + j]?=some (.arrP e z rows)∧s.m[M + (i0 + j)]?=some (some (.arrP e z rows))∧nameV x=some (i0 + j)∧nameV y=some (M + (i0 + j))
 | [],_,_,j,p,h=>by simp at h
 | q::ps,i0,h,j,p,hj=>by
  obtain ⟨h1,h2⟩:=h
  cases j with
  | zero =>
   simp at hj;subst hj
   split at h1
   ·rename_i e1 e2 e3 e4
    obtain ⟨a1,a2,rfl,rfl,rfl⟩:=h1
    exact ⟨_,_,_,_,_,e1,e2,e3,e4,a1,a2⟩
   ·exact h1.elim
  | succ j =>
   have:=z659 h2 j p (by simpa using hj)
   rwa [show i0 + 1 + j=i0 + (j + 1) by omega] at this
def retY (P:Program) (rs:Array ResultVar) (m0:List Blk) (args:List AV) (M:Nat) (ps:List Nat) (items:List (List DV)) (ex:Exit) (k:Option Nat) (s:St):Prop :=
 endsOk ex∧bindK (resultsA P s rs) fun x=>match x with
  | .d (.bool t)=>(k=if t then some items.length else none)∧pinsY m0 args M s ps 0
  | _=>False
theorem z292 {f:FuncId} {fn:Func} {c:Code} {l:Nat} {m0:List Blk} {args:List AV} {items:List (List DV)} (M:Nat) (he:∀ args w,(callFunc f args).run P w=.ok (.enter f args) w) (hf:P.funcs[f]?=some fn) (hb:fn.body=some c) (h4:fn.results.size≤4)
  (ps:List Nat) (hps:ps.length=m0.length) (hD:ps.all (fun q=>!(dsts c).contains q)=true)
  (hw:∀ J ITEMS,GivesE P l J ITEMS→(∀ (i:Nat) row,items[i]?=some row→ITEMS[i]?=some row)→WalkL P none 0 J [c] (some 0) (St.startG m0 args fn.ntmps M) (retY P fn.results m0 args M ps items)):YFn P f l m0 args items:=by
 refine ⟨he,fun J ITEMS k0 w b own μ0 vs hO hG hit hown hle hM hh hl ha hJ=>?_⟩
 have hst0:=z249 (nt:=fn.ntmps) M hown hle hM hh hl ha
 obtain ⟨μs,hμs⟩:∃ μs:Pl,μs=fun k=>if M≤k then μ0 (k - M) else none:=⟨_,rfl⟩
 rw [← hμs] at hst0
 have hs0:∀ x,ownOf own μs x↔ownOf own μ0 x:=by
  intro x
  rw [hμs]
  constructor
  ·rintro (h | ⟨n,z,l,c,h⟩)
   ·exact .inl h
   ·dsimp only at h;split at h
    ·exact .inr ⟨_,z,l,c,h⟩
    ·cases h
  ·rintro (h | ⟨n,z,l,c,h⟩)
   ·exact .inl h
   ·exact .inr ⟨M + n,z,l,c,by simp [h]⟩
 -- phases from none on
 obtain ⟨J',hJ'⟩:∃ J':Env,J'=fun k b o w=>Firm J (k.map (· + k0)) b o w:=⟨_,rfl⟩
 have hff:∀ k b o w,Firm J' k b o w↔Firm J (k.map (· + k0)) b o w:=fun k b o w=>by
  rw [hJ']
  exact ⟨fun h=>h w (.refl _ _),fun h _ hb=>h.next hb⟩
 have hG':GivesE P l J' (ITEMS.drop k0):=by
  intro m kk b o X w vals row hi ho hb hF hX hrow
  rw [List.getElem?_drop] at hi
  have:=hG m (kk + k0) b o X w vals row (by rw [Nat.add_comm];exact hi) ho hb ((hff _ _ _ _).1 hF) hX hrow
  refine z168 this ?_
  rintro e w' ⟨t,b',o',rfl,q1,q2,q3,q4,q5⟩
  refine ⟨t,b',o',rfl,q1,q2,(hff _ _ _ _).2 ?_,q4,q5⟩
  cases t
  ·exact q3
  ·simpa [Nat.add_right_comm] using q3
 have hO':EnvOk w.heap.size J':=by
  rw [hJ']
  exact fun k b o w w' r hr hno ho hF=>z463 hO _ b o w w' r hr hno ho hF
 refine z89 hf hb h4 hst0 (z60 (hw J' (ITEMS.drop k0) hG' (fun i row hi=>by rw [List.getElem?_drop];exact hit i row hi))) hO' ((hff _ _ _ _).2 (by simpa using hJ)) fun e k s hq=>?_
 obtain ⟨hend,x,hx,hq⟩:=hq
 refine ⟨hend,x,hx,?_⟩
 intro b' o' μ tmps v w' hst hv hj hstay hsame
 split at hq
 ·rename_i t
  obtain ⟨rfl,hpin⟩:=hq
  have hvb:v=.bool t:=z87 hv
  have hpl:∀ i,i<m0.length→μ (M + i)=μ0 i∧m0[i]?=(s.m[M + i]?).join∧∃ e z rows,m0[i]?=some (.arrP e z rows):=by
   intro i hi
   obtain ⟨p,hp⟩:∃ p,ps[i]?=some p:=⟨_,List.getElem?_eq_getElem (by omega)⟩
   obtain ⟨x,y,e,z,rows,h1,h2,h3,h4',h5,h6⟩:=z659 hpin i p hp
   rw [Nat.zero_add] at h3 h4' h5 h6
   have hpd:p ∉ dsts c:=by
    have:=List.all_eq_true.1 hD p (List.mem_of_getElem? hp)
    simpa using this
   have hpl:p<args.length:=(List.getElem?_eq_some_iff.1 h1).1
   have hpv:p<vs.size:=by omega
   have hv0:(vs++Array.replicate (fn.ntmps - vs.size) undef)[p]?=some vs[p]:=by rw [Array.getElem?_append_left hpv];simp [hpv]
   have hv1:=hsame.2 p hpd
   rw [hv0] at hv1
   have r1:=ha p x vs[p] h1 (by simp [hpv])
   have r2:=hst.tmp p y vs[p] h2 hv1
   obtain ⟨b1,z1,c1,len1,e1,e2⟩:=z675 h5 r1
   obtain ⟨b2,z2,c2,len2,e3,e4⟩:=z675 h6 r2
   rw [e2] at e4
   simp only [Value.slice.injEq,Option.some.injEq,Addr.mk.injEq] at e4
   obtain ⟨⟨eb,_,_⟩,_,ec⟩:=e4
   subst eb;subst ec
   have k1:=hM.arrP (n:=i) (by rw [List.getElem?_map,h3];rfl)
   have k2:=hst.mem.arrP h4'
   obtain ⟨b3,c3,cs3,g1,_⟩:=k1
   obtain ⟨b4,c4,cs4,g2,_⟩:=k2
   rw [e1] at g1;cases g1
   rw [e3] at g2;cases g2
   exact ⟨by rw [e1,e3],by rw [h3,h4'];rfl,e,z,rows,h3⟩
  obtain ⟨μ1,hμ1⟩:∃ μ1:Pl,μ1=fun i=>if i<m0.length then μ (M + i) else none:=⟨_,rfl⟩
  have h1s:∀ i L,μ1 i=some L→i<m0.length∧μ (M + i)=some L:=fun i L hi=>by
   rw [hμ1] at hi
   dsimp only at hi
   split at hi
   ·exact ⟨by assumption,hi⟩
   ·cases hi
  have h1i:∀ i,i<m0.length→μ1 i=μ (M + i):=fun i hi=>by rw [hμ1];simp [hi]
  have hsub:∀ q,ownOf o' μ1 q→ownOf o' μ q:=by
   rintro q (h | ⟨i,z,l,c,h⟩)
   ·exact .inl h
   ·exact .inr ⟨M + i,z,l,c,(h1s i _ h).2⟩
  have hg:Goes w' (ownOf o' μ) w' (ownOf o' μ1):=fun q o u h1 h2=>⟨fun hc=>h1 (hsub q hc),h2⟩
  refine ⟨t,b',o',μ1,by rw [hvb],hst.out,hst.le,⟨fun i b1 hi=>?_,fun i hi=>?_,fun a k q z l c z' l' c' q1 q2=>?_,fun i q z l c hi=>?_⟩,?_,⟨hstay.1,fun q hq hno=>?_⟩,fun i hi=>by rw [h1i i hi];exact (hpl i hi).1⟩
  ·simp only [List.getElem?_map,Option.map_eq_some_iff,Option.some.injEq] at hi
   obtain ⟨b2,hi,rfl⟩:=hi
   have hil:i<m0.length:=(List.getElem?_eq_some_iff.1 hi).1
   obtain ⟨_,g2,e,z,rows,g3⟩:=hpl i hil
   rw [hi] at g2 g3
   cases g3
   cases hsm:s.m[M + i]? with
   | none=>rw [hsm] at g2;cases g2
   | some ob =>
    rw [hsm] at g2
    simp at g2
    subst g2
    have:=BlkRel.mapN (μ':=μ1) (n':=i) (h:=fun _=>none) (.inl hg) (h1i i hil) (fun k _ j hj=>by cases hj) (fun _ _ _ _ _=>rfl) (hst.mem.blk (M + i) _ hsm)
    exact this
  ·obtain ⟨L,hL⟩:=Option.isSome_iff_exists.1 hi
   have:=(h1s i L hL).1
   exact ⟨m0[i],by simp [this]⟩
  ·have:=hst.mem.inj _ _ q _ _ _ _ _ _ (h1s a _ q1).2 (h1s k _ q2).2
   omega
  ·exact hst.mem.base _ q z l c (h1s i _ hi).2
  ·have:=(hff _ _ _ _).1 (fun w2 hb=>by rw [hJ'] at hj ⊢;exact hj.next hb)
   cases t
   ·exact this
   ·simpa [Nat.add_comm] using this
  ·obtain ⟨p1,p2⟩:=hstay.2 q hq (fun hc=>hno ((hs0 q).1 hc))
   exact ⟨p1,fun hc=>p2 (hsub q hc)⟩
 ·exact hq.elim
end
end Go.Ab
/- A range over an iterator of the second kind. -/
namespace Go.Ab
open Go.RowKit
def rangeOf (st:St) (g:Operand):Option (FuncId × List AV × List AV):=match st.ev g with
 | .d (.fn f caps)=>some (f,[],caps.map .d)
 | .fn f caps=>some (f,[],caps)
 | .d (.bnd f first)=>some (f,first.map .d,[])
 | _=>none
def ceded (st:St) (all:List Nat):List Nat→Option (List Blk)
 | []=>some []
 | n::ns=>match (st.m[n]?:Option (Option Blk)),ceded st all ns with
  | some (some b),some l=>some (b.mapN (inv all)::l)
  | _,_=>none
def cedeM (ns:List Nat):List (Option Blk)→Nat→List (Option Blk)
 | [],_=>[]
 | b::l,i=>(if ns.contains i then none else b.map (Blk.mapN (kp ns)))::cedeM ns l (i + 1)
def St.cede (ns:List Nat) (st:St):St:=match ns with
 | []=>st
 | ns=>{ t:=st.t.map (AV.mapN (kp ns)),m:=cedeM ns st.m 0 }
section
variable {P:Program} {base:Own} {out:Own} {st st':St} {μ:Pl} {tmps:Array Value} {w w':World} {J:Env} {k:Option Nat} {B:Nat}
theorem z718 {all:List Nat}:∀ {ns:List Nat} {m0:List Blk},ceded st all ns=some m0→ns.length=m0.length∧∀ (i:Nat) b,m0[i]?=some b→∃ (n:Nat) (b':Blk),ns[i]?=some n∧st.m[n]?=some (some b')∧b=b'.mapN (inv all)
 | [],m0,h=>by cases h;exact ⟨rfl,fun i b h=>by simp at h⟩
 | n::ns,m0,h=>by
  unfold ceded at h
  split at h
  ·rename_i b l hb hl
   cases h
   obtain ⟨h1,h2⟩:=z718 hl
   refine ⟨by simp [h1],fun i b' hi=>?_⟩
   cases i with
   | zero=>simp at hi;subst hi;exact ⟨n,b,rfl,hb,rfl⟩
   | succ i=>simpa using h2 i b' (by simpa using hi)
  ·cases h
theorem z361 {ns:List Nat}:∀ {m:List (Option Blk)} {i j:Nat},(cedeM ns m i)[j]?=(m[j]?).map fun b=>if ns.contains (i + j) then none else b.map (Blk.mapN (kp ns))
 | [],i,j=>by simp [cedeM]
 | b::l,i,0=>by simp [cedeM]
 | b::l,i,j + 1=>by
  have:=z361 (ns:=ns) (m:=l) (i:=i + 1) (j:=j)
  simp only [cedeM,List.getElem?_cons_succ]
  rw [this,show i + 1 + j=i + (j + 1) by omega]
theorem z1176 {ns:List Nat} {n k:Nat} (h:kp ns n=some k):k=n∧n ∉ ns:=by
 unfold kp at h
 split at h
 ·cases h
 ·rename_i hn
  cases h
  exact ⟨rfl,by simpa using hn⟩
def ownsOf (μ:Pl) (ns:List Nat):Own:=fun b=>∃ n z l c,n ∈ ns∧μ n=some (.at b z l c)
theorem z1141 (h:StRel P base out st μ tmps w) (ns:List Nat):∃ μk:Pl,StRel P (fun x=>base x∨ownsOf μ ns x) (fun x=>out x∨ownsOf μ ns x) (st.cede ns) μk tmps w∧(∀ n,n ∉ ns→μk n=μ n)∧(∀ n,n ∈ ns→μk n=none):=by
 obtain ⟨μk,hμk⟩:∃ μk:Pl,μk=fun n=>if ns.contains n then none else μ n:=⟨_,rfl⟩
 have h1:∀ n,n ∉ ns→μk n=μ n:=fun n hn=>by rw [hμk];simp [hn]
 have h2:∀ n,n ∈ ns→μk n=none:=fun n hn=>by rw [hμk];simp [hn]
 have hk:∀ n L,μk n=some L→n ∉ ns∧μ n=some L:=fun n L hn=>by
  by_cases hm:n ∈ ns
  ·rw [h2 n hm] at hn;cases hn
  ·exact ⟨hm,by rw [← h1 n hm];exact hn⟩
 have hown:∀ x,ownOf (fun x=>out x∨ownsOf μ ns x) μk x→ownOf out μ x:=by
  rintro x ((hx | ⟨n,z,l,c,_,hn⟩) | ⟨n,z,l,c,hn⟩)
  ·exact .inl hx
  ·exact .inr ⟨n,z,l,c,hn⟩
  ·exact .inr ⟨n,z,l,c,(hk n _ hn).2⟩
 have hg:Goes w (ownOf out μ) w (ownOf (fun x=>out x∨ownsOf μ ns x) μk):=fun b o v q1 q2=>⟨fun hc=>q1 (hown b hc),q2⟩
 have hnb:∀ n b z l c,μk n=some (.at b z l c)→¬ (base b∨ownsOf μ ns b):=by
  rintro n b z l c hn (hc | ⟨n',z',l',c',hm,hn'⟩)
  ·exact (h.mem.base n b z l c (hk n _ hn).2).1 hc
  ·have:=h.mem.inj n n' b _ _ _ _ _ _ (hk n _ hn).2 hn'
   exact (hk n _ hn).1 (this ▸ hm)
 have hout:∀ x,(out x∨ownsOf μ ns x)→base x∨ownsOf μ ns x:=fun x hx=>hx.imp (h.out x) id
 have hle:∀ x,(base x∨ownsOf μ ns x)→x<w.heap.size:=fun x hx=>hx.elim (h.le x) fun ⟨n,z,l,c,_,hn⟩=>z61 h.mem hn
 refine ⟨μk,?_,h1,h2⟩
 cases ns with
 | nil =>
  have e:μk=μ:=funext fun n=>h1 n (by simp)
  subst e
  exact ⟨h.size,fun i x v q1 q2=>(h.tmp i x v q1 q2).goes hg (fun _ _ _=>rfl),⟨fun m blk hm=>(h.mem.blk m blk hm).goes hg rfl (fun _ _=>rfl) (fun _ _ _ _ _=>rfl),h.mem.dom,h.mem.inj,fun m b z l c hb=>⟨hnb m b z l c hb,(h.mem.base m b z l c hb).2.1,fun hc=>hnb m b z l c hb (hout b hc)⟩⟩,h.hid.goes hg,hout,hle⟩
 | cons n0 ns0 =>
  obtain ⟨ns,hns⟩:∃ ns,ns=n0::ns0:=⟨_,rfl⟩
  rw [← hns] at h1 h2 hk hown hg hnb hout hle ⊢
  have hst:st.cede ns={ t:=st.t.map (AV.mapN (kp ns)),m:=cedeM ns st.m 0 }:=by rw [hns];rfl
  rw [hst]
  have hkp:∀ n,(μ n).isSome→∀ k,kp ns n=some k→μk k=μ n:=fun n _ k hk'=>by obtain ⟨rfl,hn⟩:=z1176 hk';exact h1 _ hn
  refine ⟨by rw [h.size];simp,fun i x v q1 q2=>?_,⟨fun m blk hm=>?_,fun m hm=>?_,fun a k b z l c z' l' c' q1 q2=>h.mem.inj a k b _ _ _ _ _ _ (hk a _ q1).2 (hk k _ q2).2,fun m b z l c hb=>⟨hnb m b z l c hb,(h.mem.base m b z l c (hk m _ hb).2).2.1,fun hc=>hnb m b z l c hb (hout b hc)⟩⟩,h.hid.goes hg,hout,hle⟩
  ·simp only [List.getElem?_map,Option.map_eq_some_iff] at q1
   obtain ⟨y,q1,rfl⟩:=q1
   exact (h.tmp i y v q1 q2).mapN (.inl hg) (fun n _ hs k hk'=>hkp n hs k hk')
  ·rw [z361] at hm
   simp only [Nat.zero_add,Option.map_eq_some_iff] at hm
   obtain ⟨ob,hob,hb⟩:=hm
   split at hb
   ·cases hb
   ·rename_i hn
    simp only [Option.map_eq_some_iff] at hb
    obtain ⟨b0,rfl,rfl⟩:=hb
    exact BlkRel.mapN (.inl hg) (h1 m (by simpa using hn)) hkp (fun _ _ _ _ _=>rfl) (h.mem.blk m b0 hob)
  ·obtain ⟨L,hL⟩:=Option.isSome_iff_exists.1 hm
   obtain ⟨hn,hL'⟩:=hk m L hL
   obtain ⟨b,hb⟩:=h.mem.dom m (by rw [hL'];rfl)
   exact ⟨b.mapN (kp ns),by rw [z361,hb];simp [hn]⟩
theorem z960 (h:StRel P base out st μ tmps w) {g:Operand} {f:FuncId} {pre post:List AV} (hc:rangeOf st g=some (f,pre,post)) :
  ∃ fst caps:Array Value,val tmps g=.func (.func f) fst caps∧pre.length=fst.size∧post.length=caps.size∧(∀ (i:Nat) x v,pre[i]?=some x→fst[i]?=some v→AVRel w (ownOf out μ) μ x v) ∧
   ∀ (i:Nat) x v,post[i]?=some x→caps[i]?=some v→AVRel w (ownOf out μ) μ x v:=by
 have hf:=h.ev g []
 unfold rangeOf at hc
 split at hc
 ·rename_i f' caps hev
  cases hc
  rw [hev] at hf
  obtain ⟨vs,hv,hl,hd⟩:=z854 hf
  exact ⟨#[],vs,hv,rfl,by simpa using hl,fun i x v q=>by simp at q,fun i x v q1 q2=>by
   simp only [List.getElem?_map,Option.map_eq_some_iff] at q1
   obtain ⟨d,q1,rfl⟩:=q1
   exact .d (hd i d v q1 q2)⟩
 ·rename_i f' caps hev
  cases hc
  rw [hev] at hf
  obtain ⟨vs,hv,hl,hd⟩:=z891 hf
  exact ⟨#[],vs,hv,rfl,hl,fun i x v q=>by simp at q,hd⟩
 ·rename_i f' ds hev
  cases hc
  rw [hev] at hf
  obtain ⟨vs,hv,hl,hd⟩:=z1043 hf
  exact ⟨vs,#[],hv,by simpa using hl,rfl,fun i x v q1 q2=>by
   simp only [List.getElem?_map,Option.map_eq_some_iff] at q1
   obtain ⟨d,q1,rfl⟩:=q1
   exact .d (hd i d v q1 q2),fun i x v q=>by simp at q⟩
 ·cases hc
theorem z467 {own:Own} {xs ys:List AV} {us vs:Array Value} (hl:xs.length=us.size) (h1:∀ (i:Nat) x v,xs[i]?=some x→us[i]?=some v→AVRel w own μ x v) (h2:∀ (i:Nat) x v,ys[i]?=some x→vs[i]?=some v→AVRel w own μ x v) :
  ∀ (i:Nat) x v,(xs++ys)[i]?=some x→(us++vs)[i]?=some v→AVRel w own μ x v:=fun i x v hx hv=>by
 by_cases hi:i<xs.length
 ·rw [List.getElem?_append_left hi] at hx
  rw [Array.getElem?_append_left (by omega)] at hv
  exact h1 i x v hx hv
 ·rw [List.getElem?_append_right (by omega)] at hx
  rw [Array.getElem?_append_right (by omega),← hl] at hv
  exact h2 _ x v hx hv
set_option maxHeartbeats 4000000 in
theorem z554 {n:Nat} {α:Type} {cs:List Code} {Q:Exit→Option Nat→St→Prop} {g:Operand} {ps:Array Tmp} {assign body:Code} {f:FuncId} {pre post:List AV} {items:List (List DV)} (ns:List Nat) {m0:List Blk}
  (hg:rangeOf st g=some (f,pre,post)) (hnd:ns.Nodup) (hm0:ceded st ns ns=some m0) (hit:IterE P f m0 (fun l=>(pre++.d (.yld l)::post).map (AV.mapN (inv ns))) items) (hps:∀ row ∈ items,row.length=ps.size)
  (fs:α→St) (I:Option Nat→Nat→α→Prop) (Ix:Exit→Option Nat→α→Prop) (a0:α) (hw:Weak (st.cede ns) (fs a0)) (h0:I k 0 a0)
  (hround:∀ X W k' i a row,items[i]?=some row→I k' i a→∀ l m,WalkL P (some l) m (lendJ X W J) [assign] k' { t:=setPs ps.toList row (fs a).t,m:=(fs a).m }
   (thenA (fun k2 s=>WalkL P (some l) m (lendJ X W J) [body] k2 s fun e k3 s3=>match e with
    | .normal=>∃ a',Weak (s3.wipe (dsts (.rangeFunc g ps assign body))) (fs a')∧I k3 (i + 1) a'
    | e=>(jumpCode e).isSome∧∃ a',Weak (s3.wipe (dsts (.rangeFunc g ps assign body))) (fs a')∧Ix e k3 a') (fun _ _ _=>False)))
  (hdone:∀ k' a,I k' items.length a→WalkL P none n J cs k' (fs a) Q) (hstop:∀ e k' a,Ix e k' a→(jumpCode e).isSome→Q e k' (fs a)) :
  WalkL P none n J (.rangeFunc g ps assign body::cs) k st Q:=by
 intro B base out μ tmps w ds hO hA hJ hM
 obtain ⟨fst,caps,hgv,hpl,hql,hpre,hpost⟩:=z960 hA hg
 obtain ⟨μk,hAk,hk1,hk2⟩:=z1141 hA ns
 obtain ⟨X0,hX0⟩:∃ X0:Own,X0=ownsOf μ ns:=⟨_,rfl⟩
 rw [← hX0] at hAk
 have hX0w:∀ x,X0 x→ownOf out μ x∧¬ base x∧x<w.heap.size:=fun x hx=>by
  rw [hX0] at hx
  obtain ⟨m,z,l,c,_,hm⟩:=hx
  exact ⟨.inr ⟨m,z,l,c,hm⟩,(hA.mem.base m x z l c hm).1,(hA.mem.base m x z l c hm).2.1⟩
 obtain ⟨μ0,hA0,hsub0⟩:=hw P _ _ μk tmps w hAk
 have hkown:∀ x,ownOf (fun x=>out x∨X0 x) μk x→ownOf out μ x:=by
  rintro x ((hx | hx) | ⟨m,z,l,c,hm⟩)
  ·exact .inl hx
  ·exact (hX0w x hx).1
  ·by_cases hmn:m ∈ ns
   ·rw [hk2 m hmn] at hm;cases hm
   ·exact .inr ⟨m,z,l,c,by rw [← hk1 m hmn];exact hm⟩
 have hsub1:∀ x,ownOf out μ0 x→ownOf out μ x:=fun x hx=>hkown x (hsub0 x (hx.imp .inl id))
 have hX0n:∀ x,X0 x→¬ ownOf out μ0 x:=by
  rintro x hx (hc | hc)
  ·exact (hX0w x hx).2.1 (hA.out x hc)
  ·exact (hA0.own_base x hc).1 (.inr hx)
 refine wpIn_rangeFunc ?_
 intro fn hfn
 obtain ⟨rec,hrec⟩:∃ rec:LoopState→Option Code→Loop,rec=fun st pe=>{ state:=st,pending:=pe,fn,tmps:=tmps,params:=ps,assign,body,defers:=w.heap.size }:=⟨_,rfl⟩
 obtain ⟨W1,hW1⟩:∃ W1,(w.alloc (.deferred (some []))).alloc (.loop (rec .ready none))=W1:=⟨_,rfl⟩
 have hL1:W1.heap[w.heap.size + 1]?=some (.loop (rec .ready none)):=by
  rw [← hW1];have:=World.alloc_heap_new (w.alloc (.deferred (some []))) (.loop (rec .ready none));rwa [World.size_alloc] at this
 have hK1:W1.heap[w.heap.size]?=some (.deferred (some [])):=by
  rw [← hW1];exact (Below.heap_alloc _ _ _ (by simp)).trans (World.alloc_heap_new w _)
 have hB1:Below w.heap.size w W1:=by
  rw [← hW1];exact ((Below.refl _ w).alloc (Nat.le_refl _) _).alloc (by simp) _
 have hz1:W1.heap.size=w.heap.size + 2:=by rw [← hW1];simp
 obtain ⟨JJ,hJJ⟩:∃ JJ:Env,JJ=fun ki bs os W=>∃ (e:Exit) (kk:Option Nat) (a:α) (b' o':Own) (μ':Pl) (X:Own),
   (∀ x,os x↔ownOf o' μ' x∨x=w.heap.size + 1)∧(∀ x,x<W.heap.size→bs x∨X x) ∧
   (∀ x,X x→x<W.heap.size∧¬ b' x∧¬ ownOf o' μ' x∧x≠w.heap.size∧x≠w.heap.size + 1∧(ownOf out μ x∨w.heap.size + 1<x))∧(∀ x,o' x→b' x) ∧
   StRel P (fun x=>b' x∨X x) (fun x=>o' x∨X x) (fs a) μ' tmps W∧Firm J kk b' o' W∧Stays w (ownOf out μ) W (ownOf o' μ')∧¬ ownOf o' μ' w.heap.size∧¬ ownOf o' μ' (w.heap.size + 1) ∧
   W.heap[w.heap.size]?=some (.deferred (some [])) ∧
   match ki with
   | some i=>I kk i a∧W.heap[w.heap.size + 1]?=some (.loop (rec .ready none))
   | none=>Ix e kk a∧(jumpCode e).isSome∧W.heap[w.heap.size + 1]?=some (.loop (rec .done (jumpCode e))):=⟨_,rfl⟩
 have hBw:B≤w.heap.size:=hM.1
 -- JJ abides
 have hclose:∀ ki bs os W W',JJ ki bs os W→BelowU bs W W'→JJ ki bs os W':=by
  rw [hJJ]
  rintro ki bs os W W' ⟨e,kk,a,b',o',μ',X,g1,g2,g3,g4,g5,g6,g7,g8,g9,g10,g11⟩ hB
  have hr0:w.heap.size<W.heap.size:=(Array.getElem?_eq_some_iff.1 g10).1
  have hr1:w.heap.size + 1<W.heap.size:=by
   cases ki with
   | some i=>exact (Array.getElem?_eq_some_iff.1 g11.2).1
   | none=>exact (Array.getElem?_eq_some_iff.1 g11.2.2).1
  have hlt:∀ x,(b' x∨X x)→x<W.heap.size:=g5.le
  have holt:∀ x,ownOf o' μ' x→x<W.heap.size:=fun x hx=>z85 g5 x (hx.imp .inl id)
  have hin:∀ x,x<W.heap.size→¬ X x→W'.heap[x]?=W.heap[x]?:=fun x hx hno=>hB.block x ((g2 x hx).resolve_right hno)
  have hl0:W'.heap[w.heap.size]?=some (.deferred (some [])):=by rw [hin _ hr0 (fun hc=>(g3 _ hc).2.2.2.1 rfl)];exact g10
  have hl1:W'.heap[w.heap.size + 1]?=W.heap[w.heap.size + 1]?:=hin _ hr1 (fun hc=>(g3 _ hc).2.2.2.2.1 rfl)
  refine ⟨e,kk,a,b',o',μ',fun x=>X x∨(W.heap.size≤x∧x<W'.heap.size),g1,fun x hx=>?_,fun x hx=>?_,g4,?_,g6.next (hB.mono fun x hx=>(g2 x (hlt x (.inl hx))).resolve_right fun hc=>(g3 x hc).2.1 hx),⟨Nat.le_trans g7.1 hB.size,fun x hx ho=>?_⟩,g8,g9,hl0,?_⟩
  ·by_cases hlt':x<W.heap.size
   ·exact (g2 x hlt').imp id .inl
   ·exact .inr (.inr ⟨by omega,hx⟩)
  ·rcases hx with hx | hx
   ·obtain ⟨q1,q2⟩:=g3 x hx
    exact ⟨Nat.lt_of_lt_of_le q1 hB.size,q2⟩
   ·exact ⟨hx.2,fun hc=>by have:=hlt x (.inl hc);omega,fun hc=>by have:=holt x hc;omega,by omega,by omega,.inr (by omega)⟩
  ·refine g5.next hB.size (fun x hx hno=>hin x hx fun hc=>hno (.inr hc)) (fun x hx=>hx.imp (g4 x) id) (fun x hx=>?_) (fun x hx=>?_) (fun x hx=>?_)
   ·rcases hx with hx | hx | hx
    ·exact Nat.lt_of_lt_of_le (hlt x (.inl hx)) hB.size
    ·exact Nat.lt_of_lt_of_le (hlt x (.inr hx)) hB.size
    ·exact hx.2
   ·rcases hx with hx | hx | hx
    ·exact .inl (.inl hx)
    ·exact .inl (.inr hx)
    ·exact .inr hx.1
   ·have:=g5.own_base x hx
    rintro (hc | hc | hc)
    ·exact this.1 (.inl hc)
    ·exact this.1 (.inr hc)
    ·omega
  ·obtain ⟨p1,p2⟩:=g7.2 x hx ho
   have hxW:x<W.heap.size:=by omega
   exact ⟨(hin x hxW fun hc=>by rcases (g3 x hc).2.2.2.2.2 with h | h;exact ho h;omega).trans p1,p2⟩
  ·cases ki with
   | some i=>exact ⟨g11.1,by rw [hl1];exact g11.2⟩
   | none=>exact ⟨g11.1,g11.2.1,by rw [hl1];exact g11.2.2⟩
 have hfirm:∀ ki bs os W,JJ ki bs os W→Firm JJ ki bs os W:=fun ki bs os W h W' hB=>hclose ki bs os W W' h hB
 have hOJ:EnvOk W1.heap.size JJ:=by
  rw [hJJ]
  rintro ki bs os W W' r hr hno ho ⟨e,kk,a,b',o',μ',X,g1,g2,g3,g4,g5,g6,g7,g8,g9,g10,g11⟩
  have hr1:r≠w.heap.size:=by omega
  have hr2:r≠w.heap.size + 1:=by omega
  have hnr:¬ o' r:=fun hc=>hno ((g1 r).2 (.inl (.inl hc)))
  refine ⟨e,kk,a,b',o',μ',X,g1,by rw [ho.wrote.size];exact g2,by rw [ho.wrote.size];exact g3,g4,g5.other ho,z113 hO g6 (fun x hx=>g5.le x (.inl hx)) (by omega) hnr ho,⟨by rw [ho.wrote.size];exact g7.1,fun x hx hob=>?_⟩,g8,g9,
   by rw [ho.wrote.block _ (Ne.symm hr1)];exact g10,?_⟩
  ·rw [ho.wrote.block x (by omega)];exact g7.2 x hx hob
  ·cases ki with
   | some i=>exact ⟨g11.1,by rw [ho.wrote.block _ (Ne.symm hr2)];exact g11.2⟩
   | none=>exact ⟨g11.1,g11.2.1,by rw [ho.wrote.block _ (Ne.symm hr2)];exact g11.2.2⟩
 have hG:GivesE P (w.heap.size + 1) JJ items:=by
  intro m i bs os Xi W vals row hi hob hbs hF hXi hrow
  have hj:=hF W (.refl _ _)
  rw [hJJ] at hj
  obtain ⟨_,kk,a,b',o',μ',X,g1,g2,g3,g4,g5,g6,g7,g8,g9,g10,h7,h8⟩:=hj
  have hXX:∀ x,Xi x→X x:=fun x hx=>(g2 x (hXi x hx).2).resolve_left (hXi x hx).1
  have hrl:=hps row (List.mem_of_getElem? hi)
  have hlt:w.heap.size + 1<W.heap.size:=(Array.getElem?_eq_some_iff.1 h8).1
  have hy:=run_yield (P:=P) (args:=vals) h8 (by rw [hrec];simp only;rw [← hrow.1,hrl])
  rw [hrec] at hy
  refine ⟨fn,_,assign,body,hy,roundIn_of_wpIn trivial ?_⟩
  have hb0:StRel P (fun x=>b' x∨Xi x) (fun x=>o' x∨Xi x) (fs a) μ' tmps W:=by
   refine g5.next (Nat.le_refl _) (fun _ _ _=>rfl) (fun x hx=>hx.imp (g4 x) id) (fun x hx=>g5.le x (hx.imp id (hXX x))) (fun x hx=>.inl (hx.imp id (hXX x))) (fun x hx=>?_)
   have:=(g5.own_base x hx).1
   exact fun hc=>this (hc.imp id (hXX x))
  have hz:StRel P (fun x=>b' x∨Xi x) (fun x=>o' x∨Xi x) { t:=setPs ps.toList row (fs a).t,m:=(fs a).m } μ' ((ps.zip vals).foldl (fun t (p,v)=>t.setIfInBounds p v) tmps) W:=by
   have:=z988 ps.toList row vals.toList (fs a) tmps (by simpa using hrow.1) (fun i d v hd hv=>(hrow.2 i d v hd (by simpa using hv)).goes fun b o v h1 h2=>⟨fun hc=>h1 (by
    rcases hc with (hc | hc) | hc
    ·exact .inl ((g1 b).2 (.inl (.inl hc)))
    ·exact .inr hc
    ·exact .inl ((g1 b).2 (.inl (.inr hc)))),h2⟩) hb0
   rwa [← Array.toList_zip,← Array.foldl_toList] at *
  have hzs:Same ps.toList tmps ((ps.zip vals).foldl (fun t (p,v)=>t.setIfInBounds p v) tmps):=by
   have:=z469 ps.toList vals.toList tmps
   rwa [← Array.toList_zip,Array.foldl_toList] at this
  have hXb:∀ x,Xi x→¬ b' x∧x<W.heap.size:=fun x hx=>⟨(g3 x (hXX x hx)).2.1,(hXi x hx).2⟩
  have hO1:=z462 hO Xi W
  have hJ0:Firm (lendJ Xi W J) kk (fun x=>b' x∨Xi x) (fun x=>o' x∨Xi x) W:=z353 hXb (fun _ _=>rfl) g4 (fun x hx=>g5.le x (.inl hx)) g6
  have hnR1:¬ ownOf (fun x=>o' x∨Xi x) μ' (w.heap.size + 1):=by
   rintro ((hc | hc) | hc)
   ·exact g9 (.inl hc)
   ·exact (g3 _ (hXX _ hc)).2.2.2.2.1 rfl
   ·exact g9 (.inr hc)
  have hnR0:¬ ownOf (fun x=>o' x∨Xi x) μ' w.heap.size:=by
   rintro ((hc | hc) | hc)
   ·exact g8 (.inl hc)
   ·exact (g3 _ (hXX _ hc)).2.2.2.1 rfl
   ·exact g8 (.inr hc)
  have hr0:=z60 (hround Xi W kk i a row hi h7 (w.heap.size + 1) m) B _ _ μ' _ W [] hO1 hz hJ0 (.nil (by omega))
  refine wpIn_mono hr0 ?_
  rintro e a1 w1 ⟨k1,s1,b1,o1,μ1,hA1,hJ1,hM1,hst1,hsa1,hq1⟩
  cases e with
  | normal =>
   have hl1:w1.heap[w.heap.size + 1]?=some (.loop (rec .ready none)):=by rw [(hst1.2 _ hlt hnR1).1];exact h8
   have hno1:¬ ownOf o1 μ1 (w.heap.size + 1):=(hst1.2 _ hlt hnR1).2
   have hd1:w1.heap[w.heap.size]?=some (.deferred (some [])):=by rw [(hst1.2 _ (by omega) hnR0).1];exact g10
   have hnd1:¬ ownOf o1 μ1 w.heap.size:=(hst1.2 _ (by omega) hnR0).2
   have ho1:Other (w.heap.size + 1) w1 (w1.putObj (w.heap.size + 1) (.loop { rec .ready none with state:=.busy })):=z225 hl1 (fun _ _ _ e=>by cases e) (fun _ _ e=>by cases e)
   refine ⟨_,run_beginRound hl1 (by rw [hrec]),?_⟩
   have hlt1:w.heap.size + 1<w1.heap.size:=(Array.getElem?_eq_some_iff.1 hl1).1
   have hM2:Marked B (ownOf o1 μ1) a1.defers (w1.putObj (w.heap.size + 1) (.loop { rec .ready none with state:=.busy })):=by
    obtain ⟨q0,rs,q1,q2,q3⟩:=hM1
    refine ⟨by simpa using q0,rs,q1,q2,fun r hr=>⟨(q3 r hr).1,(q3 r hr).2.1,?_⟩⟩
    rw [World.putObj_heap_other (fun e=>by subst e;have:=(q3 _ hr).2.2;rw [hl1] at this;cases this)]
    exact (q3 r hr).2.2
   have hbd:=z60 hq1 B b1 o1 μ1 a1.tmps _ a1.defers hO1 (hA1.other ho1) (z113 hO1 hJ1 hA1.le (by omega) (fun hc=>hno1 (.inl hc)) ho1) hM2
   refine wpIn_mono hbd ?_
   rintro e2 a2 w2 ⟨k2,s2,b2,o2,μ2,hA2,hJ2,hM3,hst2,hsa2,hq2⟩
   have hz2:(w1.putObj (w.heap.size + 1) (.loop { rec .ready none with state:=.busy })).heap.size=w1.heap.size:=by simp
   have hl2:w2.heap[w.heap.size + 1]?=some (.loop { rec .ready none with state:=.busy }):=by
    rw [(hst2.2 _ (by rw [hz2];exact hlt1) hno1).1];exact World.putObj_heap_same hlt1
   have hno2:¬ ownOf o2 μ2 (w.heap.size + 1):=(hst2.2 _ (by rw [hz2];exact hlt1) hno1).2
   have hd2:w2.heap[w.heap.size]?=some (.deferred (some [])):=by
    rw [(hst2.2 _ (by rw [hz2];omega) hnd1).1,World.putObj_heap_other (by omega)];exact hd1
   have hnd2:¬ ownOf o2 μ2 w.heap.size:=(hst2.2 _ (by rw [hz2];omega) hnd1).2
   obtain ⟨j1,j2,j3,j4,j5⟩:=hJ2 w2 (.refl _ _)
   have hsame:Same (dsts (.rangeFunc g ps assign body)) tmps a2.tmps :=
    ((hzs.mono fun i hi=>by simp only [dsts,List.mem_append];exact .inl hi).trans (hsa1.mono fun i hi=>by simp only [dsts,List.mem_append];exact .inr (.inl hi))).trans (hsa2.mono fun i hi=>by simp only [dsts,List.mem_append];exact .inr (.inr hi))
   have z39:∀ (b:Nat),b<W.heap.size→b≠w.heap.size + 1→¬ ownOf (fun x=>o' x∨Xi x) μ' b→w2.heap[b]?=W.heap[b]?∧¬ ownOf o2 μ2 b:=by
    intro b hb hne ho
    obtain ⟨p1,p2⟩:=hst1.2 b hb ho
    obtain ⟨p3,p4⟩:=hst2.2 b (by rw [hz2];exact Nat.lt_of_lt_of_le hb hst1.1) p2
    exact ⟨p3.trans ((World.putObj_heap_other hne).trans p1),p4⟩
   have hsz:W.heap.size≤w2.heap.size:=Nat.le_trans hst1.1 (by rw [← hz2];exact hst2.1)
   have hlt2:w.heap.size + 1<w2.heap.size:=(Array.getElem?_eq_some_iff.1 hl2).1
   have fin:∀ (pe:Option Code) (stt:LoopState) (a':α) (ki:Option Nat) (e':Exit),Weak (s2.wipe (dsts (.rangeFunc g ps assign body))) (fs a')→∀ W5,W5=w2.putObj (w.heap.size + 1) (.loop (rec stt pe)) →
     (match ki with
      | some i=>I k2 i a'∧stt=.ready∧pe=none
      | none=>Ix e' k2 a'∧(jumpCode e').isSome∧stt=.done∧pe=jumpCode e') →
     ∃ b3 o3,(∀ x,o3 x→b3 x)∧(∀ x,b3 x→x<W5.heap.size)∧Firm JJ ki b3 o3 W5∧Stays W os W5 o3∧∀ x,Xi x→¬ b3 x:=by
    rintro pe stt a' ki e' hwk W5 rfl hki
    have ho2:Other (w.heap.size + 1) w2 (w2.putObj (w.heap.size + 1) (.loop (rec stt pe))):=z225 hl2 (fun _ _ _ e=>by cases e) (fun _ _ e=>by cases e)
    obtain ⟨μ5,h51,h52⟩:=hwk P b2 o2 μ2 tmps _ (z1084 (hA2.other ho2) hsame)
    have hXi2:∀ x,Xi x→b2 x:=fun x hx=>j3 x (j1 x hx)
    have h5n:∀ x,Xi x→¬ μ5.owns x:=fun x hx hc=>(h51.own_base x hc).1 (hXi2 x hx)
    have hold:∀ x,ownOf (fun x=>o2 x∧¬ Xi x) μ5 x→ownOf o2 μ2 x:=fun x hx=>h52 x (hx.imp (·.1) id)
    have hWW:∀ x,x<W.heap.size→x≠w.heap.size + 1→¬ ownOf o' μ' x→(w2.putObj (w.heap.size + 1) (.loop (rec stt pe))).heap[x]?=W.heap[x]?∧¬ ownOf (fun x=>o2 x∧¬ Xi x) μ5 x:=fun x hx hne ho=>by
     rw [World.putObj_heap_other hne]
     by_cases hxi:Xi x
     ·exact ⟨j2 x hxi,fun hc=>hc.elim (fun h=>h.2 hxi) (h5n x hxi)⟩
     ·obtain ⟨p1,p2⟩:=z39 x hx hne (fun hc=>hc.elim (fun h=>h.elim (fun h=>ho (.inl h)) hxi) fun h=>ho (.inr h))
      exact ⟨p1,fun hc=>p2 (hold x hc)⟩
    have hsz5:(w2.putObj (w.heap.size + 1) (.loop (rec stt pe))).heap.size=w2.heap.size:=by simp
    have hXR:∀ x,Xi x→x≠w.heap.size + 1:=fun x hx=>(g3 x (hXX x hx)).2.2.2.2.1
    refine ⟨fun x=>x<(w2.putObj (w.heap.size + 1) (.loop (rec stt pe))).heap.size∧¬ Xi x,fun x=>ownOf (fun x=>o2 x∧¬ Xi x) μ5 x∨x=w.heap.size + 1,?_,fun x hx=>hx.1,hfirm _ _ _ _ ?_,⟨by rw [hsz5];exact hsz,fun x hx hno=>?_⟩,fun x hx hc=>hc.2 hx⟩
    ·rintro x (hx | rfl)
     ·exact ⟨z85 h51 x (hx.imp (·.1) id),fun hxi=>hx.elim (fun h=>h.2 hxi) (h5n x hxi)⟩
     ·exact ⟨by rw [hsz5];exact hlt2,fun hxi=>hXR _ hxi rfl⟩
    ·rw [hJJ]
     refine ⟨e',k2,a',fun x=>b2 x∧¬ Xi x,fun x=>o2 x∧¬ Xi x,μ5,Xi,fun x=>Iff.rfl,fun x hx=>?_,fun x hx=>⟨?_,fun hc=>hc.2 hx,fun hc=>hc.elim (fun h=>h.2 hx) (h5n x hx),(g3 x (hXX x hx)).2.2.2.1,hXR x hx,(g3 x (hXX x hx)).2.2.2.2.2⟩,fun x hx=>⟨j3 x hx.1,hx.2⟩,?_,z113 hO j5 (fun x hx=>j4 x hx.1) (by omega) (fun hc=>hno2 (.inl hc.1)) ho2,⟨?_,fun x hx ho=>?_⟩,fun hc=>hnd2 (hold _ hc),fun hc=>hno2 (hold _ hc),?_,?_⟩
     ·by_cases hxi:Xi x
      ·exact .inr hxi
      ·exact .inl ⟨hx,hxi⟩
     ·rw [hsz5];exact Nat.lt_of_lt_of_le (hXi x hx).2 hsz
     ·refine h51.next (Nat.le_refl _) (fun _ _ _=>rfl) (fun x hx=>?_) (fun x hx=>h51.le x (hx.elim (·.1) (hXi2 x))) (fun x hx=>.inl (hx.elim (·.1) (j1 x))) (fun x hx=>?_)
      ·exact hx.imp (fun h=>⟨j3 x h.1,h.2⟩) id
      ·have:=(h51.own_base x hx).1
       exact fun hc=>this (hc.elim (·.1) (hXi2 x))
     ·rw [hsz5];exact Nat.le_trans g7.1 hsz
     ·obtain ⟨p1,p2⟩:=g7.2 x hx ho
      obtain ⟨p3,p4⟩:=hWW x (Nat.lt_of_lt_of_le hx g7.1) (by omega) p2
      exact ⟨p3.trans p1,p4⟩
     ·rw [World.putObj_heap_other (by omega)];exact hd2
     ·cases ki with
      | some i =>
       obtain ⟨q1,rfl,rfl⟩:=hki
       exact ⟨q1,World.putObj_heap_same hlt2⟩
      | none =>
       obtain ⟨q1,q2,rfl,rfl⟩:=hki
       exact ⟨q1,q2,World.putObj_heap_same hlt2⟩
    ·have hno':¬ ownOf o' μ' x∧x≠w.heap.size + 1:=⟨fun hc=>hno ((g1 x).2 (.inl hc)),fun hc=>hno ((g1 x).2 (.inr hc))⟩
     obtain ⟨p1,p2⟩:=hWW x hx hno'.2 hno'.1
     exact ⟨p1,fun hc=>hc.elim p2 hno'.2⟩
   have out_:∀ e3,(jumpCode e3).isSome→(∃ a',Weak (s2.wipe (dsts (.rangeFunc g ps assign body))) (fs a')∧Ix e3 k2 a')→∃ v w',(Instr.endRound (w.heap.size + 1) (jumpCode e3)).run P w2=.ok v w' ∧
     ∃ t b3 o3,Ending.returned v=.returned (.bool t)∧(∀ x,o3 x→b3 x)∧(∀ x,b3 x→x<w'.heap.size)∧Firm JJ (if t then some (i + 1) else none) b3 o3 w'∧Stays W os w' o3∧∀ x,Xi x→¬ b3 x:=by
    rintro e3 hjs ⟨a',hwk,hix⟩
    obtain ⟨b3,o3,q1,q2,q3,q4,q5⟩:=fin (jumpCode e3) .done a' none e3 hwk _ rfl ⟨hix,hjs,rfl,rfl⟩
    have hen:=run_endRound (P:=P) (jumpCode e3) hl2
    have hjn:(jumpCode e3).isNone=false:=by cases hj:jumpCode e3 <;> simp_all
    rw [hjn] at hen
    refine ⟨_,_,hen,false,b3,o3,rfl,q1,?_,?_,?_,q5⟩
    ·rw [hrec] at q2 ⊢;exact q2
    ·rw [hrec] at q3 ⊢;exact q3
    ·rw [hrec] at q4 ⊢;exact q4
   cases e2 with
   | normal =>
    obtain ⟨a',hwk,hI'⟩:=hq2
    obtain ⟨b3,o3,q1,q2,q3,q4,q5⟩:=fin none .ready a' (some (i + 1)) .normal hwk _ rfl ⟨hI',rfl,rfl⟩
    have hen:=run_endRound (P:=P) none hl2
    refine ⟨_,_,hen,true,b3,o3,rfl,q1,?_,?_,?_,q5⟩
    ·rw [hrec] at q2 ⊢;exact q2
    ·rw [hrec] at q3 ⊢;exact q3
    ·rw [hrec] at q4 ⊢;exact q4
   | ret=>exact out_ .ret hq2.1 hq2.2
   | exit id=>exact out_ (.exit id) hq2.1 hq2.2
   | goto t=>exact out_ (.goto t) hq2.1 hq2.2
   | panic c=>exact absurd hq2.1 (by simp [jumpCode])
   | outgrown=>exact absurd hq2.1 (by simp [jumpCode])
  | _=>exact hq1.elim
 -- what the iterator is handed
 obtain ⟨μi,hμi⟩:∃ μi:Pl,μi=fun i=>(ns[i]?).bind μ:=⟨_,rfl⟩
 have hμii:∀ i n,ns[i]?=some n→μi i=μ n:=fun i n hi=>by rw [hμi];simp [hi]
 have hμis:∀ i L,μi i=some L→∃ n,ns[i]?=some n∧μ n=some L:=fun i L hi=>by
  rw [hμi] at hi
  cases hn:ns[i]? with
  | none=>simp [hn] at hi
  | some n=>simp [hn] at hi;exact ⟨n,rfl,hi⟩
 have hμX:∀ x,μi.owns x→X0 x:=by
  rintro x ⟨i,z,l,c,hi⟩
  obtain ⟨m,hm,hμm⟩:=hμis i _ hi
  rw [hX0];exact ⟨m,z,l,c,List.mem_of_getElem? hm,hμm⟩
 obtain ⟨bs0,hbs0⟩:∃ bs0:Own,bs0=fun x=>x<W1.heap.size∧¬ X0 x:=⟨_,rfl⟩
 obtain ⟨os0,hos0⟩:∃ os0:Own,os0=fun x=>ownOf out μ0 x∨x=w.heap.size + 1:=⟨_,rfl⟩
 have hlow:∀ x,ownOf out μ0 x→x<w.heap.size:=fun x hx=>z85 hA0 x (hx.imp .inl id)
 have hgi:Goes w (ownOf out μ) W1 (ownOf os0 μi):=fun b o u p1 p2=>⟨fun hc=>by
  rw [hos0] at hc
  rcases hc with (hc | rfl) | hc
  ·exact p1 (hsub1 b hc)
  ·exact absurd (z88 p2) (by omega)
  ·exact p1 (hX0w b (hμX b hc)).1,by
   simp only [World.cell?] at p2 ⊢;rw [hB1.block b (z88 (w:=w) (o:=o) (v:=u) (by simpa [World.cell?] using p2))];exact p2⟩
 have hinv:∀ n,(μ n).isSome→∀ i,inv ns n=some i→μi i=μ n:=fun n _ i hi=>hμii i n (z86 hi)
 obtain ⟨hnl,hget⟩:=z718 hm0
 have hMi:MemRel bs0 os0 W1 μi (m0.map some):=by
  refine ⟨fun i b hi=>?_,fun i hi=>?_,fun a k b z l c z' l' c' h1 h2=>?_,fun i b z l c hi=>?_⟩
  ·simp only [List.getElem?_map,Option.map_eq_some_iff,Option.some.injEq] at hi
   obtain ⟨b0,hi,rfl⟩:=hi
   obtain ⟨m,b',h1,h2,rfl⟩:=hget i b0 hi
   refine BlkRel.mapN (.inl hgi) (hμii i m h1) hinv (fun b z l c hb=>?_) (hA.mem.blk m b' h2)
   exact hB1.block b (z61 hA.mem hb)
  ·obtain ⟨L,hL⟩:=Option.isSome_iff_exists.1 hi
   obtain ⟨m,hm,_⟩:=hμis i L hL
   have:i<m0.length:=by rw [← hnl];exact (List.getElem?_eq_some_iff.1 hm).1
   exact ⟨m0[i],by simp [this]⟩
  ·obtain ⟨m,hm,e1⟩:=hμis a _ h1
   obtain ⟨m',hm',e2⟩:=hμis k _ h2
   have:=hA.mem.inj m m' b _ _ _ _ _ _ e1 e2
   subst this
   exact z177 hnd hm hm'
  ·have hx:X0 b:=hμX b ⟨i,z,l,c,hi⟩
   have hx2:=(hX0w b hx).2.2
   refine ⟨by rw [hbs0];exact fun hc=>hc.2 hx,by omega,by rw [hos0];exact fun hc=>hc.elim (hX0n b hx) (by omega)⟩
 have hJ0:JJ (some 0) bs0 os0 W1:=by
  rw [hJJ]
  refine ⟨.normal,k,a0,base,out,μ0,X0,fun x=>by rw [hos0],fun x hx=>?_,fun x hx=>?_,hA.out,?_,fun w'' hb=>hJ w'' ((BelowU.of hB1 hA.le).trans hb),⟨hB1.size,fun b hb ho=>⟨hB1.block b hb,fun hc=>ho (hsub1 b hc)⟩⟩,fun hc=>by have:=hlow _ hc;omega,fun hc=>by have:=hlow _ hc;omega,hK1,h0,hL1⟩
  ·by_cases hx0:X0 x
   ·exact .inr hx0
   ·exact .inl (by rw [hbs0];exact ⟨hx,hx0⟩)
  ·obtain ⟨q1,q2,q3⟩:=hX0w x hx
   exact ⟨by omega,q2,hX0n x hx,by omega,by omega,.inl q1⟩
  ·exact hA0.next hB1.size (fun x hx _=>hB1.block x hx) hA0.out (fun x hx=>Nat.lt_of_lt_of_le (hA0.le x hx) hB1.size) (fun x hx=>.inl hx) (fun x hx=>(hA0.own_base x hx).1)
 have hvals:∀ (i:Nat) x v,((pre++.d (.yld (w.heap.size + 1))::post).map (AV.mapN (inv ns)))[i]?=some x→(fst++(#[.func (.yield (w.heap.size + 1)) #[] #[]]++caps))[i]?=some v→AVRel W1 (ownOf os0 μi) μi x v:=by
  intro i x v hx hv
  simp only [List.getElem?_map,Option.map_eq_some_iff] at hx
  obtain ⟨y,hx,rfl⟩:=hx
  have:=z467 (μ:=μ) (w:=w) (own:=ownOf out μ) hpl hpre (ys:=[AV.d (.yld (w.heap.size + 1))]++post) (vs:=(#[Value.func (.yield (w.heap.size + 1)) #[] #[]]:Array Value)++caps)
   (z467 (xs:=[AV.d (.yld (w.heap.size + 1))]) (us:=(#[Value.func (.yield (w.heap.size + 1)) #[] #[]]:Array Value)) rfl (fun i x v q1 q2=>by
    cases i with
    | zero=>simp at q1 q2;subst q1;subst q2;exact .d (.yld _)
    | succ i=>simp at q1) hpost) i y v hx hv
  exact this.mapN (.inl hgi) (fun n _ hs k hk=>hinv n hs k hk)
 have hcalls:=hit.2 (w.heap.size + 1) JJ W1 bs0 os0 μi (fst++(#[.func (.yield (w.heap.size + 1)) #[] #[]]++caps)) hOJ hG (fun x hx=>by
   rw [hos0] at hx
   rw [hbs0]
   rcases hx with hx | rfl
   ·exact ⟨by have:=hlow x hx;omega,fun hc=>hX0n x hc hx⟩
   ·exact ⟨by omega,fun hc=>by have:=(hX0w _ hc).2.2;omega⟩)
  (fun x hx=>by rw [hbs0] at hx;exact hx.1) hMi (hA.hid.goes hgi) (by simp [hpl,hql];omega) hvals (hfirm _ _ _ _ hJ0)
 refine ⟨w.heap.size + 1,[{ target:=.collected w.heap.size,args:=#[] }],W1,{ target:=.fn (.func f) caps,args:=fst++#[.func (.yield (w.heap.size + 1)) #[] #[]] },W1,f,
  fst++(#[.func (.yield (w.heap.size + 1)) #[] #[]]++caps),W1,?_,?_,fun _ _=>trivial,?_,fun h=>(by cases h),?_⟩
 ·rw [← hW1,hrec];exact run_enterLoop_outer _ _ _ _ _
 ·simp only [resolve]
  have hgv':({ tmps:=tmps,defers:=ds }:Act).eval g=.func (.func f) fst caps:=hgv
  simp only [hgv']
  simp [Deferred.ofValue,go_sem]
 ·simp [invoke];exact hit.1 _ _
 ·refine (callsIn_wide (n:=n - 1)).2 (hcalls.mono ?_)
  rintro e W2 ⟨v,bF,oF,rfl,_,_,hj⟩
  have hMk:∀ (o':Own) (μ':Pl) (W4:World),Stays w (ownOf out μ) W4 (ownOf o' μ')→¬ ownOf o' μ' w.heap.size→W4.heap[w.heap.size]?=some (.deferred (some [])) →
    Marked B (ownOf o' μ') ([{ target:=.collected w.heap.size,args:=#[] }]++ds) W4:=by
   intro o' μ' W4 hs hno hd
   obtain ⟨q0,rs,q1,q2,q3⟩:=hM
   refine ⟨Nat.le_trans q0 hs.1,w.heap.size::rs,by rw [q1];rfl,?_,fun r hr=>?_⟩
   ·rw [List.nodup_cons]
    refine ⟨fun hc=>?_,q2⟩
    have:=(Array.getElem?_eq_some_iff.1 (q3 _ hc).2.2).1
    omega
   ·rcases List.mem_cons.1 hr with rfl | hr
    ·exact ⟨q0,hno,hd⟩
    ·obtain ⟨p1,p2,p3⟩:=q3 r hr
     obtain ⟨p4,p5⟩:=hs.2 r (Array.getElem?_eq_some_iff.1 p3).1 p2
     exact ⟨p1,p5,p4.trans p3⟩
  rcases hj with hj | hj
  ·have hj:=hj W2 (.refl _ _)
   rw [hJJ] at hj
   obtain ⟨_,kk,a,b',o',μ',X,g1,g2,g3,g4,g5,g6,g7,g8,g9,g10,h7,h8⟩:=hj
   have hel:∃ o4,(Instr.endLoop (w.heap.size + 1)).run P W2=.ok (none) (W2.putObj (w.heap.size + 1) o4):=⟨_,by
    have hel:=run_endLoop (P:=P) h8 (by rw [hrec];simp)
    have hpn:(rec .ready none).pending=none:=by rw [hrec]
    rw [hpn] at hel
    exact hel⟩
   obtain ⟨o4,hel⟩:=hel
   have ho2:Other (w.heap.size + 1) W2 (W2.putObj (w.heap.size + 1) o4):=z225 h8 (fun _ _ _ e=>by cases e) (fun _ _ e=>by cases e)
   refine ⟨none,_,hel,?_⟩
   have hs4:Stays w (ownOf out μ) (W2.putObj (w.heap.size + 1) o4) (ownOf o' μ') :=
    ⟨by rw [World.putObj_size];exact g7.1,fun b hb ho=>⟨(World.putObj_heap_other (by omega)).trans (g7.2 b hb ho).1,(g7.2 b hb ho).2⟩⟩
   have g5':=(g5.other ho2).next (Nat.le_refl _) (fun _ _ _=>rfl) g4 (fun x hx=>(g5.other ho2).le x (.inl hx)) (fun x hx=>.inl (.inl hx)) (fun x hx hc=>(g5.own_base x hx).1 (.inl hc))
   exact ⟨kk,fs a,b',o',μ',g5',z113 hO g6 (fun x hx=>g5.le x (.inl hx)) (by omega) (fun hc=>g9 (.inl hc)) ho2,hMk o' μ' _ hs4 g8 (by rw [World.putObj_heap_other (by omega)];exact g10),hs4,Same.refl _ _,hdone kk a h7⟩
  ·have hj:=hj W2 (.refl _ _)
   rw [hJJ] at hj
   obtain ⟨e,kk,a,b',o',μ',X,g1,g2,g3,g4,g5,g6,g7,g8,g9,g10,h7,hjs,h8⟩:=hj
   have hel:∃ o4,(Instr.endLoop (w.heap.size + 1)).run P W2=.ok (jumpCode e) (W2.putObj (w.heap.size + 1) o4):=⟨_,by
    have hel:=run_endLoop (P:=P) h8 (by rw [hrec];simp)
    have hpn:(rec .done (jumpCode e)).pending=jumpCode e:=by rw [hrec]
    rw [hpn] at hel
    exact hel⟩
   obtain ⟨o4,hel⟩:=hel
   have ho2:Other (w.heap.size + 1) W2 (W2.putObj (w.heap.size + 1) o4):=z225 h8 (fun _ _ _ e=>by cases e) (fun _ _ e=>by cases e)
   refine ⟨jumpCode e,_,hel,?_⟩
   have hs4:Stays w (ownOf out μ) (W2.putObj (w.heap.size + 1) o4) (ownOf o' μ') :=
    ⟨by rw [World.putObj_size];exact g7.1,fun b hb ho=>⟨(World.putObj_heap_other (by omega)).trans (g7.2 b hb ho).1,(g7.2 b hb ho).2⟩⟩
   have g5':=(g5.other ho2).next (Nat.le_refl _) (fun _ _ _=>rfl) g4 (fun x hx=>(g5.other ho2).le x (.inl hx)) (fun x hx=>.inl (.inl hx)) (fun x hx hc=>(g5.own_base x hx).1 (.inl hc))
   have hend:∀ Q',Q' e kk (fs a)→Ends P J B (dsts (.rangeFunc g ps assign body)) (ownOf out μ) tmps w Q' e { tmps:=tmps,defers:=[{ target:=.collected w.heap.size,args:=#[] }]++ds } (W2.putObj (w.heap.size + 1) o4):=fun Q' hq =>
    ⟨kk,fs a,b',o',μ',g5',z113 hO g6 (fun x hx=>g5.le x (.inl hx)) (by omega) (fun hc=>g9 (.inl hc)) ho2,hMk o' μ' _ hs4 g8 (by rw [World.putObj_heap_other (by omega)];exact g10),hs4,Same.refl _ _,hq⟩
   have hq:=hstop e kk a h7 hjs
   cases e with
   | ret=>exact wpIn_ret (hend _ hq)
   | exit id=>exact wpIn_exit (hend _ hq)
   | goto t=>exact wpIn_goto (hend _ hq)
   | _=>simp [jumpCode] at hjs
end
end Go.Ab
/- More on functions that hand on elements: drawn regions told by what is still to come,arrays handed down with their room,functions that name themselves;the simp set. -/
namespace Go.Ab
open Go.RowKit
def viaVh (len:Nat):AV→AV
 | .own n=>.vh n len
 | .vh n l=>.vh n l
 | _=>.undef
def St.asVh (n:Nat) (st:St):St:=match (st.m[n]?:Option (Option Blk)) with
 | some (some (.arr e z rows))=>{ t:=st.t.map (AV.sub n (viaVh rows.length)),m:=(subMem n (viaVh rows.length) st.m).set n (some (.arrP e z rows)) }
 | _=>st
def St.fewer (n k:Nat) (st:St):St:=match (st.m[n]?:Option (Option Blk)) with
 | some (some (.arrP e z rows))=>{ t:=st.t,m:=st.m.set n (some (.arrP e z (rows.take k))) }
 | _=>st
def vcOf (len:Nat):AV→AV
 | .vh n l=>if l=len then .vc n l else .undef
 | .vc n l=>.vc n l
 | _=>.undef
def St.vRoom (n:Nat) (st:St):St:=match (st.m[n]?:Option (Option Blk)) with
 | some (some (.arrP e z rows))=>{ t:=st.t.map (AV.sub n (vcOf rows.length)),m:=(subMem n (vcOf rows.length) st.m).set n (some (.arrP e z rows)) }
 | _=>st
def St.vFull (n:Nat) (st:St):St:=match (st.m[n]?:Option (Option Blk)) with
 | some (some (.arrP e z rows))=>{ t:=st.t,m:=st.m.set n (some (.arr e z rows)) }
 | _=>st
section
variable {P:Program} {base:Own} {out:Own} {st st':St} {μ:Pl} {tmps:Array Value} {w w':World} {J:Env} {k:Option Nat} {B:Nat}
theorem z216 (n:Nat) (st:St) (hne:∀ e z,st.m[n]?≠some (some (.arr e z []))):Weak st (st.asVh n):=by
 intro P base out μ tmps w h
 unfold St.asVh
 split
 ·rename_i e z rows hn
  have hrn:rows≠[]:=fun e'=>hne e z (by rw [hn,e'])
  rcases h.mem.arr hn with ⟨_,h0⟩ | ⟨b,cap,cs,hμ,hh,hle,hcm,hcs,hz,hd⟩
  ·exact absurd h0 hrn
  have hlt:n<st.m.length:=(List.getElem?_eq_some_iff.1 hn).1
  have hsub:=z1166 (out:=out) (l':=cap) (c':=cap) hμ
  have hg:Goes w (ownOf out μ) w (ownOf out (μ.upd n (some (.at b z cap cap)))):=fun q o v h1 h2=>⟨fun hc=>h1 (hsub q hc),h2⟩
  refine ⟨μ.upd n (some (.at b z cap cap)),?_,hsub⟩
  refine h.turn (n:=n) (f:=viaVh rows.length) hg (fun k hk=>Pl.upd_ne μ _ hk) (fun y u hy hr=>?_) (fun _ _ _ _ _ _ _=>rfl) (Nat.le_refl _)
   (fun k hk=>by rw [List.getElem?_set_ne (Ne.symm hk),z37]) (fun b' hb'=>?_) (fun _=>⟨.arrP e z rows,by rw [List.getElem?_set_self (by rw [z107];exact hlt)]⟩) (fun b' z' l c hb'=>?_)
  ·cases y <;> simp only [AV.name?,Option.some.injEq,reduceCtorEq] at hy <;> subst hy <;> simp only [viaVh] <;> try exact .undef _
   ·rcases z63 hr with ⟨h1,_⟩ | ⟨b2,z2,l2,c2,h1,rfl⟩
    ·rw [hμ] at h1;cases h1
    ·rw [hμ] at h1;cases h1
     exact .vh _ (Pl.upd_same μ _ _) hle
   ·cases hr with
    | vh _ h1 hle2 =>
     rw [hμ] at h1;cases h1
     exact .vh _ (Pl.upd_same μ _ _) hle2
  ·rw [List.getElem?_set_self (by rw [z107];exact hlt)] at hb'
   cases hb'
   exact ⟨b,cap,cs,Pl.upd_same μ n _,hh,hle,hcm,hcs,hz,fun i r j d h1 h2=>let ⟨v,p,q,r⟩:=hd i r j d h1 h2;⟨v,p,q,r.goes hg⟩⟩
  ·rw [Pl.upd_same] at hb';cases hb'
   exact ⟨h.mem.base n b _ _ _ hμ,fun k z' l' c' hk hc=>hk (h.mem.inj k n b _ _ _ _ _ _ hc hμ)⟩
 ·exact ⟨μ,h,fun _ hb=>hb⟩
theorem z276 {m:List (Option Blk)} {n:Nat} {b b':Blk} (hM:MemRel base out w μ m) (hn:m[n]?=some (some b)) (hb:BlkRel w (ownOf out μ) μ n b'):MemRel base out w μ (m.set n (some b')):=by
 have hlt:n<m.length:=(List.getElem?_eq_some_iff.1 hn).1
 refine ⟨fun k bk hk=>?_,fun k hk=>?_,hM.inj,hM.base⟩
 ·by_cases hkn:n=k
  ·subst hkn
   rw [List.getElem?_set_self hlt] at hk
   cases hk
   exact hb
  ·rw [List.getElem?_set_ne hkn] at hk
   exact hM.blk k bk hk
 ·by_cases hkn:n=k
  ·subst hkn
   exact ⟨b',List.getElem?_set_self hlt⟩
  ·rw [List.getElem?_set_ne hkn]
   exact hM.dom k hk
theorem z441 (n k:Nat) (st:St):Weak st (st.fewer n k):=by
 intro P base out μ tmps w h
 unfold St.fewer
 split
 ·rename_i e z rows hn
  obtain ⟨b,cap,cs,hμ,hh,hle,hcm,hcs,hz,hd⟩:=h.mem.arrP hn
  refine ⟨μ,⟨h.size,h.tmp,z276 h.mem hn ⟨b,cap,cs,hμ,hh,by rw [List.length_take];omega,hcm,hcs,fun r hr=>hz r (List.mem_of_mem_take hr),fun i r j d h1 h2=>?_⟩,h.hid,h.out,h.le⟩,fun _ hb=>hb⟩
  rw [List.getElem?_take] at h1
  split at h1
  ·exact hd i r j d h1 h2
  ·cases h1
 ·exact ⟨μ,h,fun _ hb=>hb⟩
theorem z1090 (h:StRel P base out st μ tmps w) {n:Nat} {e:TypeId} {z:Nat} {rows:List (List DV)} (hn:st.m[n]?=some (some (.arrP e z rows))) :
  StRel P base out (st.vFull n) μ tmps w∨StRel P base out (st.vRoom n) μ tmps w:=by
 obtain ⟨b,cap,cs,hμ,hh,hle,hcm,hcs,hz,hd⟩:=h.mem.arrP hn
 by_cases hc:rows.length=cap
 ·left
  unfold St.vFull
  simp only [hn]
  exact ⟨h.size,h.tmp,z276 h.mem hn (.inr ⟨b,cap,cs,by rw [hc];exact hμ,hh,hle,hcm,hcs,hz,hd⟩),h.hid,h.out,h.le⟩
 ·right
  have hlt:n<st.m.length:=(List.getElem?_eq_some_iff.1 hn).1
  unfold St.vRoom
  simp only [hn]
  have hg:=Goes.refl w (ownOf out μ)
  refine h.turn (n:=n) (f:=vcOf rows.length) hg (fun _ _=>rfl) (fun y u hy hr=>?_) (fun _ _ _ _ _ _ _=>rfl) (Nat.le_refl _)
   (fun k hk=>by rw [List.getElem?_set_ne (Ne.symm hk),z37]) (fun b' hb'=>?_) (fun _=>⟨.arrP e z rows,by rw [List.getElem?_set_self (by rw [z107];exact hlt)]⟩) (fun b' z' l c hb'=>?_)
  ·cases y <;> simp only [AV.name?,Option.some.injEq,reduceCtorEq] at hy <;> subst hy <;> simp only [vcOf] <;> try exact .undef _
   ·split
    ·rename_i hl
     subst hl
     cases hr with
     | vh _ h1 hle2 =>
      rw [hμ] at h1;cases h1
      exact .vc _ hμ (by omega)
    ·exact .undef _
   ·exact hr
  ·rw [List.getElem?_set_self (by rw [z107];exact hlt)] at hb'
   cases hb'
   exact ⟨b,cap,cs,hμ,hh,hle,hcm,hcs,hz,hd⟩
  ·exact ⟨h.mem.base n b' _ _ _ hb',fun k z' l' c' hk hc=>hk (h.mem.inj k n b' _ _ _ _ _ _ hc hb')⟩
theorem z736 {rd:Option Nat} {n:Nat} {c:Code} {cs:List Code} {Q:Exit→Option Nat→St→Prop} (a:Nat) {e:TypeId} {z:Nat} {rows:List (List DV)} (hn:st.m[a]?=some (some (.arrP e z rows)))
  (h1:WalkL P rd n J (c::cs) k (st.vFull a) Q) (h2:WalkL P rd n J (c::cs) k (st.vRoom a) Q):WalkL P rd n J (c::cs) k st Q:=fun B base out μ tmps w ds hO hA hJ hM=>by
 rcases z1090 hA hn with hA' | hA'
 ·exact h1 B base out μ tmps w ds hO hA' hJ hM
 ·exact h2 B base out μ tmps w ds hO hA' hJ hM
def cycD (f:FuncId) (caps:List (Option DV)):Nat→DV
 | 0=>.any
 | i + 1=>.ptr [.fn f (caps.map fun c=>c.getD (cycD f caps i))] 0
def cycCaps (n:Nat):List AV→Option (List (Option DV))
 | []=>some []
 | .d d::l=>(cycCaps n l).map (some d::·)
 | .box k o::l=>if k=n∧o=0 then (cycCaps n l).map (none::·) else none
 | _::_=>none
theorem z213 {n:Nat}:∀ {xs:List AV} {caps:List (Option DV)},cycCaps n xs=some caps→xs.length=caps.length∧∀ (i:Nat) c,caps[i]?=some c→(c=none∧xs[i]?=some (.box n 0))∨∃ d,c=some d∧xs[i]?=some (.d d)
 | [],caps,h=>by cases h;exact ⟨rfl,fun i c h=>by simp at h⟩
 | .d d::l,caps,h=>by
  rw [cycCaps,Option.map_eq_some_iff] at h
  obtain ⟨l',hl,rfl⟩:=h
  obtain ⟨h1,h2⟩:=z213 hl
  refine ⟨by simp [h1],fun i c hi=>?_⟩
  cases i with
  | zero=>simp at hi;subst hi;exact .inr ⟨d,rfl,rfl⟩
  | succ i=>simpa using h2 i c (by simpa using hi)
 | .box k o::l,caps,h=>by
  rw [cycCaps] at h
  split at h
  ·rename_i hk
   obtain ⟨rfl,rfl⟩:=hk
   rw [Option.map_eq_some_iff] at h
   obtain ⟨l',hl,rfl⟩:=h
   obtain ⟨h1,h2⟩:=z213 hl
   refine ⟨by simp [h1],fun i c hi=>?_⟩
   cases i with
   | zero=>simp at hi;subst hi;exact .inl ⟨rfl,rfl⟩
   | succ i=>simpa using h2 i c (by simpa using hi)
  ·cases h
 | .undef::_,_,h | .void::_,_,h | .nil::_,_,h | .elem ..::_,_,h | .own _::_,_,h | .view ..::_,_,h | .bsl ..::_,_,h | .mp _::_,_,h | .vh ..::_,_,h | .vc ..::_,_,h | .dfull _::_,_,h | .agg _::_,_,h
 | .tup _::_,_,h | .fn ..::_,_,h=>by cases h
def cycLeaf (d:DV):AV→AV
 | .box _ 0=>.d d
 | _=>.undef
def St.cyc (n depth:Nat) (st:St):St:=match (st.m[n]?:Option (Option Blk)) with
 | some (some (.box [.fn f xs]))=>match cycCaps n xs with
  | some caps=>{ t:=st.t.map (AV.sub n (cycLeaf (cycD f caps depth))),m:=subMem n (cycLeaf (cycD f caps depth)) (st.m.set n none) }
  | none=>st
 | _=>st
theorem z1085 (n depth:Nat) (st:St):Weak st (st.cyc n depth):=by
 intro P base out μ tmps w h
 unfold St.cyc
 split
 ·rename_i f xs hn
  split
  ·rename_i caps hcaps
   obtain ⟨b,cs,ty,hμ,hh,hle,hcell⟩:=h.mem.box hn
   have hlt:n<st.m.length:=(List.getElem?_eq_some_iff.1 hn).1
   have hown:∀ k,ownOf out (μ.upd n none) k→ownOf out μ k:=by
    rintro k (hk | ⟨a,z,l,c,ha⟩)
    ·exact .inl hk
    ·by_cases han:a=n
     ·subst han;rw [Pl.upd_same] at ha;cases ha
     ·rw [Pl.upd_ne μ _ han] at ha;exact .inr ⟨a,z,l,c,ha⟩
   have hnb:¬ ownOf out (μ.upd n none) b:=by
    rintro (hc | ⟨a,z,l,c,ha⟩)
    ·exact (h.mem.base n b _ _ _ hμ).2.2 hc
    ·by_cases han:a=n
     ·subst han;rw [Pl.upd_same] at ha;cases ha
     ·rw [Pl.upd_ne μ _ han] at ha;exact han (h.mem.inj a n b _ _ _ _ _ _ ha hμ)
   have hg:Goes w (ownOf out μ) w (ownOf out (μ.upd n none)):=fun k o v h1 h2=>⟨fun hc=>h1 (hown k hc),h2⟩
   have hcs1:0<cs.size:=hle
   obtain ⟨v0,hv0⟩:∃ v,cs[0]?=some v:=⟨cs[0],by simp [hcs1]⟩
   obtain ⟨hone,hrel⟩:=hcell 0 (.fn f xs) v0 rfl hv0
   obtain ⟨vs,rfl,hvl,hvd⟩:=z891 hrel
   obtain ⟨hcl,hcg⟩:=z213 hcaps
   have hcell0:w.cell? ⟨b,0,none⟩=some (.func (.func f) #[] vs):=by rw [z59 hh];exact hv0
   have key:∀ i,DRel w (ownOf out (μ.upd n none)) (cycD f caps i) (.pointer (some ⟨b,0,none⟩)):=by
    intro i
    induction i with
    | zero=>exact .any _ rfl
    | succ i ih =>
     have hfn:DRel w (ownOf out (μ.upd n none)) (.fn f (caps.map fun c=>c.getD (cycD f caps i))) (.func (.func f) #[] vs):=by
      refine .fn f _ vs (by rw [List.length_map,← hcl,hvl]) (fun j d u h1 h2=>?_)
      simp only [List.getElem?_map,Option.map_eq_some_iff] at h1
      obtain ⟨c,h1,rfl⟩:=h1
      rcases hcg j c h1 with ⟨rfl,h3⟩ | ⟨d,rfl,h3⟩
      ·obtain ⟨b2,z2,l2,c2,h4,rfl⟩:=z100 (hvd j _ u h3 h2)
       rw [hμ] at h4;cases h4
       exact ih
      ·exact (hvd j _ u h3 h2).d_inv.goes hg
     have:=DRel.ptr (w:=w) (own:=ownOf out (μ.upd n none)) [.fn f (caps.map fun c=>c.getD (cycD f caps i))] 0 b 0 (fun _=>.func (.func f) #[] vs)
      (fun j d hj=>by
       have hj0:j=0:=by have:=(List.getElem?_eq_some_iff.1 hj).1;simpa using this
       subst hj0
       exact ⟨hnb,hcell0,hone⟩)
      (fun j d hj=>by
       have hj0:j=0:=by have:=(List.getElem?_eq_some_iff.1 hj).1;simpa using this
       subst hj0
       simp at hj
       subst hj
       exact hfn)
     exact this
   refine ⟨μ.upd n none,?_,hown⟩
   refine h.turn (n:=n) (f:=cycLeaf (cycD f caps depth)) hg (fun k hk=>Pl.upd_ne μ _ hk) (fun y u hy hr=>?_) (fun _ _ _ _ _ _ _=>rfl) (Nat.le_refl _)
    (fun k hk=>by rw [z37,List.getElem?_set_ne (Ne.symm hk)]) (fun b' hb'=>by rw [z37] at hb';simp [hlt] at hb') (fun hs=>by rw [Pl.upd_same] at hs;cases hs)
    (fun b z l c hc=>by rw [Pl.upd_same] at hc;cases hc)
   unfold cycLeaf
   split
   ·rename_i k
    simp only [AV.name?,Option.some.injEq] at hy
    subst hy
    obtain ⟨b2,z2,l2,c2,h4,rfl⟩:=z100 hr
    rw [hμ] at h4;cases h4
    exact .d (key depth)
   ·exact .undef _
  ·exact ⟨μ,h,fun _ hb=>hb⟩
 ·exact ⟨μ,h,fun _ hb=>hb⟩
theorem z732 {rd:Option Nat} {n:Nat} {ops:Array Oper} {l:Nat} {items:List (List DV)} (hG:GivesE P l J items) (ys:List Nat) (p:Nat) {id:Nat} {Q:Exit→Option Nat→St→Prop} (hfol:P.follows .mixedOrders=true) (hback:backB ops=true) (hp:tailB ops p=true) (hps:p≤ops.size)
  (G:(Nat→Bool)→St) (h0:G (fun i=>decide (i<p))=st) (hs:stepsC P (ops.toList.take p) G (ops.toList.take p) 0) {s1:St} (hw:Weak (G fun _=>false) s1) (h:runE P l items ys ops (ops.toList.drop p) k s1 (Q .normal)) :
  Walk P rd n J (.region id ops true) k st Q:=fun B base out μ tmps w ds hO hst hJ hM=>by
 refine wpIn_region_any hfol ?_
 have hB0:Below w.heap.size w { w with drawn:=w.drawn + 1 }:=(Below.refl _ w).drew
 have hsz:ops.size=(ops.size - p) + p:=by omega
 conv=>arg 7;rw [hsz]
 have htk:∀ (j:Nat) (o:Oper),ops[j]?=some o→j<p→(ops.toList.take p)[j]?=some o:=fun j o ho hj=>by rw [List.getElem?_take,if_pos hj];simpa using ho
 refine z903 (st':=G fun _=>false) (fun i=>i) (fun a b=>¬ Anc ops a b) (fun rs s s'=>LeftC ops G rs s s'∧(∀ i ∈ rs,i<p)∧∀ (j:Nat) (o:Oper),j<p→ops[j]?=some o→j ∉ rs→∀ e ∈ o.after,Region.binds .any e=true→e.on ∉ rs)
  (fun s s' hc=>by rw [hc.1.now,hc.1.fin];rfl) (fun r rs s s' hc=>?_) (fun r B s s' A hA hc=>?_)
  hback p (fun i j hi hj hs=>z183 hp i j (by omega) hj hs) (ops.size - p) p _ (List.range p) st μ tmps _ (by simp) (by simpa using List.pairwise_lt_range) (by simp) (fun i=>?_) (fun j hj hs=>by simp [hs]) (fun k o ho hk=>?_) ?_ ?_ (hst.below hB0) (fun listed' tmps' μ' w' g1 g2 g3 h1 hB hS=>?_)
 ·obtain ⟨⟨h1,h2,h3,h4,h5⟩,h7,h6⟩:=hc
  have hr:=h5 r (by simp)
  have hrp:=h7 r (by simp)
  obtain ⟨o,ho⟩:∃ o,ops[r]?=some o:=⟨ops[r],by simp [hr]⟩
  rw [List.pairwise_cons] at h4
  rw [List.nodup_cons] at h3
  have hni:∀ e ∈ o.after,Region.binds .any e=true→e.on ∉ r::rs:=by
   intro e he hb hc
   have hlt:=z127 hback ho he hb
   have hanc:Anc ops e.on r:=.edge ho he hb
   rcases List.mem_cons.1 hc with hc | hc
   ·omega
   ·exact h4.1 _ hc hanc
  have hg:=z247 (ops.toList.take p) 0 r o hs (htk r o ho hrp) (fun i=>(r::rs).contains i) (by simp) (z236 fun e he hb=>by
   simpa using hni e (by simpa using he) hb) (z265 _ _ fun j q hq hm=>z236 fun e he hb=>by
    have hj:j ∉ r::rs:=by simpa using hm
    rw [List.getElem?_take] at hq
    split at hq
    ·rename_i hjp
     simpa using h6 j q hjp (by simpa using hq) hj e (by simpa using he) hb
    ·cases hq)
  obtain ⟨hd,hgu,hk⟩:=hg
  obtain ⟨s1,hs1,he⟩:=z137 hk
  refine ⟨o,s1,ho,hd,by unfold StepG;rw [hgu,h1];exact hs1,?_⟩
  refine ⟨⟨?_,h2,h3.2,h4.2,fun i hi=>h5 i (by simp [hi])⟩,fun i hi=>h7 i (by simp [hi]),fun j q hjp hq hj e he hb hc=>?_⟩
  ·rw [he]
   congr 1
   funext j
   unfold offM
   rw [Nat.zero_add]
   by_cases hj:j=r
   ·subst hj
    rw [if_pos rfl]
    have:¬ rs.contains j=true:=by simpa using h3.1
    simpa using this
   ·rw [if_neg hj]
    simp [hj]
  ·by_cases hjr:j=r
   ·subst hjr
    rw [hq] at ho
    cases ho
    exact hni e he hb (by simp [hc])
   ·exact h6 j q hjp hq (by simp [hjr,hj]) e he hb (by simp [hc])
 ·obtain ⟨⟨h1,h2,h3,h4,h5⟩,h7,h6⟩:=hc
  have hsub:(A++B).Sublist (A++r::B):=List.Sublist.append_left (List.sublist_cons_self r B) A
  have hmem:∀ i,i ∈ r::(A++B)↔i ∈ A++r::B:=by
   intro i
   simp
   constructor
   ·rintro (h | h | h) <;> simp [h]
   ·rintro (h | h | h) <;> simp [h]
  refine ⟨⟨?_,h2,?_,?_,fun i hi=>h5 i ((hmem i).1 hi)⟩,fun i hi=>h7 i ((hmem i).1 hi),fun j q hjp hq hj e he hb hc=>h6 j q hjp hq (fun h=>hj ((hmem j).2 h)) e he hb ((hmem _).1 hc)⟩
  ·rw [h1]
   congr 1
   funext j
   rw [Bool.eq_iff_iff]
   simp
   constructor
   ·rintro (h | h | h) <;> simp [h]
   ·rintro (h | h | h) <;> simp [h]
  ·rw [List.nodup_cons]
   refine ⟨?_,h3.sublist hsub⟩
   rw [List.nodup_append] at h3
   intro hc
   rcases List.mem_append.1 hc with hc | hc
   ·exact h3.2.2 r hc r (by simp) rfl
   ·exact (List.nodup_cons.1 h3.2.1).1 hc
  ·rw [List.pairwise_cons]
   refine ⟨fun b hb=>?_,h4.sublist hsub⟩
   rcases List.mem_append.1 hb with hb | hb
   ·exact hA b hb
   ·rw [List.pairwise_append] at h4
    exact (List.pairwise_cons.1 h4.2.1).1 b hb
 ·simp only [List.map_id',List.mem_range,Array.getElem?_replicate]
  constructor
  ·intro hi;exact ⟨hi,by rw [if_pos (by omega)]⟩
  ·intro hi;exact hi.1
 ·simp only [Array.getElem?_replicate] at hk
  split at hk <;> simp at hk
 ·have hpr:(List.range p).Pairwise (·<·):=List.pairwise_lt_range
  exact hpr.imp fun {a b} _=>Classical.em _
 ·refine ⟨⟨?_,rfl,List.nodup_range,?_,fun i hi=>by have:=List.mem_range.1 hi;omega⟩,fun i hi=>List.mem_range.1 hi,fun j o hjp ho hj=>absurd (List.mem_range.2 hjp) hj⟩
  ·rw [← h0]
   congr 1
   funext i
   rw [Bool.eq_iff_iff]
   simp
  ·exact List.pairwise_lt_range.imp fun {a b} hab hc=>by
    have:=z1151 hback hc
    omega
 ·have hB1:=(KeepO.below (own:=ownOf out μ) hB0 hst.le).trans hB
  refine z545 hback (z183 hp) (ops.size - p) p listed' _ w' (by omega) (Nat.le_refl _) g1 (fun i hi=>g2 i hi (by omega)) g3 ?_
  have hst1:Stays w (ownOf out μ) w' (ownOf out μ'):=⟨hB1.keep.below.size,hB1.stays⟩
  obtain ⟨μ3,h3,hsub⟩:=hw P base out μ' tmps' w' h1
  have hst2:Stays w (ownOf out μ) w' (ownOf out μ3):=hst1.trans (.less hsub)
  have:=z252 (n:=n) (rd:=rd) hG hO (ds:=ds) (Qm:=Ends P J B (dsts (.region id ops true)) (ownOf out μ) tmps w Q) (ops.toList.drop p) p k s1 (Q .normal) base out μ3 tmps' w' (fun j o hj=>by simpa [List.getElem?_drop] using hj) h h3 (Firm.next hJ hB1.keep.below) (Nat.le_trans hM.1 hst1.1)
   (fun k' st' base' out' μ2 tmps2 w2 h2 hJ' hs hSa hk=>⟨k',st',base',out',μ2,h2,hJ',hM.stays (hst2.trans hs),hst2.trans hs,hS.trans (hSa.mono fun i hi=>z206 p hi),hk⟩)
  simpa using this
theorem z129 {rd:Option Nat} {n:Nat} {ops:Array Oper} {l:Nat} {items:List (List DV)} (hG:GivesE P l J items) (ys:List Nat) (p:Nat) {id:Nat} {cs:List Code} {Q:Exit→Option Nat→St→Prop} (hfol:P.follows .mixedOrders=true) (hback:backB ops=true) (hp:tailB ops p=true) (hps:p≤ops.size)
  (G:(Nat→Bool)→St) (h0:G (fun i=>decide (i<p))=st) (hs:stepsC P (ops.toList.take p) G (ops.toList.take p) 0) {s1:St} (hw:Weak (G fun _=>false) s1)
  (h:∀ K:Option Nat→St→Prop,(∀ k s,WalkL P rd n J cs k s Q→K k s)→runE P l items ys ops (ops.toList.drop p) k s1 K):WalkL P rd n J (.region id ops true::cs) k st Q :=
 z732 hG ys p hfol hback hp hps G h0 hs hw (h _ fun _ _ h=>h)
theorem z553 {n:Nat} {α:Type} {cs:List Code} {Q:Exit→Option Nat→St→Prop} {g:Operand} {ps:Array Tmp} {assign body:Code} {f:FuncId} {pre post:List AV} {items:List (List DV)} (ns:List Nat) {m0:List Blk}
  (hg:rangeOf st g=some (f,pre,post)) (hnd:ns.Nodup) (hm0:ceded st ns ns=some m0) (hit:IterE P f m0 (fun l=>(pre++.d (.yld l)::post).map (AV.mapN (inv ns))) items) (hps:∀ row ∈ items,row.length=ps.size)
  (ts:α→List (Nat × AV)) (ms:α→List (Nat × Option Blk)) (I:Nat→α→Prop) (Ix:Exit→α→Prop) (a0:α) (hw:Weak (st.cede ns) ((st.cede ns).head (dsts (.rangeFunc g ps assign body)) (ts a0) (ms a0))) (h0:I 0 a0)
  (hround:∀ X W i a row,items[i]?=some row→I i a→∀ l m,WalkL P (some l) m (lendJ X W J) [assign] k { t:=setPs ps.toList row ((st.cede ns).head (dsts (.rangeFunc g ps assign body)) (ts a) (ms a)).t,m:=((st.cede ns).head (dsts (.rangeFunc g ps assign body)) (ts a) (ms a)).m }
   (thenA (fun k2 s=>WalkL P (some l) m (lendJ X W J) [body] k2 s fun e k3 s3=>k3=k∧match e with
    | .normal=>∃ a',Weak (s3.wipe (dsts (.rangeFunc g ps assign body))) ((st.cede ns).head (dsts (.rangeFunc g ps assign body)) (ts a') (ms a'))∧I (i + 1) a'
    | e=>(jumpCode e).isSome∧∃ a',Weak (s3.wipe (dsts (.rangeFunc g ps assign body))) ((st.cede ns).head (dsts (.rangeFunc g ps assign body)) (ts a') (ms a'))∧Ix e a') (fun _ _ _=>False)))
  (hdone:∀ a,I items.length a→WalkL P none n J cs k ((st.cede ns).head (dsts (.rangeFunc g ps assign body)) (ts a) (ms a)) Q) (hstop:∀ e a,Ix e a→(jumpCode e).isSome→Q e k ((st.cede ns).head (dsts (.rangeFunc g ps assign body)) (ts a) (ms a))) :
  WalkL P none n J (.rangeFunc g ps assign body::cs) k st Q:=by
 refine z554 ns hg hnd hm0 hit hps (fun a=>(st.cede ns).head (dsts (.rangeFunc g ps assign body)) (ts a) (ms a)) (fun k' i a=>k'=k∧I i a) (fun e k' a=>k'=k∧Ix e a) a0 hw ⟨rfl,h0⟩ ?_ ?_ ?_
 ·rintro X W k' i a row hi ⟨rfl,hI⟩ l m
  refine z115 (hround X W i a row hi hI l m) fun e k2 s hq=>?_
  cases e with
  | normal =>
   refine z115 (z60 hq) fun e k3 s3 hq3=>?_
   obtain ⟨rfl,h⟩:=hq3
   cases e with
   | normal=>obtain ⟨a',h1,h2⟩:=h;exact ⟨a',h1,rfl,h2⟩
   | _=>obtain ⟨hj,a',h1,h2⟩:=h;exact ⟨hj,a',h1,rfl,h2⟩
  | _=>exact hq
 ·rintro k' a ⟨rfl,hI⟩;exact hdone a hI
 ·rintro e k' a ⟨rfl,hI⟩ hj;exact hstop e a hI hj
end
theorem z870 {P:Program} {l:Nat} {items:List (List DV)} {o:Oper} {k:Option Nat} {s:St} {K K':Option Nat→St→Prop} (h:callYK P l items o k s K) (hK:∀ k s,K k s→K' k s):callYK P l items o k s K':=by
 obtain ⟨kk,h1,gx,h2,ns,m0,its,a1,a2,a3,a4,a5,a6⟩:=h
 exact ⟨kk,h1,gx,h2,ns,m0,its,a1,a2,a3,a4,hK _ _ a5,hK _ _ a6⟩
theorem z448 {P:Program} {l:Nat} {items:List (List DV)} {ys:List Nat} {o:Oper} {k:Option Nat} {s:St} {K K':Option Nat→St→Prop} (h:stepE P l items ys o k s K) (hK:∀ k s,K k s→K' k s):stepE P l items ys o k s K':=by
 unfold stepE at h ⊢
 split
 ·rename_i hy
  rw [hy] at h
  obtain ⟨h1,kk,row,h2,h3,h4,h5,h6,h7⟩:=h
  exact ⟨h1,kk,row,h2,h3,h4,h5,hK _ _ h6,hK _ _ h7⟩
 ·rename_i hy
  rw [hy] at h
  dsimp only at h ⊢
  split at h
  ·exact z870 h hK
  ·exact z248 h fun s=>hK k s
theorem z533 (P:Program) (l:Nat) (items:List (List DV)) (ys:List Nat) (o:Oper) (k:Option Nat) (s:St) (R:Option Nat→St→Prop):guardRunEY P l items ys (.d (.bool true)) true o k s R=stepE P l items ys o k s R:=by
 apply propext
 exact ⟨fun h=>(h R (fun _ _ h=>h)).1 rfl,fun h K' hK=>⟨fun _=>z448 h hK,fun e=>(by cases e)⟩⟩
theorem z536 (P:Program) (l:Nat) (items:List (List DV)) (ys:List Nat) (o:Oper) (k:Option Nat) (s:St) (R:Option Nat→St→Prop):guardRunEY P l items ys (.d (.bool false)) false o k s R=stepE P l items ys o k s R:=by
 apply propext
 exact ⟨fun h=>(h R (fun _ _ h=>h)).1 rfl,fun h K' hK=>⟨fun _=>z448 h hK,fun e=>(by cases e)⟩⟩
theorem z534 (P:Program) (l:Nat) (items:List (List DV)) (ys:List Nat) (o:Oper) (k:Option Nat) (s:St) (R:Option Nat→St→Prop):guardRunEY P l items ys (.d (.bool true)) false o k s R=R k (s.put o.dst .void):=by
 apply propext
 exact ⟨fun h=>(h R (fun _ _ h=>h)).2 rfl,fun h K' hK=>⟨fun e=>(by cases e),fun _=>hK _ _ h⟩⟩
theorem z535 (P:Program) (l:Nat) (items:List (List DV)) (ys:List Nat) (o:Oper) (k:Option Nat) (s:St) (R:Option Nat→St→Prop):guardRunEY P l items ys (.d (.bool false)) true o k s R=R k (s.put o.dst .void):=by
 apply propext
 exact ⟨fun h=>(h R (fun _ _ h=>h)).2 rfl,fun h K' hK=>⟨fun e=>(by cases e),fun _=>hK _ _ h⟩⟩
theorem z350 (P:Program) (l:Nat) (items:List (List DV)) (ys:List Nat) (want:Bool) (o:Oper) (k:Option Nat) (s:St) (R:Option Nat→St→Prop):guardRunEY P l items ys .void want o k s R=R k (s.put o.dst .void):=by
 apply propext
 exact ⟨fun h=>h R (fun _ _ h=>h),fun h K' hK=>hK _ _ h⟩
theorem z1100 (P:Program) (l:Nat) (items:List (List DV)) (ys:List Nat) (ops:Array Oper) (k:Option Nat) (s:St) (K:Option Nat→St→Prop):runE P l items ys ops [] k s K=K k s:=rfl
theorem z1017 (P:Program) (l:Nat) (items:List (List DV)) (ys:List Nat) (ops:Array Oper) (o:Oper) (os:List Oper) (k:Option Nat) (x:AV) (t:List AV) (m:List (Option Blk)) (K:Option Nat→St→Prop):runE P l items ys ops (o::os) k ⟨x::t,m⟩ K=(dstOk o=true∧match guardT ops o with
  | none=>False
  | some none=>stepE P l items ys o k ⟨x::t,m⟩ fun k s=>runE P l items ys ops os k s K
  | some (some (t',want))=>guardRunEY P l items ys ((⟨x::t,m⟩:St).ev (.tmp t')) want o k ⟨x::t,m⟩ fun k s=>runE P l items ys ops os k s K):=rfl
attribute [go_sem] stepE yieldOf z533 z536 z534 z535 z350 z1100 z1017 z1082 z1083 rangeOf St.cede cedeM retY pinsY nameV viaVh St.asVh St.fewer vcOf St.vRoom St.vFull St.cyc cycCaps cycLeaf opSliceA opCopyA opCopyB List.take_succ_cons List.take_zero List.take_nil List.drop_succ_cons List.drop_zero List.drop_nil
end Go.Ab
namespace Go.Ab
open Go.RowKit Go.Proofs
set_option maxHeartbeats 8000000
set_option maxRecDepth 20000
attribute [local irreducible] WalkL Walk
def suitTo7 (k:Kitchen) (no:Int) (m:Nat):List Int:=((List.range m).filter fun (i:Nat)=>suitsB k (i:Int) no).map fun (i:Nat)=>(i:Int)
def suitL (k:Kitchen) (no:Int):List Int:=suitTo7 k no k.dishes.length
theorem z954 {k:Kitchen} {no:Int} {i:Nat} (h:suitsB k (i:Int) no=true):suitTo7 k no (i + 1)=suitTo7 k no i++[(i:Int)]:=by
 simp [suitTo7,List.range_succ,List.filter_append,h]
theorem z1010 {k:Kitchen} {no:Int} {i:Nat} (h:suitsB k (i:Int) no=false):suitTo7 k no (i + 1)=suitTo7 k no i:=by
 simp [suitTo7,List.range_succ,List.filter_append,h]
theorem z246 (k:Kitchen) (no:Int) (m:Nat):(suitTo7 k no m).length≤m:=by
 have:=List.length_filter_le (fun (i:Nat)=>suitsB k (i:Int) no) (List.range m)
 simpa [suitTo7] using this
theorem z1091 {k:Kitchen} {no d:Int} (h:d ∈ suitL k no):∃ n:Nat,d=n∧n<k.dishes.length∧suitsB k (n:Int) no=true:=by
 obtain ⟨n,hn,rfl⟩:=List.mem_map.1 h
 obtain ⟨h1,h2⟩:=List.mem_filter.1 hn
 exact ⟨n,rfl,List.mem_range.1 h1,h2⟩
theorem zf133 (k:Kitchen) (hg:KitGood k) (no:Int):FnS Tryz.prog 133 [.agg k.cells,.i no] 3 1 (intRows (suitL k no)):=by
 have hd:=hg.dishes
 unfold suitL
 refine z132 23 Tryz.call133 Tryz.func133 rfl (by decide) fun J=>?_
 simp only [go_sem,St.start,Tryz.ntmps133,Tryz.results133,Kitchen.cells]
 repeat (first | refine nx ?_ | (refine z10 fun K hK=>?_;simp only [go_sem];apply hK;clear hK K))
 refine z15 (fun (i:Nat)=>[(10,.d (.i (i:Int))),(4,.own 20)]) (fun i=>[(20,some (.arr 3 1 (intRows (suitTo7 k no i))))]) (fun i=>i≤k.dishes.length) (fun i=>k.dishes.length - i) 0 ?_ (Nat.zero_le _) ?_
 ·simp only [go_sem]
  refine z53 [20] ?_ ?_ rfl rfl <;> simp [lessT,lessM,lessB,AV.less,suitTo7,intRows]
 ·intro i hi
  simp only [go_sem]
  repeat (first | refine nx ?_ | (refine z10 fun K hK=>?_;simp only [go_sem];apply hK;clear hK K))
  refine z13 rfl (fun hb=>?_) (fun hb=>?_)
  ·have hlt:i<k.dishes.length:=by simpa using hb
   have hw:IntKind.i64.wrap ((i:Int) + 1)=((i + 1:Nat):Int):=by rw [z17 (by omega)];simp
   have h86:=zf117 k hg i no hlt
   rw [Kitchen.cells] at h86
   have hl:=z246 k no i
   obtain ⟨L,hL⟩:∃ L,L=suitTo7 k no i:=⟨_,rfl⟩
   rw [← hL] at hl ⊢
   have hn:L.length + 1≤549755813888:=by omega
   cases q:suitsB k (i:Int) no
   ·rw [q] at h86
    have e:=z1010 q
    rw [← hL] at e
    repeat (first | refine z12 rfl ?_ | refine z11 rfl ?_ | refine nx ?_ | (refine z10 fun K hK=>?_;simp only [go_sem,hw];(repeat (first | (refine ⟨_,.lent (hf:=h86) (hd:=rfl) (hr:=rfl),?_⟩;simp only [go_sem,hw]) | (refine ⟨_,.given (hf:=h86) (hd:=rfl) (ha:=rfl),?_⟩;simp only [go_sem,hw])));apply hK;clear hK K))
    refine ⟨rfl,i + 1,?_,hlt,by omega⟩
    rw [e]
    refine weA ?_ ?_ <;> simp
    all_goals first | done | rfl | trace_state
   ·rw [q] at h86
    have e:=z954 q
    rw [← hL] at e
    have s1:intRows L++[[.i (i:Int)]]=intRows (suitTo7 k no (i + 1)):=by rw [e];simp [intRows]
    repeat (first | refine z12 rfl ?_ | refine z11 rfl ?_ | refine nx ?_ | (refine z10 fun K hK=>?_;simp only [go_sem,hn,s1,hw];(repeat (first | (refine ⟨_,.lent (hf:=h86) (hd:=rfl) (hr:=rfl),?_⟩;simp only [go_sem,hn,s1,hw]) | (refine ⟨_,.given (hf:=h86) (hd:=rfl) (ha:=rfl),?_⟩;simp only [go_sem,hn,s1,hw])));apply hK;clear hK K))
    refine ⟨rfl,i + 1,?_,hlt,by omega⟩
    refine weA ?_ ?_ <;> simp
    all_goals first | done | rfl | trace_state
  ·have he:i=k.dishes.length:=by (have:¬ i<k.dishes.length:=by simpa using hb);omega
   subst he
   repeat (first | refine nx ?_ | (refine z10 fun K hK=>?_;simp only [go_sem];apply hK;clear hK K))
   simp only [go_sem]
end Go.Ab
namespace Go.Ab
open Go.RowKit Go.Proofs
set_option maxHeartbeats 16000000
set_option maxRecDepth 20000
attribute [local irreducible] WalkL Walk
def addL:List (List Int)→List Int→List (List Int)
 | [],pre=>[pre]
 | S::gs,pre=>S.flatMap fun d=>addL gs (pre++[d])
def menuRows (l:List (List Int)):List (List DV):=l.map fun m=>[.sl (intRows m)]
def suitDay (k:Kitchen) (dy:Nat):List (List Int):=(k.days.getD dy []).map fun g=>suitL k g.no
def cycCaps98 (k:Kitchen) (dy l:Nat):List (Option DV):=[some (.ptr k.cells 0),some (.ptr [.i (dy:Int)] 0),some (.ptr [.yld l] 0),none]
theorem zf98y (k:Kitchen) (dy l:Nat) (hd:dy<k.days.length) (pre:List Int) (hne:pre≠[]) (hl:pre.length=(k.days.getD dy []).length) (hsm:pre.length<2 ^ 20) (D:DV) :
  YFn Tryz.prog 132 l [.arrP 3 1 (intRows pre)] [.vh 0 pre.length,.d (.ptr k.cells 0),.d (.ptr [.i (dy:Int)] 0),.d (.ptr [.yld l] 0),.d D] (menuRows [pre]):=by
 have h77:=z1197 pre (by omega)
 have g1:=z289 hd
 have n1:¬ ((dy:Int)<0):=by omega
 have hlb:((pre.length:Int) == ((k.days.getD dy []).length:Int))=true:=by simp [hl]
 have hcl:k.cells.length=4:=rfl
 have k3:k.cells[3]?=some (.sl (dayRows k.days)):=rfl
 refine z292 49 Tryz.call132 Tryz.func132 rfl (by decide) [0] rfl (by kernel_rfl) fun J ITEMS hG hit=>?_
 simp only [go_sem,St.startG,Tryz.ntmps132,Tryz.results132,List.map_cons,List.map_nil,List.range_succ,  ]
 repeat (first | refine nx ?_ | (refine z10 fun K hK=>?_;simp only [go_sem,g1,n1,hlb,k3,hcl];apply hK;clear hK K))
 refine z12 rfl ?_
 refine z306 ?_
 refine z271 hG [] 3 (by kernel_rfl) (by kernel_rfl) (by kernel_rfl) (by decide) fun K hK=>?_
 simp only [go_sem]
 refine ⟨_,.fnS (hdst:=rfl) (hf:=h77) (hd:=by simp [reifyAll,allSome,reify,leaf,deep,z36]) (hr:=.inl (z33 _)) (hfr:=rfl),?_⟩
 simp only [go_sem]
 refine ⟨by kernel_rfl,?_⟩
 refine ⟨rfl,0,[.sl (intRows pre)],rfl,rfl,rfl,hit 0 _ rfl,?_,?_⟩
 ·simp only [go_sem]
  refine hK _ _ ?_
  clear hK K
  repeat (first | refine nx ?_ | (refine z10 fun K hK=>?_;simp only [go_sem];apply hK;clear hK K))
  simp only [go_sem]
  rfl
 ·simp only [go_sem]
  refine hK _ _ ?_
  clear hK K
  repeat (first | refine nx ?_ | (refine z10 fun K hK=>?_;simp only [go_sem];apply hK;clear hK K))
  simp only [go_sem]
def cntF (F:Int→List (List Int)) (S:List Int) (j:Nat):Nat:=((S.take j).flatMap F).length
theorem z359 {F:Int→List (List Int)} {S:List Int} {j:Nat} {d:Int} (h:S[j]?=some d):cntF F S (j + 1)=cntF F S j + (F d).length:=by
 simp [cntF,List.take_add_one,h]
theorem z1192 {F:Int→List (List Int)} {S:List Int} {j:Nat} {d:Int} (h:S[j]?=some d) {i:Nat} {m:List Int} (hi:(F d)[i]?=some m):(S.flatMap F)[cntF F S j + i]?=some m:=by
 have hlt:=(List.getElem?_eq_some_iff.1 h).1
 have e:S.flatMap F=(S.take j).flatMap F++(F d++(S.drop (j + 1)).flatMap F):=by
  conv=>lhs;rw [← List.take_append_drop j S,List.drop_eq_getElem_cons hlt]
  have:S[j]=d:=by rw [List.getElem?_eq_getElem hlt] at h;simpa using h
  simp [this]
 rw [e,List.getElem?_append_right (by simp [cntF]),show cntF F S j + i - ((S.take j).flatMap F).length=i by simp [cntF],List.getElem?_append_left (List.getElem?_eq_some_iff.1 hi).1]
 exact hi
theorem z69 (l:List (List Int)):(menuRows l).length=l.length:=by simp [menuRows]
theorem z539 {F:Int→List (List Int)} {S:List Int} {j:Nat} {d:Int} (h:S[j]?=some d) {i:Nat} {row:List DV} (hi:(menuRows (F d))[i]?=some row):(menuRows (S.flatMap F))[cntF F S j + i]?=some row:=by
 simp only [menuRows,List.getElem?_map,Option.map_eq_some_iff] at hi ⊢
 obtain ⟨m,hm,rfl⟩:=hi
 exact ⟨m,z1192 h hm,rfl⟩
theorem z540 (F:Int→List (List Int)) (S:List Int):cntF F S S.length=(S.flatMap F).length:=by simp [cntF]
theorem zf98v (k:Kitchen) (hg:KitGood k) (dy l:Nat) (hd:dy<k.days.length) (pre:List Int) (hne:pre≠[]) (r:Nat) (gs:List (List Int)) (hl:pre.length<(k.days.getD dy []).length) (hsm:pre.length<2 ^ 20)
  (ih:∀ d:Int,YFn Tryz.prog 132 l [.arrP 3 1 (intRows (pre++[d]))] [.vh 0 (pre.length + 1),.d (.ptr k.cells 0),.d (.ptr [.i (dy:Int)] 0),.d (.ptr [.yld l] 0),.d (cycD 132 (cycCaps98 k dy l) r)] (menuRows (addL gs (pre++[d])))) :
  YFn Tryz.prog 132 l [.arrP 3 1 (intRows pre)] [.vh 0 pre.length,.d (.ptr k.cells 0),.d (.ptr [.i (dy:Int)] 0),.d (.ptr [.yld l] 0),.d (cycD 132 (cycCaps98 k dy l) (r + 1))] (menuRows (addL (suitL k (dinAt k dy pre.length).no::gs) pre)):=by
 have h63:=zf133 k hg (dinAt k dy pre.length).no
 have g1:=z289 hd
 have g2:=z898 hl
 have n1:¬ ((dy:Int)<0):=by omega
 have n2:¬ ((pre.length:Int)<0):=by omega
 have hlb:((pre.length:Int) == ((k.days.getD dy []).length:Int))=false:=beq_eq_false_iff_ne.2 (by omega)
 obtain ⟨no,hno⟩:∃ no,no=(dinAt k dy pre.length).no:=⟨_,rfl⟩
 rw [Diners.row] at g2
 rw [← hno] at h63 g2 ⊢
 have hcl:k.cells.length=4:=rfl
 have hct:k.cells.take 4=k.cells:=rfl
 have k3:k.cells[3]?=some (.sl (dayRows k.days)):=rfl
 obtain ⟨S,hS⟩:∃ S,S=suitL k no:=⟨_,rfl⟩
 have hSl:S.length≤5:=by have h1:=z246 k no k.dishes.length;have h2:=hg.dishes;rw [hS,suitL];omega
 rw [← hS] at h63 ⊢
 obtain ⟨D,hD⟩:∃ D,D=cycD 132 (cycCaps98 k dy l) r:=⟨_,rfl⟩
 have hDs:cycD 132 (cycCaps98 k dy l) (r + 1)=.ptr [.fn 132 [.ptr k.cells 0,.ptr [.i (dy:Int)] 0,.ptr [.yld l] 0,D]] 0:=by rw [hD];rfl
 rw [hDs]
 rw [← hD] at ih
 obtain ⟨F,hF⟩:∃ F,F=fun d:Int=>addL gs (pre++[d]):=⟨_,rfl⟩
 have hit0:addL (S::gs) pre=S.flatMap F:=by rw [hF];rfl
 have ih:∀ d:Int,YFn Tryz.prog 132 l [.arrP 3 1 (intRows (pre++[d]))] [.vh 0 (pre.length + 1),.d (.ptr k.cells 0),.d (.ptr [.i (dy:Int)] 0),.d (.ptr [.yld l] 0),.d D] (menuRows (F d)):=by rw [hF];exact ih
 rw [hit0]
 have hpl:pre.length≤549755813887:=by omega
 have hpn:0<pre.length:=List.length_pos_iff.2 hne
 have hap:∀ d:Int,intRows pre++[[.i d]]=intRows (pre++[d]):=fun d=>by simp [intRows]
 have hfew:∀ d:Int,(intRows (pre++[d])).take pre.length=intRows pre:=fun d=>by simp [intRows]
 have hlen:∀ d:Int,(pre++[d]).length=pre.length + 1:=fun d=>by simp
 refine z292 49 Tryz.call132 Tryz.func132 rfl (by decide) [0] rfl (by kernel_rfl) fun J ITEMS hG hit=>?_
 simp only [go_sem,St.startG,Tryz.ntmps132,Tryz.results132,List.map_cons,List.map_nil,List.range_succ,  ]
 refine z736 49 rfl ?_ ?_
 ·simp only [go_sem]
  repeat (first | refine nx ?_ | (refine z10 fun K hK=>?_;simp only [go_sem,g1,n1,hlb,k3,hcl];apply hK;clear hK K))
  refine z11 rfl ?_
  repeat (first | refine nx ?_ | (refine z10 fun K hK=>?_;simp only [go_sem];apply hK;clear hK K))
  refine z16 (by kernel_rfl) (by kernel_rfl) fun K hK=>?_
  simp only [go_sem,g1,n1,g2,n2,k3,hcl,hct]
  refine ⟨_,.fnS (hdst:=rfl) (hf:=h63) (hd:=rfl) (hr:=.inl (z33 _)) (hfr:=rfl),?_⟩
  simp only [go_sem]
  refine ⟨by kernel_rfl,hK _ ?_⟩
  clear hK K
  repeat (first | refine nx ?_ | (refine z10 fun K hK=>?_;simp only [go_sem];apply hK;clear hK K))
  refine z77 [9,10,11,12,13,14,15,16,17,18,23,24,25,26,27,28,29,30,31,32,33,34] ?_ ?_
  ·simp only [go_sem]
   refine weA ?_ ?_ <;> simp
  simp only [go_sem]
  refine z200 (fun (j:Nat)=>[(37,.d (.i (j:Int)))]) (fun _=>[]) (fun kk j=>j≤S.length∧kk=some (cntF F S j)) (fun j=>S.length - j) 0 ?_ ⟨Nat.zero_le _,rfl⟩ ?_
  ·simp only [go_sem]
   refine weA ?_ ?_ <;> simp
   all_goals first | done | rfl | trace_state
  ·rintro kk j ⟨hj,rfl⟩
   simp only [go_sem]
   repeat (first | refine nx ?_ | (refine z10 fun K hK=>?_;simp only [go_sem];apply hK;clear hK K))
   refine z13 rfl (fun hb=>?_) (fun hb=>?_)
   ·have hlt:j<S.length:=by simpa using hb
    have hw:IntKind.i64.wrap ((j:Int) + 1)=((j + 1:Nat):Int):=by rw [z17 (by omega)];simp
    obtain ⟨d,hd⟩:∃ d,S[j]?=some d:=⟨_,List.getElem?_eq_getElem hlt⟩
    have gS:=z38 hd
    have hnj:¬ ((j:Int)<0):=by omega
    repeat (first | refine nx ?_ | (refine z10 fun K hK=>?_;simp only [go_sem,gS,hlt,hnj];apply hK;clear hK K))
    refine z77 [38,39,40] ?_ ?_
    ·simp only [go_sem]
     refine weA ?_ ?_ <;> simp
    simp only [go_sem]
    refine z129 hG [46] 5 (by kernel_rfl) (by kernel_rfl) (by kernel_rfl) (by decide) (fun m=>⟨[.vh 49 pre.length,.d (.ptr k.cells 0),.d (.ptr [.i (dy:Int)] 0),.d (.ptr [.yld l] 0),.d (.ptr [.fn 132 [.ptr k.cells 0,.ptr [.i (dy:Int)] 0,.ptr [.yld l] 0,D]] 0),.undef,.undef,.undef,.d (.i d)]++List.replicate 26 .undef ++
      [.own 35,.d (.i (S.length:Int)),.d (.i (j:Int)),.undef,.undef,.undef,sel (m 0) (.fn 132 [.ptr k.cells 0,.ptr [.i (dy:Int)] 0,.ptr [.yld l] 0,D]),bif m 1 then .undef else .vh 49 pre.length,sel (m 2) (.i d),bif m 3 then .undef else .own 44,bif m 4 then .undef else .own 45,.undef,.undef,.undef],
     List.replicate 35 none++[some (.arr 3 1 (intRows S))]++List.replicate 8 none++[stB (m 3) true (.arr 3 1 [[.i d]]) (.arr 3 1 []),stB (m 4) true (.arr 3 1 (intRows (pre++[d]))) (.arr 3 1 []),none,none,none,some (.arr 3 1 (intRows pre))]⟩) ?_ ?_ (z216 45 _ (by intro e z;simp [stB,intRows])) ?_
    ·simp only [go_sem]
    ·refine ⟨?_,?_,?_,?_,?_,trivial⟩
     all_goals
      intro m hm hd hc
      simp only [closedM,depsM,Region.binds,true_and,and_true,Nat.zero_add,Nat.reduceAdd,reduceCtorEq,forall_const] at hc hd
      cases h1:m 1 <;> cases h3:m 3 <;> cases h4:m 4 <;> (try simp [h1,h3,h4] at hc hd hm)
     all_goals
      cases h0:m 0 <;> cases h2:m 2 <;> (try simp [h0,h1,h2,h3,h4] at hc hd hm)
     all_goals
      refine ⟨rfl,rfl,?_⟩
      simp only [go_sem,hm,hd,h0,h1,h2,h3,h4,hpl,hpn,hap]
    ·intro K hK
     simp only [go_sem,z36,hlen d]
     refine ⟨cntF F S j,rfl,?_⟩
     simp only [go_sem]
     refine ⟨[45],_,menuRows (F d),by decide,rfl,ih d,fun i row h=>hit _ _ (z539 hd h),?_,?_⟩
     ·refine hK _ _ ?_
      clear hK K
      repeat (first | refine nx ?_ | (refine z10 fun K hK=>?_;simp only [go_sem];apply hK;clear hK K))
      refine z11 rfl ?_
      repeat (first | refine nx ?_ | (refine z10 fun K hK=>?_;simp only [go_sem,hw];apply hK;clear hK K))
      refine ⟨j + 1,?_,⟨hlt,by rw [z359 hd,z69]⟩,by omega⟩
      refine weA ?_ ?_ <;> simp
      all_goals first | done | rfl | trace_state
     ·refine hK _ _ ?_
      clear hK K
      repeat (first | refine nx ?_ | (refine z10 fun K hK=>?_;simp only [go_sem];apply hK;clear hK K))
      refine z12 rfl ?_
      refine z71 (z216 49 _ (by intro e z;simp [intRows,hne])) ?_
      simp only [go_sem]
      repeat (first | refine nx ?_ | (refine z10 fun K hK=>?_;simp only [go_sem];apply hK;clear hK K))
      simp only [go_sem]
   ·have he:j=S.length:=by (have:¬ j<S.length:=by simpa using hb);omega
    subst he
    refine z71 (z216 49 _ (by intro e z;simp [intRows,hne])) ?_
    simp only [go_sem]
    repeat (first | refine nx ?_ | (refine z10 fun K hK=>?_;simp only [go_sem];apply hK;clear hK K))
    simp only [go_sem]
    exact (z540 F S).trans (z69 _).symm
 ·simp only [go_sem]
  repeat (first | refine nx ?_ | (refine z10 fun K hK=>?_;simp only [go_sem,g1,n1,hlb,k3,hcl];apply hK;clear hK K))
  refine z11 rfl ?_
  repeat (first | refine nx ?_ | (refine z10 fun K hK=>?_;simp only [go_sem];apply hK;clear hK K))
  refine z16 (by kernel_rfl) (by kernel_rfl) fun K hK=>?_
  simp only [go_sem,g1,n1,g2,n2,k3,hcl,hct]
  refine ⟨_,.fnS (hdst:=rfl) (hf:=h63) (hd:=rfl) (hr:=.inl (z33 _)) (hfr:=rfl),?_⟩
  simp only [go_sem]
  refine ⟨by kernel_rfl,hK _ ?_⟩
  clear hK K
  repeat (first | refine nx ?_ | (refine z10 fun K hK=>?_;simp only [go_sem];apply hK;clear hK K))
  refine z77 [9,10,11,12,13,14,15,16,17,18,23,24,25,26,27,28,29,30,31,32,33,34] ?_ ?_
  ·simp only [go_sem]
   refine weA ?_ ?_ <;> simp
  simp only [go_sem]
  refine z200 (fun (j:Nat)=>[(37,.d (.i (j:Int)))]) (fun _=>[]) (fun kk j=>j≤S.length∧kk=some (cntF F S j)) (fun j=>S.length - j) 0 ?_ ⟨Nat.zero_le _,rfl⟩ ?_
  ·simp only [go_sem]
   refine weA ?_ ?_ <;> simp
   all_goals first | done | rfl | trace_state
  ·rintro kk j ⟨hj,rfl⟩
   simp only [go_sem]
   repeat (first | refine nx ?_ | (refine z10 fun K hK=>?_;simp only [go_sem];apply hK;clear hK K))
   refine z13 rfl (fun hb=>?_) (fun hb=>?_)
   ·have hlt:j<S.length:=by simpa using hb
    have hw:IntKind.i64.wrap ((j:Int) + 1)=((j + 1:Nat):Int):=by rw [z17 (by omega)];simp
    obtain ⟨d,hd⟩:∃ d,S[j]?=some d:=⟨_,List.getElem?_eq_getElem hlt⟩
    have gS:=z38 hd
    have hnj:¬ ((j:Int)<0):=by omega
    repeat (first | refine nx ?_ | (refine z10 fun K hK=>?_;simp only [go_sem,gS,hlt,hnj];apply hK;clear hK K))
    refine z77 [38,39,40] ?_ ?_
    ·simp only [go_sem]
     refine weA ?_ ?_ <;> simp
    simp only [go_sem]
    refine z129 hG [46] 5 (by kernel_rfl) (by kernel_rfl) (by kernel_rfl) (by decide) (fun m=>⟨[.vc 49 pre.length,.d (.ptr k.cells 0),.d (.ptr [.i (dy:Int)] 0),.d (.ptr [.yld l] 0),.d (.ptr [.fn 132 [.ptr k.cells 0,.ptr [.i (dy:Int)] 0,.ptr [.yld l] 0,D]] 0),.undef,.undef,.undef,.d (.i d)]++List.replicate 26 .undef ++
      [.own 35,.d (.i (S.length:Int)),.d (.i (j:Int)),.undef,.undef,.undef,sel (m 0) (.fn 132 [.ptr k.cells 0,.ptr [.i (dy:Int)] 0,.ptr [.yld l] 0,D]),bif m 1 then .undef else .vc 49 pre.length,sel (m 2) (.i d),bif m 3 then .undef else .own 44,bif m 4 then .undef else .vh 49 (pre.length + 1),.undef,.undef,.undef],
     List.replicate 35 none++[some (.arr 3 1 (intRows S))]++List.replicate 8 none++[stB (m 3) true (.arr 3 1 [[.i d]]) (.arr 3 1 []),none,none,none,none,stB false (m 4) (.arrP 3 1 (intRows pre)) (.arrP 3 1 (intRows (pre++[d])))]⟩) ?_ ?_ (Weak.refl _) ?_
    ·simp only [go_sem]
    ·refine ⟨?_,?_,?_,?_,?_,trivial⟩
     all_goals
      intro m hm hd hc
      simp only [closedM,depsM,Region.binds,true_and,and_true,Nat.zero_add,Nat.reduceAdd,reduceCtorEq,forall_const] at hc hd
      cases h1:m 1 <;> cases h3:m 3 <;> cases h4:m 4 <;> (try simp [h1,h3,h4] at hc hd hm)
     all_goals
      cases h0:m 0 <;> cases h2:m 2 <;> (try simp [h0,h1,h2,h3,h4] at hc hd hm)
     all_goals
      refine ⟨rfl,rfl,?_⟩
      simp only [go_sem,hm,hd,h0,h1,h2,h3,h4,hpl,hpn,hap]
    ·intro K hK
     simp only [go_sem,z36,hlen d]
     refine ⟨cntF F S j,rfl,?_⟩
     simp only [go_sem]
     refine ⟨[49],_,menuRows (F d),by decide,rfl,ih d,fun i row h=>hit _ _ (z539 hd h),?_,?_⟩
     ·refine hK _ _ ?_
      clear hK K
      repeat (first | refine nx ?_ | (refine z10 fun K hK=>?_;simp only [go_sem];apply hK;clear hK K))
      refine z11 rfl ?_
      repeat (first | refine nx ?_ | (refine z10 fun K hK=>?_;simp only [go_sem,hw];apply hK;clear hK K))
      refine ⟨j + 1,?_,⟨hlt,by rw [z359 hd,z69]⟩,by omega⟩
      refine Weak.trans (z441 49 pre.length _) ?_
      simp only [go_sem,hfew d]
      refine weA ?_ ?_ <;> simp
      all_goals first | done | rfl | trace_state
     ·refine hK _ _ ?_
      clear hK K
      repeat (first | refine nx ?_ | (refine z10 fun K hK=>?_;simp only [go_sem];apply hK;clear hK K))
      refine z12 rfl ?_
      refine z71 (z441 49 pre.length _) ?_
      simp only [go_sem,hfew d]
      repeat (first | refine nx ?_ | (refine z10 fun K hK=>?_;simp only [go_sem];apply hK;clear hK K))
      simp only [go_sem]
   ·have he:j=S.length:=by (have:¬ j<S.length:=by simpa using hb);omega
    subst he
    repeat (first | refine nx ?_ | (refine z10 fun K hK=>?_;simp only [go_sem];apply hK;clear hK K))
    simp only [go_sem]
    exact (z540 F S).trans (z69 _).symm
end Go.Ab
namespace Go.Ab
open Go.RowKit Go.Proofs
set_option maxHeartbeats 16000000
set_option maxRecDepth 20000
attribute [local irreducible] WalkL Walk
theorem z857 (d:Int):[[DV.i d]]=intRows [d]:=rfl
theorem z1195 (k:Kitchen) (dy l:Nat) (hd:dy<k.days.length) (hl:(k.days.getD dy []).length=0) (D:DV) :
  YFn Tryz.prog 132 l [] [.nil,.d (.ptr k.cells 0),.d (.ptr [.i (dy:Int)] 0),.d (.ptr [.yld l] 0),.d D] (menuRows [[]]):=by
 have h77:=z1197 [] (by decide)
 have e0:intRows []=[]:=rfl
 rw [e0] at h77
 have g1:=z289 hd
 have n1:¬ ((dy:Int)<0):=by omega
 have hlb:((0:Int) == ((k.days.getD dy []).length:Int))=true:=by rw [hl];rfl
 have hcl:k.cells.length=4:=rfl
 have k3:k.cells[3]?=some (.sl (dayRows k.days)):=rfl
 refine z292 49 Tryz.call132 Tryz.func132 rfl (by decide) [] rfl (by kernel_rfl) fun J ITEMS hG hit=>?_
 simp only [go_sem,St.startG,Tryz.ntmps132,Tryz.results132,List.map_cons,List.map_nil,List.range_succ,  ]
 repeat (first | refine nx ?_ | (refine z10 fun K hK=>?_;simp only [go_sem,g1,n1,hlb,k3,hcl,List.length_nil,Int.natCast_zero];apply hK;clear hK K))
 refine z12 rfl ?_
 refine z306 ?_
 refine z271 hG [] 3 (by kernel_rfl) (by kernel_rfl) (by kernel_rfl) (by decide) fun K hK=>?_
 simp only [go_sem]
 refine ⟨_,.fnS (hdst:=rfl) (hf:=h77) (hd:=rfl) (hr:=.inr rfl) (hfr:=rfl),?_⟩
 simp only [go_sem]
 refine ⟨by kernel_rfl,?_⟩
 refine ⟨rfl,0,[.sl []],rfl,rfl,rfl,hit 0 _ rfl,?_,?_⟩
 ·simp only [go_sem]
  refine hK _ _ ?_
  clear hK K
  repeat (first | refine nx ?_ | (refine z10 fun K hK=>?_;simp only [go_sem];apply hK;clear hK K))
  simp only [go_sem]
  rfl
 ·simp only [go_sem]
  refine hK _ _ ?_
  clear hK K
  repeat (first | refine nx ?_ | (refine z10 fun K hK=>?_;simp only [go_sem];apply hK;clear hK K))
  simp only [go_sem]
theorem zf98n (k:Kitchen) (hg:KitGood k) (dy l:Nat) (hd:dy<k.days.length) (r:Nat) (gs:List (List Int)) (hl:0<(k.days.getD dy []).length)
  (ih:∀ d:Int,YFn Tryz.prog 132 l [.arrP 3 1 (intRows [d])] [.vh 0 1,.d (.ptr k.cells 0),.d (.ptr [.i (dy:Int)] 0),.d (.ptr [.yld l] 0),.d (cycD 132 (cycCaps98 k dy l) r)] (menuRows (addL gs [d]))) :
  YFn Tryz.prog 132 l [] [.nil,.d (.ptr k.cells 0),.d (.ptr [.i (dy:Int)] 0),.d (.ptr [.yld l] 0),.d (cycD 132 (cycCaps98 k dy l) (r + 1))] (menuRows (addL (suitL k (dinAt k dy 0).no::gs) [])):=by
 have h63:=zf133 k hg (dinAt k dy 0).no
 have g1:=z289 hd
 have g2:=z898 hl
 have n1:¬ ((dy:Int)<0):=by omega
 have hlb:((0:Int) == ((k.days.getD dy []).length:Int))=false:=beq_eq_false_iff_ne.2 (by omega)
 obtain ⟨no,hno⟩:∃ no,no=(dinAt k dy 0).no:=⟨_,rfl⟩
 rw [Diners.row] at g2
 rw [← hno] at h63 g2 ⊢
 have hcl:k.cells.length=4:=rfl
 have hct:k.cells.take 4=k.cells:=rfl
 have k3:k.cells[3]?=some (.sl (dayRows k.days)):=rfl
 obtain ⟨S,hS⟩:∃ S,S=suitL k no:=⟨_,rfl⟩
 have hSl:S.length≤5:=by have h1:=z246 k no k.dishes.length;have h2:=hg.dishes;rw [hS,suitL];omega
 rw [← hS] at h63 ⊢
 obtain ⟨D,hD⟩:∃ D,D=cycD 132 (cycCaps98 k dy l) r:=⟨_,rfl⟩
 have hDs:cycD 132 (cycCaps98 k dy l) (r + 1)=.ptr [.fn 132 [.ptr k.cells 0,.ptr [.i (dy:Int)] 0,.ptr [.yld l] 0,D]] 0:=by rw [hD];rfl
 rw [hDs]
 rw [← hD] at ih
 obtain ⟨F,hF⟩:∃ F,F=fun d:Int=>addL gs [d]:=⟨_,rfl⟩
 have hit0:addL (S::gs) []=S.flatMap F:=by rw [hF];rfl
 have ih:∀ d:Int,YFn Tryz.prog 132 l [.arrP 3 1 (intRows [d])] [.vh 0 1,.d (.ptr k.cells 0),.d (.ptr [.i (dy:Int)] 0),.d (.ptr [.yld l] 0),.d D] (menuRows (F d)):=by rw [hF];exact ih
 rw [hit0]
 refine z292 49 Tryz.call132 Tryz.func132 rfl (by decide) [] rfl (by kernel_rfl) fun J ITEMS hG hit=>?_
 simp only [go_sem,St.startG,Tryz.ntmps132,Tryz.results132,List.map_cons,List.map_nil,List.range_succ,  ]
 repeat (first | refine nx ?_ | (refine z10 fun K hK=>?_;simp only [go_sem,g1,n1,hlb,k3,hcl,List.length_nil,Int.natCast_zero];apply hK;clear hK K))
 refine z11 rfl ?_
 repeat (first | refine nx ?_ | (refine z10 fun K hK=>?_;simp only [go_sem];apply hK;clear hK K))
 refine z16 (by kernel_rfl) (by kernel_rfl) fun K hK=>?_
 simp only [go_sem,g1,n1,g2,k3,hcl,hct,List.length_nil]
 refine ⟨_,.fnS (hdst:=rfl) (hf:=h63) (hd:=rfl) (hr:=.inl (z33 _)) (hfr:=rfl),?_⟩
 simp only [go_sem]
 refine ⟨by kernel_rfl,hK _ ?_⟩
 clear hK K
 repeat (first | refine nx ?_ | (refine z10 fun K hK=>?_;simp only [go_sem];apply hK;clear hK K))
 refine z77 [9,10,11,12,13,14,15,16,17,18,23,24,25,26,27,28,29,30,31,32,33,34] ?_ ?_
 ·simp only [go_sem]
  refine weA ?_ ?_ <;> simp
 simp only [go_sem]
 refine z200 (fun (j:Nat)=>[(37,.d (.i (j:Int)))]) (fun _=>[]) (fun kk j=>j≤S.length∧kk=some (cntF F S j)) (fun j=>S.length - j) 0 ?_ ⟨Nat.zero_le _,rfl⟩ ?_
 ·simp only [go_sem]
  refine weA ?_ ?_ <;> simp
  all_goals first | done | rfl | trace_state
 ·rintro kk j ⟨hj,rfl⟩
  simp only [go_sem]
  repeat (first | refine nx ?_ | (refine z10 fun K hK=>?_;simp only [go_sem];apply hK;clear hK K))
  refine z13 rfl (fun hb=>?_) (fun hb=>?_)
  ·have hlt:j<S.length:=by simpa using hb
   have hw:IntKind.i64.wrap ((j:Int) + 1)=((j + 1:Nat):Int):=by rw [z17 (by omega)];simp
   obtain ⟨d,hd⟩:∃ d,S[j]?=some d:=⟨_,List.getElem?_eq_getElem hlt⟩
   have gS:=z38 hd
   have hnj:¬ ((j:Int)<0):=by omega
   repeat (first | refine nx ?_ | (refine z10 fun K hK=>?_;simp only [go_sem,gS,hlt,hnj];apply hK;clear hK K))
   refine z77 [38,39,40] ?_ ?_
   ·simp only [go_sem]
    refine weA ?_ ?_ <;> simp
   simp only [go_sem]
   refine z129 hG [46] 5 (by kernel_rfl) (by kernel_rfl) (by kernel_rfl) (by decide) (fun m=>⟨[.nil,.d (.ptr k.cells 0),.d (.ptr [.i (dy:Int)] 0),.d (.ptr [.yld l] 0),.d (.ptr [.fn 132 [.ptr k.cells 0,.ptr [.i (dy:Int)] 0,.ptr [.yld l] 0,D]] 0),.undef,.undef,.undef,.d (.i d)]++List.replicate 26 .undef ++
     [.own 35,.d (.i (S.length:Int)),.d (.i (j:Int)),.undef,.undef,.undef,sel (m 0) (.fn 132 [.ptr k.cells 0,.ptr [.i (dy:Int)] 0,.ptr [.yld l] 0,D]),bif m 1 then .undef else .nil,sel (m 2) (.i d),bif m 3 then .undef else .own 44,bif m 4 then .undef else .own 45,.undef,.undef,.undef],
    List.replicate 35 none++[some (.arr 3 1 (intRows S))]++List.replicate 8 none++[stB (m 3) true (.arr 3 1 [[.i d]]) (.arr 3 1 []),stB (m 4) true (.arr 3 1 (intRows [d])) (.arr 3 1 []),none,none,none]⟩) ?_ ?_ (z216 45 _ (by intro e z;simp [stB,intRows])) ?_
   ·simp only [go_sem]
   ·refine ⟨?_,?_,?_,?_,?_,trivial⟩
    all_goals
     intro m hm hd hc
     simp only [closedM,depsM,Region.binds,true_and,and_true,Nat.zero_add,Nat.reduceAdd,reduceCtorEq,forall_const] at hc hd
     cases h1:m 1 <;> cases h3:m 3 <;> cases h4:m 4 <;> (try simp [h1,h3,h4] at hc hd hm)
    all_goals
     cases h0:m 0 <;> cases h2:m 2 <;> (try simp [h0,h1,h2,h3,h4] at hc hd hm)
    all_goals
     refine ⟨rfl,rfl,?_⟩
     simp only [go_sem,hm,hd,h0,h1,h2,h3,h4,z857]
   ·intro K hK
    simp only [go_sem,z36]
    refine ⟨cntF F S j,rfl,?_⟩
    simp only [go_sem]
    refine ⟨[45],_,menuRows (F d),by decide,rfl,ih d,fun i row h=>hit _ _ (z539 hd h),?_,?_⟩
    ·refine hK _ _ ?_
     clear hK K
     repeat (first | refine nx ?_ | (refine z10 fun K hK=>?_;simp only [go_sem];apply hK;clear hK K))
     refine z11 rfl ?_
     repeat (first | refine nx ?_ | (refine z10 fun K hK=>?_;simp only [go_sem,hw];apply hK;clear hK K))
     refine ⟨j + 1,?_,⟨hlt,by rw [z359 hd,z69]⟩,by omega⟩
     refine weA ?_ ?_ <;> simp
     all_goals first | done | rfl | trace_state
    ·refine hK _ _ ?_
     clear hK K
     repeat (first | refine nx ?_ | (refine z10 fun K hK=>?_;simp only [go_sem];apply hK;clear hK K))
     refine z12 rfl ?_
     repeat (first | refine nx ?_ | (refine z10 fun K hK=>?_;simp only [go_sem];apply hK;clear hK K))
     simp only [go_sem]
  ·have he:j=S.length:=by (have:¬ j<S.length:=by simpa using hb);omega
   subst he
   repeat (first | refine nx ?_ | (refine z10 fun K hK=>?_;simp only [go_sem];apply hK;clear hK K))
   simp only [go_sem]
   exact (z540 F S).trans (z69 _).symm
theorem z717 {k:Kitchen} {dy i:Nat} (h:i<(k.days.getD dy []).length):(suitDay k dy).drop i=suitL k (dinAt k dy i).no::(suitDay k dy).drop (i + 1):=by
 have hl:i<(suitDay k dy).length:=by simpa [suitDay] using h
 have e:(suitDay k dy)[i]?=some (suitL k (dinAt k dy i).no):=by
  rw [suitDay,List.getElem?_map,List.getElem?_eq_getElem h,Option.map_some]
  unfold dinAt
  rw [List.getD_eq_getElem?_getD (l:=k.days.getD dy []),List.getElem?_eq_getElem h]
  rfl
 rw [List.getElem?_eq_getElem hl] at e
 rw [List.drop_eq_getElem_cons hl,Option.some.inj e]
theorem z1196 (k:Kitchen) (hg:KitGood k) (dy l:Nat) (hd:dy<k.days.length):∀ (r:Nat) (pre:List Int),pre≠[]→pre.length + r=(k.days.getD dy []).length→pre.length<2 ^ 20 - r →
  YFn Tryz.prog 132 l [.arrP 3 1 (intRows pre)] [.vh 0 pre.length,.d (.ptr k.cells 0),.d (.ptr [.i (dy:Int)] 0),.d (.ptr [.yld l] 0),.d (cycD 132 (cycCaps98 k dy l) r)] (menuRows (addL ((suitDay k dy).drop pre.length) pre))
 | 0,pre,hne,hl,hsm=>by
  have e:(suitDay k dy).drop pre.length=[]:=List.drop_eq_nil_of_le (by simp [suitDay];simp at hl;omega)
  rw [e]
  exact zf98y k dy l hd pre hne (by omega) (by omega) _
 | r + 1,pre,hne,hl,hsm=>by
  rw [z717 (by omega)]
  refine zf98v k hg dy l hd pre hne r _ (by omega) (by omega) fun d=>?_
  have e:(pre++[d]).length=pre.length + 1:=by simp
  have:=z1196 k hg dy l hd r (pre++[d]) (by simp) (by omega) (by omega)
  rw [e] at this
  exact this
def choicesL (k:Kitchen) (dy:Nat):List (List Int):=addL (suitDay k dy) []
theorem zf132 (k:Kitchen) (hg:KitGood k) (dy l:Nat) (hd:dy<k.days.length) :
  YFn Tryz.prog 132 l [] [.nil,.d (.ptr k.cells 0),.d (.ptr [.i (dy:Int)] 0),.d (.ptr [.yld l] 0),.d (cycD 132 (cycCaps98 k dy l) (k.days.getD dy []).length)] (menuRows (choicesL k dy)):=by
 have h3:(k.days.getD dy []).length≤3:=by
  rw [List.getD,List.getElem?_eq_getElem hd]
  exact (hg.groups _ (List.getElem_mem hd)).1
 unfold choicesL
 cases hr:(k.days.getD dy []).length with
 | zero =>
  have e:suitDay k dy=[]:=by rw [suitDay,List.map_eq_nil_iff];exact List.eq_nil_of_length_eq_zero hr
  rw [e]
  exact z1195 k dy l hd hr _
 | succ r =>
  have e:suitDay k dy=(suitDay k dy).drop 0:=rfl
  rw [e,z717 (by omega)]
  refine zf98n k hg dy l hd r _ (by omega) fun d=>?_
  exact z1196 k hg dy l hd r [d] (by simp) (by rw [hr];exact Nat.add_comm _ _) (by rw [List.length_singleton];omega)
theorem zf131 (k:Kitchen) (hg:KitGood k) (dy:Nat) (hd:dy<k.days.length):IterE Tryz.prog 131 [] (fun l=>[.d (.yld l),.d (.ptr k.cells 0),.d (.ptr [.i (dy:Int)] 0)]) (menuRows (choicesL k dy)):=by
 have h98:=fun l=>zf132 k hg dy l hd
 obtain ⟨r,hr⟩:∃ r,r=(k.days.getD dy []).length:=⟨_,rfl⟩
 rw [← hr] at h98
 refine z970 8 Tryz.call131 Tryz.func131 rfl rfl fun l J hG=>?_
 simp only [go_sem,St.startG,Tryz.ntmps131,Tryz.results131,List.map_cons,List.map_nil,List.range_succ,  ]
 repeat (first | refine nx ?_ | (refine z10 fun K hK=>?_;simp only [go_sem];apply hK;clear hK K))
 refine z20 [3] ?_
 simp only [go_sem]
 refine z71 (z1085 4 (r + 1) _) ?_
 simp only [go_sem,cycD,List.map_cons,List.map_nil,Option.getD_some,Option.getD_none,Option.map_some]
 refine z470 hG [7] fun K hK=>?_
 simp only [go_sem]
 refine ⟨0,rfl,?_⟩
 simp only [go_sem]
 refine ⟨[],[],menuRows (choicesL k dy),by decide,rfl,h98 l,fun i row h=>by simpa using h,?_,?_⟩
 ·refine hK _ _ ?_
  clear hK K
  repeat (first | refine nx ?_ | (refine z10 fun K hK=>?_;simp only [go_sem];apply hK;clear hK K))
  simp only [go_sem]
 ·refine hK _ _ ?_
  clear hK K
  repeat (first | refine nx ?_ | (refine z10 fun K hK=>?_;simp only [go_sem];apply hK;clear hK K))
  simp only [go_sem]
theorem zf97 (k:Kitchen) (dy:Nat):Fn Tryz.prog 97 [.agg k.cells,.i (dy:Int)] (.fn 131 [.ptr k.cells 0,.ptr [.i (dy:Int)] 0]):=by
 refine z14 6 Tryz.call97 Tryz.func97 rfl (by decide) fun J=>?_
 simp only [go_sem,St.start,Tryz.ntmps97,Tryz.results97,Kitchen.cells]
 repeat (first | refine nx ?_ | (refine z10 fun K hK=>?_;simp only [go_sem];apply hK;clear hK K))
 simp only [go_sem]
end Go.Ab
namespace Go.Ab
open Go.RowKit Go.Proofs
set_option maxHeartbeats 16000000
set_option maxRecDepth 20000
attribute [local irreducible] WalkL Walk
abbrev PlanV:=Int × List Int
abbrev EntK:=List Int × PlanV × Nat
def planD (v:PlanV):DV:=.agg [.i v.1,.sl (intRows v.2)]
def memK (es:List EntK):List (MK × DV × Nat):=es.map fun e=>(.s e.1,planD e.2.1,e.2.2)
def lookK:List EntK→List Int→Nat→Option (Nat × PlanV × Nat)
 | [],_,_=>none
 | e::es,k,i=>if k=e.1 then some (i,e.2.1,e.2.2) else lookK es k (i + 1)
def putK:List EntK→List Int→PlanV→Nat→List EntK × Nat
 | [],k,w,c=>([(k,w,c)],c + 1)
 | e::es,k,w,c=>if k=e.1 then ((k,w,e.2.2)::es,c) else (e::(putK es k w c).1,(putK es k w c).2)
theorem z263:∀ (es:List EntK) (k:List Int) (i:Nat),findE (memK es) (.s k) i=(lookK es k i).map fun p=>(p.1,planD p.2.1,p.2.2)
 | [],_,_=>rfl
 | e::es,k,i=>by
  have ih:=z263 es k (i + 1)
  rw [memK,List.map_cons,findE,lookK]
  by_cases h:k=e.1
  ·rw [if_pos h,if_pos (by rw [h])];rfl
  ·rw [if_neg h,if_neg (by intro q;exact h (by cases q;rfl))];exact ih
theorem z656:∀ {es:List EntK} {k:List Int} {i:Nat} {j:Nat} {v:PlanV} {bn:Nat} (w:PlanV) (c:Nat),lookK es k i=some (j,v,bn)→i≤j∧putK es k w c=(es.set (j - i) (k,w,bn),c)
 | [],_,_,_,_,_,_,_,h=>by simp [lookK] at h
 | e::es,k,i,j,v,bn,w,c,h=>by
  rw [lookK] at h
  rw [putK]
  by_cases hk:k=e.1
  ·rw [if_pos hk] at h ⊢
   cases h
   exact ⟨Nat.le_refl _,by rw [Nat.sub_self];rfl⟩
  ·rw [if_neg hk] at h ⊢
   obtain ⟨h1,h2⟩:=z656 w c h
   refine ⟨by omega,?_⟩
   rw [h2,show j - i=(j - (i + 1)) + 1 by omega]
   rfl
theorem z657:∀ {es:List EntK} {k:List Int} {i:Nat} (w:PlanV) (c:Nat),lookK es k i=none→putK es k w c=(es++[(k,w,c)],c + 1)
 | [],_,_,_,_,_=>rfl
 | e::es,k,i,w,c,h=>by
  rw [lookK] at h
  rw [putK]
  by_cases hk:k=e.1
  ·rw [if_pos hk] at h;cases h
  ·rw [if_neg hk] at h ⊢
   rw [z657 w c h]
   rfl
theorem z1121 (es:List EntK) (j:Nat) (a:List Int) (w:PlanV) (bn:Nat):memK (es.set j (a,w,bn))=(memK es).set j (.s a,planD w,bn):=by simp [memK,List.map_set]
theorem z1033 (es:List EntK) (a:List Int) (w:PlanV) (bn:Nat):memK (es++[(a,w,bn)])=memK es++[(.s a,planD w,bn)]:=by simp [memK]
def pad10 (l:List Int):List Int:=l++List.replicate (10 - l.length) 0
theorem z140 {l:List Int} (h:l.length≤10):(pad10 l).length=10:=by simp [pad10];omega
def keyK (d:Nat) (l:List Int):List Int:=(d:Int)::pad10 l
def hiN (k:Kitchen) (d g:Nat):Int:=(dinAt k d g).count.hi
def takeD (k:Kitchen) (d:Nat) (m l:List Int):Option (List Int):=takeTo k (ordK k) (needL k m (hiN k d)) l k.allerg.length
def bestS (k:Kitchen) (d:Nat) (c:List Int × Int) (rec:List Int→List EntK × Nat→PlanV × (List EntK × Nat)) (a:PlanV × (List EntK × Nat)) (m:List Int):PlanV × (List EntK × Nat) :=
 match takeD k d m c.1 with
 | none=>a
 | some l=>(if wr (c.2 + (rec l a.2).1.1)<a.1.1 then (wr (c.2 + (rec l a.2).1.1),m) else a.1,(rec l a.2).2)
def bestM (k:Kitchen):Nat→List Int→List EntK × Nat→PlanV × (List EntK × Nat)
 | 0,_,M=>((0,[]),M)
 | r + 1,l,M=>match lookK M.1 (keyK (k.days.length - (r + 1)) l) 0 with
  | some (_,v,_)=>(v,M)
  | none =>
   let R:=(choicesL k (k.days.length - (r + 1))).foldl (bestS k (k.days.length - (r + 1)) (clrTo k ((k.days.length - (r + 1):Nat):Int) l 0 k.batches.length) (bestM k r)) ((1099511627776,[]),M)
   (R.1,putK R.2.1 (keyK (k.days.length - (r + 1)) l) R.1 R.2.2)
theorem zf98 (k:Kitchen) (d g:Nat) (hd:d<k.days.length) (hg:g<(k.days.getD d []).length) (X:List DV):Fn Tryz.prog 98 [.i (g:Int),.ptr [.ptr (k.cells++[.any]) 0] 0,.ptr (.i (d:Int)::X) 0] (.i (hiN k d g)):=by
 have h:=zf44 k d g hd hg
 rw [show (dinAt k d g).count.hi=hiN k d g from rfl] at h
 rw [Kitchen.cells] at h ⊢
 refine z14 13 Tryz.call98 Tryz.func98 rfl (by decide) fun J=>?_
 simp only [go_sem,St.start,Tryz.ntmps98,Tryz.results98]
 repeat (first | refine nx ?_ | (refine z10 fun K hK=>?_;simp only [go_sem];apply hK;clear hK K))
 refine z16 (by kernel_rfl) (by kernel_rfl) fun K hK=>?_
 simp only [go_sem]
 refine ⟨_,.fn (hf:=h) (hd:=rfl) (hr:=.inl rfl),?_⟩
 simp only [go_sem]
 refine ⟨by kernel_rfl,hK _ ?_⟩
 clear hK K
 repeat (first | refine nx ?_ | (refine z10 fun K hK=>?_;simp only [go_sem];apply hK;clear hK K))
 simp only [go_sem]
theorem zf64 (k:Kitchen) (d g:Nat) (hd:d<k.days.length) (hg:g<(k.days.getD d []).length):Fn Tryz.prog 64 [.i (g:Int),.ptr [.ptr (k.cells++[.any]) 0] 0,.ptr [.i (d:Int)] 0] (.i (hiN k d g)):=by
 have h:=zf44 k d g hd hg
 rw [show (dinAt k d g).count.hi=hiN k d g from rfl] at h
 rw [Kitchen.cells] at h ⊢
 refine z14 12 Tryz.call64 Tryz.func64 rfl (by decide) fun J=>?_
 simp only [go_sem,St.start,Tryz.ntmps64,Tryz.results64]
 repeat (first | refine nx ?_ | (refine z10 fun K hK=>?_;simp only [go_sem];apply hK;clear hK K))
 refine z16 (by kernel_rfl) (by kernel_rfl) fun K hK=>?_
 simp only [go_sem]
 refine ⟨_,.fn (hf:=h) (hd:=rfl) (hr:=.inl rfl),?_⟩
 simp only [go_sem]
 refine ⟨by kernel_rfl,hK _ ?_⟩
 clear hK K
 repeat (first | refine nx ?_ | (refine z10 fun K hK=>?_;simp only [go_sem];apply hK;clear hK K))
 simp only [go_sem]
end Go.Ab
/- Another name for a block;drawn regions of which what is told is what differs. -/
namespace Go.Ab
open Go.RowKit
def St.rename (a b:Nat) (st:St):St:=match (st.m[a]?:Option (Option Blk)),(st.m[b]?:Option (Option Blk)) with
 | some (some x),some none=>{ t:=st.t.map (AV.mapN (mv a b)),m:=(((st.m.map (Option.map (Blk.mapN (mv a b)))).set a none).set b (some (x.mapN (mv a b)))) }
 | _,_=>st
section
variable {P:Program} {base:Own} {out:Own} {st st':St} {μ:Pl} {tmps:Array Value} {w w':World}
theorem z730 (a L:Nat) (st:St):Weak st (st.rename a L):=by
 intro P base out μ tmps w h
 unfold St.rename
 split
 ·rename_i b hb hL
  have hab:a≠L:=fun e=>by subst e;rw [hb] at hL;cases hL
  have hno:∀ k,(μ k).isSome→k≠L:=fun k hk e=>by
   obtain ⟨b,hb⟩:=h.mem.dom k hk
   subst e;rw [hL] at hb;cases hb
  obtain ⟨μ',hμ'⟩:∃ μ':Pl,μ'=fun k=>if k=L then μ a else if k=a then none else μ k:=⟨_,rfl⟩
  have hs:∀ k L',μ' k=some L'→(k=L∧μ a=some L')∨(k≠L∧k≠a∧μ k=some L'):=by
   intro k L' hk
   rw [hμ'] at hk
   dsimp only at hk
   split at hk
   ·rename_i e;exact .inl ⟨e,hk⟩
   ·split at hk
    ·cases hk
    ·rename_i e1 e2;exact .inr ⟨e1,e2,hk⟩
  have hsub:∀ b,ownOf out μ' b→ownOf out μ b:=by
   rintro b (h | ⟨n,z,l,c,h⟩)
   ·exact .inl h
   ·rcases hs n _ h with ⟨_,h⟩ | ⟨_,_,h⟩
    ·exact .inr ⟨a,z,l,c,h⟩
    ·exact .inr ⟨n,z,l,c,h⟩
  have hg:Goes w (ownOf out μ) w (ownOf out μ'):=fun b o v h1 h2=>⟨fun hc=>h1 (hsub b hc),h2⟩
  have hmv:∀ n,(μ n).isSome→∀ k,mv a L n=some k→μ' k=μ n:=by
   intro n hn k hk
   have:=hno n hn
   unfold mv at hk
   rw [hμ']
   split at hk
   ·rename_i e;cases hk;subst e;simp
   ·rename_i e
    cases hk
    simp only
    rw [if_neg this,if_neg e]
  have hLl:L<st.m.length:=(List.getElem?_eq_some_iff.1 hL).1
  refine ⟨μ',⟨by rw [h.size];simp,fun i x v hx hv=>?_,⟨fun k b' hk=>?_,fun k hk=>?_,fun k1 k2 b' z l c z' l' c' h1 h2=>?_,fun k b' z l c hk=>?_⟩,h.hid.less hsub,h.out,h.le⟩,hsub⟩
  ·simp only [List.getElem?_map,Option.map_eq_some_iff] at hx
   obtain ⟨y,hx,rfl⟩:=hx
   exact (h.tmp i y v hx hv).mapN (.inl hg) (fun n _ hn k hk=>hmv n hn k hk)
  ·dsimp only at hk
   rw [List.getElem?_set] at hk
   split at hk
   ·rename_i e
    subst e
    split at hk
    ·have hk:=(Option.some.inj (Option.some.inj hk))
     subst hk
     exact BlkRel.mapN (n:=a) (.inl hg) (by rw [hμ'];simp) hmv (fun _ _ _ _ _=>rfl) (h.mem.blk a b hb)
    ·cases hk
   ·rename_i hkL
    rw [List.getElem?_set] at hk
    split at hk
    ·split at hk <;> cases hk
    ·rename_i hka
     simp only [List.getElem?_map,Option.map_eq_some_iff] at hk
     obtain ⟨ob,hob,b0,rfl,rfl⟩:=hk
     exact BlkRel.mapN (.inl hg) (by rw [hμ'];simp only;rw [if_neg (Ne.symm hkL),if_neg (Ne.symm hka)]) hmv (fun _ _ _ _ _=>rfl) (h.mem.blk k b0 hob)
  ·obtain ⟨L',hL'⟩:=Option.isSome_iff_exists.1 hk
   rcases hs k L' hL' with ⟨rfl,_⟩ | ⟨hkl,hka,hk'⟩
   ·exact ⟨b.mapN (mv a k),by rw [List.getElem?_set_self (by simp;exact hLl)]⟩
   ·obtain ⟨b',hb'⟩:=h.mem.dom k (by simp [hk'])
    refine ⟨b'.mapN (mv a L),?_⟩
    rw [List.getElem?_set_ne (Ne.symm hkl),List.getElem?_set_ne (Ne.symm hka)]
    simp [hb']
  ·rcases hs k1 _ h1 with ⟨rfl,e1⟩ | ⟨e1,e1a,e1b⟩
   ·rcases hs k2 _ h2 with ⟨rfl,_⟩ | ⟨_,e2a,e2b⟩
    ·rfl
    ·exact absurd (h.mem.inj a k2 b' _ _ _ _ _ _ e1 e2b).symm e2a
   ·rcases hs k2 _ h2 with ⟨rfl,e2⟩ | ⟨_,e2a,e2b⟩
    ·exact absurd (h.mem.inj k1 a b' _ _ _ _ _ _ e1b e2) e1a
    ·exact h.mem.inj k1 k2 b' _ _ _ _ _ _ e1b e2b
  ·rcases hs k _ hk with ⟨_,e⟩ | ⟨_,_,e⟩
   ·exact h.mem.base a b' z l c e
   ·exact h.mem.base k b' z l c e
 ·exact ⟨μ,h,fun _ hb=>hb⟩
end
theorem z270 {P:Program} {rd:Option Nat} {n:Nat} {J:Env} {c:Code} {cs:List Code} {k:Option Nat} {st:St} {Q:Exit→Option Nat→St→Prop} (a b:Nat) (h:WalkL P rd n J (c::cs) k (st.rename a b) Q):WalkL P rd n J (c::cs) k st Q :=
 z71 (z730 a b st) h
attribute [go_sem] St.rename
theorem z442 {P:Program} {rd:Option Nat} {n:Nat} {J:Env} {c:Code} {cs:List Code} {k:Option Nat} {st:St} {Q:Exit→Option Nat→St→Prop} (ds:List Nat) (ts:List (Nat × AV)) (ms:List (Nat × Option Blk)) (hw:Weak st (st.head ds ts ms)) (h:WalkL P rd n J (c::cs) k (st.head ds ts ms) Q) :
  WalkL P rd n J (c::cs) k st Q:=z71 hw h
theorem z97 {P:Program} {rd:Option Nat} {n:Nat} {J:Env} {cs:List Code} {k:Option Nat} {st:St} {Q:Exit→Option Nat→St→Prop} {id:Nat} {ops:Array Oper} (ts:(Nat→Bool)→List (Nat × AV)) (ms:(Nat→Bool)→List (Nat × Option Blk)) (p:Nat) (hfol:P.follows .mixedOrders=true) (hback:backB ops=true)
  (hp:tailB ops p=true) (hps:p≤ops.size) (h0:st.head [] (ts fun i=>decide (i<p)) (ms fun i=>decide (i<p))=st) (hs:stepsC P (ops.toList.take p) (fun m=>st.head [] (ts m) (ms m)) (ops.toList.take p) 0)
  {s1:St} (hw:Weak (st.head [] (ts fun _=>false) (ms fun _=>false)) s1) (h:∀ K:Option Nat→St→Prop,(∀ k s,WalkL P rd n J cs k s Q→K k s)→runE P 0 [] [] ops (ops.toList.drop p) k s1 K):WalkL P rd n J (.region id ops true::cs) k st Q :=
 z129 (l:=0) (items:=[]) (fun _ _ _ _ _ _ _ _ h=>by simp at h) [] p hfol hback hp hps (fun m=>st.head [] (ts m) (ms m)) h0 hs hw h
inductive SeqW (P:Program) (ops:Array Oper):List Oper→St→St→Prop where
 | nil (s:St):SeqW P ops [] s s
 | cons {o:Oper} {os:List Oper} {s s1 s':St} (hd:dstOk o=true) (h:StepG P ops o s s1) (ht:SeqW P ops os s1 s'):SeqW P ops (o::os) s s'
 | weak {os:List Oper} {s s1 s':St} (hw:Weak s s1) (ht:SeqW P ops os s1 s'):SeqW P ops os s s'
theorem SeqW.of {P:Program} {ops:Array Oper} {os:List Oper} {s s':St} (h:Seq P ops os s s'):SeqW P ops os s s':=by
 induction h with
 | nil s=>exact .nil s
 | cons hd h _ ih=>exact .cons hd h ih
theorem SeqW.append {P:Program} {ops:Array Oper} {os os2:List Oper} {s s1 s2:St} (h:SeqW P ops os s s1) (h2:SeqW P ops os2 s1 s2):SeqW P ops (os++os2) s s2:=by
 induction h with
 | nil s=>exact h2
 | cons hd h _ ih=>exact .cons hd h (ih h2)
 | weak hw _ ih=>exact .weak hw (ih h2)
section
variable {P:Program} {base:Own} {out:Own} {st st':St} {ops:Array Oper} {rd:Option Nat} {n:Nat} {Q:Exit→Act→World→Prop}
theorem z1160 {os:List Oper} {st st':St} (hs:SeqW P ops os st st'):∀ (k:Nat) (μ:Pl) (tmps:Array Value) (w:World),(∀ i o,os[i]?=some o→ops[k + i]?=some o)→StRel P base out st μ tmps w→∀ {ds:List Deferred},
  (∀ tmps' μ' w',StRel P base out st' μ' tmps' w'→KeepO base (ownOf out μ) w (ownOf out μ') w'→Same (opDsts os) tmps tmps'→Q .normal { tmps:=tmps',defers:=ds } w') →
  wpOpsIn (fence rd) n P ops Q (List.range' k os.length) { tmps:=tmps,defers:=ds } w:=by
 induction hs with
 | nil s=>exact fun k μ tmps w _ h ds hK=>hK _ μ w h (KeepO.refl _ _ _) (Same.refl _ _)
 | @cons o os s s1 s' hd h1 ht ih =>
  intro k μ tmps w hos h ds hK
  rw [List.length_cons,List.range'_succ,wpOpsIn_cons]
  refine z138 h (by simpa using hos 0 o (by simp)) hd h1 (fun tmps' μ' w' h2 hB hS=>?_)
  exact ih (k + 1) μ' tmps' w' (fun i o' hi=>by have:=hos (i + 1) o' (by simpa using hi);rwa [show k + 1 + i=k + (i + 1) by omega]) h2
   (fun tmps2 μ2 w2 h3 hB2 hS2=>hK tmps2 μ2 w2 h3 (hB.trans hB2) (hS.cons hS2))
 | weak hw ht ih =>
  intro k μ tmps w hos h ds hK
  obtain ⟨μ3,h3,hsub⟩:=hw P base out μ tmps w h
  exact ih k μ3 tmps w hos h3 fun tmps2 μ2 w2 h4 hB2 hS2=>hK tmps2 μ2 w2 h4 ((KeepO.less hsub).trans hB2) hS2
end
theorem z550 {P:Program} {rd:Option Nat} {n:Nat} {J:Env} {k:Option Nat} {st s3:St} {Q:Exit→Option Nat→St→Prop} {id:Nat} {ops:Array Oper} (hs:SeqW P ops ops.toList st s3) (hq:Q .normal k s3):Walk P rd n J (.region id ops false) k st Q:=fun B base out μ tmps w ds _ hst hJ hM=>by
 refine wpIn_region ?_
 have:=z1160 (n:=n) (rd:=rd) (Q:=Ends P J B (dsts (.region id ops false)) (ownOf out μ) tmps w Q) hs 0 μ tmps w (fun i o hi=>by simpa using hi) hst (ds:=ds) (fun tmps' μ' w' h3 hk hS=>.step hJ h3 hk hS hM hq)
 rw [List.range_eq_range']
 simpa using this
theorem z217 {P:Program} {rd:Option Nat} {n:Nat} {J:Env} {cs:List Code} {k:Option Nat} {st:St} {Q:Exit→Option Nat→St→Prop} {id:Nat} {ops:Array Oper} (p:Nat)
  (h:∀ K:St→Prop,(∀ s,WalkL P rd n J cs k s Q→K s)→runK P ops (ops.toList.take p) st fun s=>∃ s1,Weak s s1∧runK P ops (ops.toList.drop p) s1 K):WalkL P rd n J (.region id ops false::cs) k st Q:=by
 obtain ⟨s1,h1,s2,hw,h2⟩:=z224 _ _ _ (h _ fun _ h=>h)
 obtain ⟨s3,h3,h4⟩:=z224 _ _ _ h2
 have hs:SeqW P ops ops.toList st s3:=by
  have:=(SeqW.of h1).append (.weak hw (.of h3))
  rwa [List.take_append_drop] at this
 exact z550 hs h4
end Go.Ab
namespace Go.Ab
open Go.RowKit Go.Proofs
set_option maxHeartbeats 16000000
set_option maxRecDepth 20000
attribute [local irreducible] WalkL Walk
def plannerRow (k:Kitchen):List AV:=[.d (.sl (intRows k.allerg)),.d (.sl (batRows k.batches)),.d (.sl (dishRows k.dishes)),.d (.sl (dayRows k.days)),.mp 1]
theorem ten {L:List Int} (h:L.length=10):∃ a b c d e f g i j l,L=[a,b,c,d,e,f,g,i,j,l]:=by
 match L,h with
 | [a,b,c,d,e,f,g,i,j,l],_=>exact ⟨a,b,c,d,e,f,g,i,j,l,rfl⟩
def planR (v:PlanV):AV:=.agg [.d (.i v.1),.d (.sl (intRows v.2))]
def HasF40 (k:Kitchen) (r:Nat):Prop:=∀ (l:List Int) (M:List EntK × Nat),l.length=k.batches.length→AmtOk l →
 FnG Tryz.prog 62 [.box (plannerRow k),.mp (some 11) (memK M.1) M.2] [0] [.box 0 0,.d (.agg (.i ((k.days.length - r:Nat):Int)::(pad10 l).map .i))] (planR (bestM k r l M).1)
  [.box (plannerRow k),.mp (some 11) (memK (bestM k r l M).2.1) (bestM k r l M).2.2]
def Pick:List (List Int)→List Int→Prop
 | [],[]=>True
 | S::gs,d::t=>d ∈ S∧Pick gs t
 | _,_=>False
theorem z885:∀ {SS:List (List Int)} {pre m:List Int},m ∈ addL SS pre↔∃ t,m=pre++t∧Pick SS t
 | [],pre,m=>by
  simp only [addL,List.mem_singleton]
  constructor
  ·rintro rfl;exact ⟨[],by simp,trivial⟩
  ·rintro ⟨t,rfl,ht⟩
   cases t with
   | nil=>simp
   | cons=>exact ht.elim
 | S::gs,pre,m=>by
  simp only [addL,List.mem_flatMap,z885 (SS:=gs)]
  constructor
  ·rintro ⟨d,hd,t,rfl,ht⟩;exact ⟨d::t,by simp,hd,ht⟩
  ·rintro ⟨t,rfl,ht⟩
   cases t with
   | nil=>exact ht.elim
   | cons d t=>exact ⟨d,ht.1,t,by simp,ht.2⟩
theorem Pick.len:∀ {SS:List (List Int)} {t:List Int},Pick SS t→t.length=SS.length
 | [],[],_=>rfl
 | _::gs,_::t,h=>by rw [List.length_cons,List.length_cons,Pick.len h.2]
 | [],_::_,h=>h.elim
 | _::_,[],h=>h.elim
theorem Pick.at:∀ {SS:List (List Int)} {t:List Int},Pick SS t→∀ {g:Nat} {x:Int},t[g]?=some x→∃ S,SS[g]?=some S∧x ∈ S
 | [],[],_,g,x,h=>by simp at h
 | S::gs,d::t,hp,g,x,h=>by
  cases g with
  | zero=>simp at h;subst h;exact ⟨S,rfl,hp.1⟩
  | succ g=>simpa using Pick.at hp.2 (by simpa using h)
 | [],_::_,h,_,_,_=>h.elim
 | _::_,[],h,_,_,_=>h.elim
theorem z523 {k:Kitchen} (hg:KitGood k) {d:Nat} (hd:d<k.days.length) {m:List Int} (hm:m ∈ choicesL k d):m.length=(k.days.getD d []).length∧DayOk k m (hiN k d):=by
 obtain ⟨t,e,hp⟩:=z885.1 hm
 rw [List.nil_append] at e
 subst e
 have hl:m.length=(k.days.getD d []).length:=by rw [hp.len];simp [suitDay]
 have h3:(k.days.getD d []).length≤3:=by
  rw [List.getD,List.getElem?_eq_getElem hd]
  exact (hg.groups _ (List.getElem_mem hd)).1
 refine ⟨hl,⟨by omega,fun g hgl=>?_,fun g hgl=>(z1130 hg).rng d g hd (by omega)⟩⟩
 obtain ⟨x,hx⟩:∃ x,m[g]?=some x:=⟨_,List.getElem?_eq_getElem hgl⟩
 obtain ⟨S,hS,hxS⟩:=hp.at hx
 rw [suitDay,List.getElem?_map,Option.map_eq_some_iff] at hS
 obtain ⟨y,_,rfl⟩:=hS
 obtain ⟨n,rfl,hn,_⟩:=z1091 hxS
 exact ⟨n,hx,hn⟩
theorem copy10 {c:List Int} (h:c.length≤10) (x:AV):(List.map (fun r=>AV.d (r.getD 0 DV.any)) (List.take (min c.length 10) (intRows c))++List.drop (1 + min c.length 10)
  [x,AV.d (.i 0),.d (.i 0),.d (.i 0),.d (.i 0),.d (.i 0),.d (.i 0),.d (.i 0),.d (.i 0),.d (.i 0),.d (.i 0)])=(pad10 c).map fun n=>AV.d (.i n):=by
 rw [Nat.min_eq_left h,Nat.add_comm,List.drop_succ_cons,List.take_of_length_le (by simp [intRows]),
  show [AV.d (.i 0),.d (.i 0),.d (.i 0),.d (.i 0),.d (.i 0),.d (.i 0),.d (.i 0),.d (.i 0),.d (.i 0),.d (.i 0)]=List.replicate 10 (AV.d (.i 0)) from rfl,List.drop_replicate,pad10,List.map_append,List.map_replicate,intRows,List.map_map]
 rfl
theorem zf40z (k:Kitchen) (hg:KitGood k):HasF40 k 0:=fun l M hl ha=>by
 obtain ⟨es,c⟩:=M
 have hb:=hg.batches
 obtain ⟨x0,x1,x2,x3,x4,x5,x6,x7,x8,x9,hx⟩:=ten (z140 (l:=l) (by omega))
 rw [hx,bestM,Nat.sub_zero]
 dsimp only [planR,List.map_cons,List.map_nil]
 have hq:((k.days.length:Int) == (k.days.length:Int))=true:=by simp
 refine z65 124 Tryz.call62 Tryz.func62 rfl (by decide) [] [(0,0)] (by simp only [List.length_cons,List.length_nil];decide) (by kernel_rfl) fun J=>?_
 simp only [go_sem,St.startG,Tryz.ntmps62,Tryz.results62,List.map_cons,List.map_nil,List.range_succ,  plannerRow]
 repeat (first | refine nx ?_ | (refine z10 fun K hK=>?_;simp only [go_sem];apply hK;clear hK K))
 refine z16 (by kernel_rfl) (by kernel_rfl) fun K hK=>?_
 simp only [go_sem,hq]
 refine ⟨by kernel_rfl,hK _ ?_⟩
 clear hK K
 refine z12 rfl ?_
 repeat refine nx ?_
 refine z10 fun K hK=>?_
 simp only [go_sem]
 apply hK
 clear hK K
 refine z442 [] [] [(4,some (.box [.d (.i 0),.d (.sl (intRows []))]))] ?_ ?_
 ·simp only [go_sem]
  refine z53 [] ?_ ?_ rfl rfl <;> simp [lessT,lessM,lessB,AV.less,intRows]
 simp only [go_sem]
 repeat (first | refine nx ?_ | (refine z10 fun K hK=>?_;simp only [go_sem];apply hK;clear hK K))
 simp only [go_sem,retG,plannerRow]
theorem zf62s (k:Kitchen) (hg:KitGood k) (r:Nat) (hr:r + 1≤k.days.length) (ih:HasF40 k r):HasF40 k (r + 1):=fun l M hl ha=>by
 obtain ⟨es,c⟩:=M
 have hb:=hg.batches
 obtain ⟨x0,x1,x2,x3,x4,x5,x6,x7,x8,x9,hx⟩:=ten (z140 (l:=l) (by omega))
 obtain ⟨d,hd⟩:∃ d,d=k.days.length - (r + 1):=⟨_,rfl⟩
 have hdl:d<k.days.length:=by omega
 rw [hx,bestM,← hd]
 have hq:((d:Int) == (k.days.length:Int))=false:=by simp;omega
 have e1:=z263 es (keyK d l) 0
 have hk:keyK d l=[(d:Int),x0,x1,x2,x3,x4,x5,x6,x7,x8,x9]:=by rw [keyK,hx]
 dsimp only [List.map_cons,List.map_nil] at e1 ⊢
 have hsl:([DV.i x0,.i x1,.i x2,.i x3,.i x4,.i x5,.i x6,.i x7,.i x8,.i x9].take k.batches.length).map (fun d=>[d])=intRows l:=by
  have:(pad10 l).take k.batches.length=l:=by rw [pad10,← hl,List.take_left'];rfl
  rw [hx] at this
  have e:[DV.i x0,.i x1,.i x2,.i x3,.i x4,.i x5,.i x6,.i x7,.i x8,.i x9]=[x0,x1,x2,x3,x4,x5,x6,x7,x8,x9].map .i:=rfl
  rw [e,← List.map_take,this,intRows,List.map_map]
  rfl
 cases hlk:lookK es (keyK d l) 0 with
 | some p =>
  obtain ⟨j,v,bn⟩:=p
  rw [hlk] at e1
  rw [hk] at e1
  dsimp only [Option.map_some,planD,planR] at e1 ⊢
  refine z65 124 Tryz.call62 Tryz.func62 rfl (by decide) [] [(0,0)] (by simp only [List.length_cons,List.length_nil];decide) (by kernel_rfl) fun J=>?_
  simp only [go_sem,St.startG,Tryz.ntmps62,Tryz.results62,List.map_cons,List.map_nil,List.range_succ,  plannerRow]
  repeat (first | refine nx ?_ | (refine z10 fun K hK=>?_;simp only [go_sem];apply hK;clear hK K))
  refine z16 (by kernel_rfl) (by kernel_rfl) fun K hK=>?_
  simp only [go_sem,hq]
  refine ⟨by kernel_rfl,hK _ ?_⟩
  clear hK K
  refine z11 rfl ?_
  repeat (first | refine nx ?_ | (refine z10 fun K hK=>?_;simp only [go_sem];apply hK;clear hK K))
  refine z16 (by kernel_rfl) (by kernel_rfl) fun K hK=>?_
  simp only [go_sem,e1]
  refine ⟨by kernel_rfl,hK _ ?_⟩
  clear hK K
  repeat (first | refine nx ?_ | (refine z10 fun K hK=>?_;simp only [go_sem];apply hK;clear hK K))
  refine z12 rfl ?_
  repeat (first | refine nx ?_ | (refine z10 fun K hK=>?_;simp only [go_sem];apply hK;clear hK K))
  simp only [go_sem,retG,plannerRow]
 | none =>
  rw [hlk] at e1
  rw [hk] at e1
  dsimp only [Option.map_none,planR] at e1 ⊢
  refine z65 124 Tryz.call62 Tryz.func62 rfl (by decide) [] [(0,0)] (by simp only [List.length_cons,List.length_nil];decide) (by kernel_rfl) fun J=>?_
  simp only [go_sem,St.startG,Tryz.ntmps62,Tryz.results62,List.map_cons,List.map_nil,List.range_succ,  plannerRow]
  repeat (first | refine nx ?_ | (refine z10 fun K hK=>?_;simp only [go_sem];apply hK;clear hK K))
  refine z16 (by kernel_rfl) (by kernel_rfl) fun K hK=>?_
  simp only [go_sem,hq]
  refine ⟨by kernel_rfl,hK _ ?_⟩
  clear hK K
  refine z11 rfl ?_
  repeat (first | refine nx ?_ | (refine z10 fun K hK=>?_;simp only [go_sem];apply hK;clear hK K))
  refine z16 (by kernel_rfl) (by kernel_rfl) fun K hK=>?_
  simp only [go_sem,e1]
  refine ⟨by kernel_rfl,hK _ ?_⟩
  clear hK K
  repeat (first | refine nx ?_ | (refine z10 fun K hK=>?_;simp only [go_sem];apply hK;clear hK K))
  refine z11 rfl ?_
  refine z20 [3] ?_
  simp only [go_sem]
  have h41:FnG Tryz.prog 42 [] [] (List.map AV.d [.agg k.cells]) _ _:=z1199 k hb
  have h77:=z1197 l (by omega)
  have h42:=z1079 k hb (d:Int) l (ordK k) 0 hl ha (by decide)
  obtain ⟨c1,c2,c3⟩:=z55 (k:=k) (day:=(d:Int)) (w:=0) ha k.batches.length
  have c4:=z45 k (d:Int) l 0 k.batches.length
  obtain ⟨⟨C,w0⟩,hC⟩:∃ a,a=clrTo k (d:Int) l 0 k.batches.length:=⟨_,rfl⟩
  rw [← hC] at h42 c1 c2 c3 c4 ⊢
  dsimp only at c1 c2 c3 c4
  have h77c:=z1197 C (by omega)
  have h78:=zf97 k d
  have h97:=zf131 k hg d hdl
  simp only [lardRow] at h41 h42
  rw [Kitchen.cells] at h41 h78
  repeat (first | refine nx ?_ | (refine z10 fun K hK=>?_;simp only [go_sem];apply hK;clear hK K))
  refine z10 fun K hK=>?_
  simp only [go_sem]
  refine ⟨_,.made (news:=[41,17,18]) (hf:=h41) (hd:=rfl) (hn:=by decide) (hl:=rfl) (hnew:=rfl) (hx:=rfl),?_⟩
  simp only [go_sem,List.map_cons,List.map_nil]
  apply hK
  clear hK K
  repeat refine nx ?_
  have hbi:(k.batches.length:Int)≤10:=by omega
  refine z16 (by kernel_rfl) (by kernel_rfl) fun K hK=>?_
  simp only [go_sem,hsl,hbi,Nat.sub_zero]
  refine ⟨_,.fnS (hdst:=rfl) (hf:=h77) (hd:=rfl) (hr:=.inl (z33 _)) (hfr:=rfl),?_⟩
  simp only [go_sem]
  refine ⟨by kernel_rfl,hK _ ?_⟩
  clear hK K
  repeat refine nx ?_
  refine z10 fun K hK=>?_
  simp only [go_sem]
  refine ⟨_,.own (ns:=[41,52,18]) (news:=[]) (bads:=[52,18]) (rd:=[]) (hf:=h42) (hnd:=by decide) (hl0:=rfl) (hl1:=rfl) (hm:=by repeat (first | exact trivial | refine And.intro ?_ ?_ | rfl)) (hnew:=rfl) (hla:=rfl) (ha:=z28 (by repeat (first | exact trivial | refine And.intro ?_ ?_ | exact z29 rfl | exact z22 rfl rfl))) (hrd:=rfl) (hsh:=z23 _) (hb:=rfl) (hfl:=.inl rfl),?_⟩
  simp only [go_sem,List.map_cons,List.map_nil]
  apply hK
  clear hK K
  repeat refine nx ?_
  refine z16 (by kernel_rfl) (by kernel_rfl) fun K hK=>?_
  simp only [go_sem]
  refine ⟨by kernel_rfl,hK _ ?_⟩
  clear hK K
  repeat refine nx ?_
  refine z16 (by kernel_rfl) (by kernel_rfl) fun K hK=>?_
  simp only [go_sem]
  refine ⟨_,.fn (hf:=h78) (hd:=rfl) (hr:=.inr rfl),?_⟩
  simp only [go_sem]
  refine ⟨by kernel_rfl,hK _ ?_⟩
  clear hK K
  repeat (first | refine nx ?_ | (refine z10 fun K hK=>?_;simp only [go_sem];apply hK;clear hK K))
  refine z77 [14,15,16,17,19,20,21,22,23,24,25,26,27,28,29,30,31,32,33,34,35,36,37,38,39,40,42,43,44,45,46,47,48,49,50,51,53,54,55,56,57,58,59,60,61,62,63,64,65,66,67,68,69,70,71,72] ?_ ?_
  ·simp only [go_sem]
   refine weA ?_ ?_ <;> simp
  simp only [go_sem]
  obtain ⟨stp,hstp⟩:∃ stp,stp=bestS k d (C,w0) (bestM k r):=⟨_,rfl⟩
  rw [← hstp]
  obtain ⟨N,hN⟩:∃ N,N=choicesL k d:=⟨_,rfl⟩
  rw [← hN] at h97 ⊢
  rw [Kitchen.cells] at h97
  refine z553 [] (m0:=[]) rfl (by decide) rfl h97 (by intro row hr;obtain ⟨m,_,rfl⟩:=List.mem_map.1 hr;rfl) (fun _=>[]) (fun (a:PlanV × (List EntK × Nat))=>[(7,some (.box [.d (.i a.1.1),.d (.sl (intRows a.1.2))])),(41,some (.box [.d (.sl (intRows k.allerg)),.d (.sl (batRows k.batches)),.d (.sl (dishRows k.dishes)),.d (.sl (dayRows k.days)),.undef,.own 18,.d (.i w0)])),(125,some (.mp (some 11) (memK a.2.1) a.2.2))])
   (fun i a=>a=(N.take i).foldl stp ((1099511627776,[]),(es,c))) (fun _ _=>False) ((1099511627776,[]),(es,c)) ?_ rfl ?_ ?_ (fun _ _ h=>h.elim)
  ·simp only [go_sem]
   refine z53 [] ?_ ?_ rfl rfl <;> simp [lessT,lessM,lessB,AV.less,intRows]
  ·rintro X W i ⟨⟨bw,bm⟩,es1,c1'⟩ row hi ha l2 m2
   dsimp only
   rw [menuRows,List.getElem?_map,Option.map_eq_some_iff] at hi
   obtain ⟨m,hm,rfl⟩:=hi
   simp only [go_sem]
   repeat (first | refine nx ?_ | (refine z10 fun K hK=>?_;simp only [go_sem];apply hK;clear hK K))
   refine z16 (by kernel_rfl) (by kernel_rfl) fun K hK=>?_
   simp only [go_sem]
   refine ⟨_,.fnS (hdst:=rfl) (hf:=h77c) (hd:=rfl) (hr:=.inl (z33 _)) (hfr:=rfl),?_⟩
   simp only [go_sem]
   refine ⟨by kernel_rfl,hK _ ?_⟩
   clear hK K
   repeat refine nx ?_
   obtain ⟨hml,hday⟩:=z523 hg hdl (by rw [← hN];exact List.mem_of_getElem? hm)
   have h44:=(z1078 k hg m (hiN k d) 98 [.ptr [.ptr (k.cells++[.any]) 0] 0,.ptr (.i (d:Int)::[.i x0,.i x1,.i x2,.i x3,.i x4,.i x5,.i x6,.i x7,.i x8,.i x9]) 0] hday (fun j hj=>zf98 k d j hdl (by omega) _))
   have h43:=z1145 k (needL k m (hiN k d)) C (ordK k) w0 (by omega) hb c1 (z58 hg hday) (by rw [z47];exact hg.goods.2) (fun x hx=>z49 hx) (by rw [z102];exact hb)
   rw [z47] at h43
   rw [Kitchen.cells] at h44
   dsimp only [List.cons_append,List.nil_append] at h44
   have hnx:(N.take (i + 1)).foldl stp ((1099511627776,[]),(es,c))=stp ((bw,bm),(es1,c1')) m:=by rw [z32 _ _ _ _ _ hm,← ha]
   obtain ⟨NN,hNN⟩:∃ NN,NN=needL k m (hiN k d):=⟨_,rfl⟩
   rw [← hNN] at h44 h43
   have hsm:stp ((bw,bm),(es1,c1')) m=match takeTo k (ordK k) NN C k.allerg.length with
    | none=>((bw,bm),(es1,c1'))
    | some l=>(if wr (w0 + (bestM k r l (es1,c1')).1.1)<bw then (wr (w0 + (bestM k r l (es1,c1')).1.1),m) else (bw,bm),(bestM k r l (es1,c1')).2):=by rw [hstp,hNN];rfl
   rw [hsm] at hnx
   cases htk:takeTo k (ordK k) NN C k.allerg.length with
   | none =>
    rw [htk] at h43 hnx
    simp only [takeBlks,lardRow,Option.isSome_none] at h43
    refine z97 (fun b=>[(80,bif b 0 then .undef else .box 41 0),(81,bif b 1 then .undef else .box 124 0),(82,bif b 2 then .undef else .box 124 0),(83,bif b 3 then .undef else .box 124 0),
     (84,bif b 4 then .undef else .agg [.d (.sl (intRows k.allerg)),.d (.sl (batRows k.batches)),.d (.sl (dishRows k.dishes)),.d (.sl (dayRows k.days))]),(85,bif b 5 then .undef else .d (.sl (intRows m))),
     (86,bif b 6 then .undef else .fn 98 [.box 2 0,.d (.ptr [.i (d:Int),.i x0,.i x1,.i x2,.i x3,.i x4,.i x5,.i x6,.i x7,.i x8,.i x9] 0)]),(87,bif b 7 then .undef else .own 87)])
     (fun b=>[(87,bif b 7 then none else some (.arr 3 1 (intRows NN)))]) 8 (by kernel_rfl) (by kernel_rfl) (by kernel_rfl) (by decide) ?_ ?_ (z96 [87] _) ?_
    ·simp only [go_sem]
    ·refine ⟨?_,?_,?_,?_,?_,?_,?_,?_,trivial⟩
     all_goals
      intro b hbm hdm _
      simp only [depsM,Region.binds,true_and,and_true,Nat.zero_add,Nat.reduceAdd,reduceCtorEq,forall_const] at hdm
      refine ⟨rfl,rfl,?_⟩
      simp only [go_sem,hbm,hdm]
     ·refine ⟨_,.lentS (hdst:=rfl) (hf:=h44) (hd:=rfl) (hr:=z33 _) (hfr:=rfl),?_⟩
      simp only [go_sem,hbm,hdm]
    ·intro K hK
     simp only [go_sem]
     refine ⟨_,.own (ns:=[41,77,18]) (news:=[]) (bads:=[77,18]) (rd:=[]) (hf:=h43) (hnd:=by decide) (hl0:=rfl) (hl1:=rfl) (hm:=by repeat (first | exact trivial | refine And.intro ?_ ?_ | rfl)) (hnew:=rfl) (hla:=rfl) (ha:=z28 (by repeat (first | exact trivial | refine And.intro ?_ ?_ | exact z29 rfl | exact z22 rfl rfl))) (hrd:=rfl) (hsh:=z23 _) (hb:=rfl) (hfl:=.inl rfl),?_⟩
     simp only [go_sem,List.map_cons,List.map_nil]
     refine hK _ _ ?_
     clear hK K
     repeat refine nx ?_
     refine z12 rfl ?_
     repeat (first | refine nx ?_ | (refine z10 fun K hK=>?_;simp only [go_sem];apply hK;clear hK K))
     refine ⟨rfl,_,?_,hnx.symm⟩
     simp only [go_sem]
     refine weA ?_ ?_ <;> simp
   | some c' =>
    rw [htk] at h43 hnx
    simp only [takeBlks,lardRow,Option.isSome_some] at h43
    refine z97 (fun b=>[(80,bif b 0 then .undef else .box 41 0),(81,bif b 1 then .undef else .box 124 0),(82,bif b 2 then .undef else .box 124 0),(83,bif b 3 then .undef else .box 124 0),
     (84,bif b 4 then .undef else .agg [.d (.sl (intRows k.allerg)),.d (.sl (batRows k.batches)),.d (.sl (dishRows k.dishes)),.d (.sl (dayRows k.days))]),(85,bif b 5 then .undef else .d (.sl (intRows m))),
     (86,bif b 6 then .undef else .fn 98 [.box 2 0,.d (.ptr [.i (d:Int),.i x0,.i x1,.i x2,.i x3,.i x4,.i x5,.i x6,.i x7,.i x8,.i x9] 0)]),(87,bif b 7 then .undef else .own 87)])
     (fun b=>[(87,bif b 7 then none else some (.arr 3 1 (intRows NN)))]) 8 (by kernel_rfl) (by kernel_rfl) (by kernel_rfl) (by decide) ?_ ?_ (z96 [87] _) ?_
    ·simp only [go_sem]
    ·refine ⟨?_,?_,?_,?_,?_,?_,?_,?_,trivial⟩
     all_goals
      intro b hbm hdm _
      simp only [depsM,Region.binds,true_and,and_true,Nat.zero_add,Nat.reduceAdd,reduceCtorEq,forall_const] at hdm
      refine ⟨rfl,rfl,?_⟩
      simp only [go_sem,hbm,hdm]
     ·refine ⟨_,.lentS (hdst:=rfl) (hf:=h44) (hd:=rfl) (hr:=z33 _) (hfr:=rfl),?_⟩
      simp only [go_sem,hbm,hdm]
    ·intro K hK
     simp only [go_sem]
     refine ⟨_,.own (ns:=[41,77,18]) (news:=[6]) (bads:=[77,18]) (rd:=[]) (hf:=h43) (hnd:=by decide) (hl0:=rfl) (hl1:=rfl) (hm:=by repeat (first | exact trivial | refine And.intro ?_ ?_ | rfl)) (hnew:=rfl) (hla:=rfl) (ha:=z28 (by repeat (first | exact trivial | refine And.intro ?_ ?_ | exact z29 rfl | exact z22 rfl rfl))) (hrd:=rfl) (hsh:=z23 _) (hb:=rfl) (hfl:=.inl rfl),?_⟩
     simp only [go_sem,List.map_cons,List.map_nil]
     refine hK _ _ ?_
     clear hK K
     repeat refine nx ?_
     refine z11 rfl ?_
     obtain ⟨t1,t2⟩:=z116 (k:=k) (o:=ordK k) (needs:=NN) c1 (fun x hx=>by rw [hNN] at hx;exact (z58 hg hday x hx).1) k.allerg.length c' htk
     have hcl:c'.length=k.batches.length:=by omega
     have ihc:=ih c' (es1,c1') hcl t1
     have hdr:k.days.length - r=d + 1:=by omega
     rw [hdr] at ihc
     obtain ⟨y0,y1,y2,y3,y4,y5,y6,y7,y8,y9,hy⟩:=ten (z140 (l:=c') (by omega))
     rw [hy] at ihc
     dsimp only at hnx
     obtain ⟨⟨pw,pm⟩,es2,c2',hbm⟩:∃ p es2 c2',bestM k r c' (es1,c1')=(p,es2,c2'):=⟨_,_,_,rfl⟩
     rw [hbm] at ihc hnx
     dsimp only [planR,List.map_cons,List.map_nil] at ihc hnx
     rw [plannerRow] at ihc
     have hw1:IntKind.i64.wrap ((d:Int) + 1)=((d + 1:Nat):Int):=by have:=hg.days;rw [z17 (by omega)];simp
     have hi1:headIs 1 (intRows c')=true:=by cases c' <;> rfl
     repeat (first | refine nx ?_ | (refine z10 fun K hK=>?_;simp only [go_sem,hw1];apply hK;clear hK K))
     have hcp:=copy10 (c:=c') (by omega) (.d (.i ((d + 1:Nat):Int)))
     rw [hy] at hcp
     simp only [List.map_cons,List.map_nil] at hcp
     refine z16 (by kernel_rfl) (by kernel_rfl) fun K hK=>?_
     simp only [go_sem,hi1,z36,hcp]
     refine ⟨by kernel_rfl,hK _ ?_⟩
     clear hK K
     repeat refine nx ?_
     refine z10 fun K hK=>?_
     simp only [go_sem]
     refine ⟨_,.own (ns:=[124,125]) (news:=[]) (bads:=[125]) (rd:=[]) (hf:=ihc) (hnd:=by decide) (hl0:=rfl) (hl1:=rfl) (hm:=by repeat (first | exact trivial | refine And.intro ?_ ?_ | rfl)) (hnew:=rfl) (hla:=rfl) (ha:=z28 (by repeat (first | exact trivial | refine And.intro ?_ ?_ | exact z29 rfl | exact z22 rfl rfl))) (hrd:=rfl) (hsh:=z23 _) (hb:=rfl) (hfl:=.inl rfl),?_⟩
     simp only [go_sem,List.map_cons,List.map_nil]
     apply hK
     clear hK K
     by_cases hlt:wr (w0 + pw)<bw
     ·have hd2:decide (wr (w0 + pw)<bw)=true:=decide_eq_true hlt
      rw [if_pos hlt] at hnx
      rw [wr] at hd2 hnx
      repeat (first | refine z12 rfl ?_ | refine z11 rfl ?_ | refine nx ?_ | (refine z10 fun K hK=>?_;simp only [go_sem,hd2];apply hK;clear hK K))
      refine ⟨rfl,_,?_,hnx.symm⟩
      simp only [go_sem]
      refine weA ?_ ?_ <;> simp
     ·have hd2:decide (wr (w0 + pw)<bw)=false:=decide_eq_false hlt
      rw [if_neg hlt] at hnx
      rw [wr] at hd2
      repeat (first | refine z12 rfl ?_ | refine z11 rfl ?_ | refine nx ?_ | (refine z10 fun K hK=>?_;simp only [go_sem,hd2];apply hK;clear hK K))
      refine ⟨rfl,_,?_,hnx.symm⟩
      simp only [go_sem]
      refine weA ?_ ?_ <;> simp
  ·rintro ⟨⟨bw,bm⟩,es1,c1'⟩ ha
   rw [z69,List.take_length] at ha
   rw [← ha]
   dsimp only
   simp only [go_sem]
   repeat refine nx ?_
   have e5:=z263 es1 (keyK d l) 0
   rw [hk] at e5 ⊢
   refine z97 (fun b=>[(117,bif b 0 then .undef else .box 124 0),(118,bif b 1 then .undef else .box 124 0),(119,bif b 2 then .undef else .box 124 4),(120,bif b 3 then .undef else .mp 125),
     (121,bif b 4 then .undef else .d (.agg [.i (d:Int),.i x0,.i x1,.i x2,.i x3,.i x4,.i x5,.i x6,.i x7,.i x8,.i x9])),(122,bif b 5 then .undef else .agg [.d (.i bw),.d (.sl (intRows bm))])])
     (fun b=>[]) 6 (by kernel_rfl) (by kernel_rfl) (by kernel_rfl) (by decide) ?_ ?_ (Weak.refl _) ?_
   ·simp only [go_sem]
   ·refine ⟨?_,?_,?_,?_,?_,?_,trivial⟩
    all_goals
     intro b hbm hdm _
     simp only [depsM,Region.binds,true_and,and_true,Nat.zero_add,Nat.reduceAdd,reduceCtorEq,forall_const] at hdm
     refine ⟨rfl,rfl,?_⟩
     simp only [go_sem,hbm,hdm]
   ·intro K hK
    cases hlk2:lookK es1 [(d:Int),x0,x1,x2,x3,x4,x5,x6,x7,x8,x9] 0 with
    | none =>
     rw [hlk2] at e5
     dsimp only [Option.map_none] at e5
     rw [z657 (i:=0) (bw,bm) c1' hlk2] at hK
     dsimp only at hK
     rw [z1033,planD] at hK
     simp only [go_sem,e5]
     refine hK _ _ ?_
     clear hK K
     repeat (first | refine nx ?_ | (refine z10 fun K hK=>?_;simp only [go_sem];apply hK;clear hK K))
     simp only [go_sem,retG,plannerRow,planR]
    | some p =>
     obtain ⟨j,v,bn⟩:=p
     rw [hlk2] at e5
     dsimp only [Option.map_some] at e5
     have e4:=(z656 (i:=0) (bw,bm) c1' hlk2).2
     rw [Nat.sub_zero] at e4
     rw [e4] at hK
     dsimp only at hK
     rw [z1121,planD] at hK
     simp only [go_sem,e5]
     refine hK _ _ ?_
     clear hK K
     repeat (first | refine nx ?_ | (refine z10 fun K hK=>?_;simp only [go_sem];apply hK;clear hK K))
     simp only [go_sem,retG,plannerRow,planR]
theorem zf62 (k:Kitchen) (hg:KitGood k):∀ r,r≤k.days.length→HasF40 k r
 | 0,_=>zf40z k hg
 | r + 1,h=>zf62s k hg r h (zf62 k hg r (by omega))
end Go.Ab
namespace Go.Ab
open Go.RowKit Go.Proofs
def bestSN (k:Kitchen) (d:Nat) (c:List Int × Int) (rec:List Int→PlanV) (a:PlanV) (m:List Int):PlanV :=
 match takeD k d m c.1 with
 | none=>a
 | some l=>if c.2 + (rec l).1<a.1 then (c.2 + (rec l).1,m) else a
def bestN (k:Kitchen):Nat→List Int→PlanV
 | 0,_=>(0,[])
 | r + 1,l=>(choicesL k (k.days.length - (r + 1))).foldl (bestSN k (k.days.length - (r + 1)) (clrTo k ((k.days.length - (r + 1):Nat):Int) l 0 k.batches.length) (bestN k r)) (1099511627776,[])
def lookT (es:List EntK) (k:List Int):Option PlanV:=(lookK es k 0).map (·.2.1)
theorem z679:∀ (es:List EntK) (k:List Int) (i j:Nat),(lookK es k i).map (·.2.1)=(lookK es k j).map (·.2.1)
 | [],_,_,_=>rfl
 | e::es,k,i,j=>by
  rw [lookK,lookK]
  split
  ·rfl
  ·exact z679 es k _ _
theorem z146 (e:EntK) (es:List EntK) (k:List Int):lookT (e::es) k=if k=e.1 then some e.2.1 else lookT es k:=by
 rw [lookT,lookK]
 split
 ·rfl
 ·exact z679 es k _ _
theorem z678:∀ (es:List EntK) (k k':List Int) (w:PlanV) (c:Nat),lookT (putK es k w c).1 k'=if k'=k then some w else lookT es k'
 | [],k,k',w,c=>by
  rw [putK,z146]
 | e::es,k,k',w,c=>by
  rw [putK]
  by_cases hk:k=e.1
  ·rw [if_pos hk]
   dsimp only
   rw [z146,z146]
   by_cases h1:k'=k
   ·rw [if_pos h1,if_pos h1]
   ·rw [if_neg h1,if_neg h1,if_neg (by rw [← hk];exact h1)]
  ·rw [if_neg hk]
   dsimp only
   rw [z146,z146,z678 es k k' w c]
   by_cases h1:k'=k
   ·rw [if_pos h1,if_pos h1,if_neg (by rw [h1];exact hk)]
   ·rw [if_neg h1,if_neg h1]
theorem z1023 {a b:List Int} (h:a.length=b.length) (e:pad10 a=pad10 b):a=b:=by
 have:=congrArg (List.take a.length) e
 rwa [pad10,pad10,List.take_left',h,List.take_left'] at this <;> first | rfl | exact h.symm
theorem z1127 {d e:Nat} {a b:List Int} (h:a.length=b.length) (q:keyK d a=keyK e b):d=e∧a=b:=by
 rw [keyK,keyK,List.cons.injEq] at q
 exact ⟨by omega,z1023 h q.2⟩
def GoodT (k:Kitchen) (es:List EntK):Prop:=∀ (d:Nat) (l:List Int) v,d≤k.days.length→l.length=k.batches.length→lookT es (keyK d l)=some v→v=bestN k (k.days.length - d) l
theorem z1049 (k:Kitchen):GoodT k []:=fun d l v _ _ h=>by cases h
theorem z1048 {k:Kitchen} {es:List EntK} (h:GoodT k es) {d:Nat} {l:List Int} (hl:l.length=k.batches.length) {v:PlanV} (hv:v=bestN k (k.days.length - d) l) (c:Nat):GoodT k (putK es (keyK d l) v c).1:=fun d' l' v' hd' hl' hg=>by
 rw [z678] at hg
 split at hg
 ·rename_i e
  obtain ⟨rfl,rfl⟩:=z1127 (by omega) e
  cases hg
  exact hv
 ·exact h d' l' v' hd' hl' hg
theorem z704 {α β:Type} {f:α→β→α} {p:α→Prop}:∀ (N:List β) {a:α},p a→(∀ a m,m ∈ N→p a→p (f a m))→p (N.foldl f a)
 | [],_,h,_=>h
 | m::N,_,h,hs=>z704 N (hs _ m (by simp) h) fun a x hx=>hs a x (by simp [hx])
theorem z473 {k:Kitchen} (hg:KitGood k) {d:Nat} (hd:d<k.days.length) {m l l':List Int} (hm:DayOk k m (hiN k d)) (ha:AmtOk l) (h:takeD k d m l=some l'):AmtOk l'∧l'.length=l.length :=
 z116 ha (fun x hx=>(z58 hg hm x hx).1) _ _ h
def clr0 (k:Kitchen) (d:Nat) (l:List Int):List Int × Int:=clrTo k (d:Int) l 0 k.batches.length
theorem z869 {k:Kitchen} (hg:KitGood k) {d:Nat} {l:List Int} (hl:l.length=k.batches.length) (ha:AmtOk l):AmtOk (clr0 k d l).1∧(clr0 k d l).1.length=k.batches.length∧0≤(clr0 k d l).2∧(clr0 k d l).2≤10000000:=by
 obtain ⟨h1,h2,h3⟩:=z55 (k:=k) (day:=(d:Int)) (w:=0) ha k.batches.length
 have:=hg.batches
 refine ⟨h1,by rw [clr0,z45,hl],h2,?_⟩
 unfold clr0
 omega
theorem z544 {k:Kitchen} (hg:KitGood k):∀ r,r≤k.days.length→∀ l:List Int,l.length=k.batches.length→AmtOk l →
  (0≤(bestN k r l).1∧(bestN k r l).1≤1099511627776)∧(bestN k r l=(1099511627776,[])∨r=0∨(bestN k r l).2 ∈ choicesL k (k.days.length - r))
 | 0,_,l,_,_=>by simp [bestN]
 | r + 1,hr,l,hl,ha=>by
  rw [bestN]
  obtain ⟨d,hd⟩:∃ d,d=k.days.length - (r + 1):=⟨_,rfl⟩
  rw [← hd]
  change (0≤((choicesL k d).foldl (bestSN k d (clr0 k d l) (bestN k r)) (1099511627776,[])).1∧_)∧(((choicesL k d).foldl (bestSN k d (clr0 k d l) (bestN k r)) (1099511627776,[]))=_∨_)
  obtain ⟨c1,c2,c3,c4⟩:=z869 hg (d:=d) hl ha
  refine z704 (p:=fun a:PlanV=>(0≤a.1∧a.1≤1099511627776)∧(a=(1099511627776,[])∨r + 1=0∨a.2 ∈ choicesL k d)) (choicesL k d) ⟨by decide,.inl rfl⟩ fun a m hm h=>?_
  unfold bestSN
  split
  ·exact h
  ·rename_i l' hl'
   obtain ⟨t1,t2⟩:=z473 hg (by omega) (z523 hg (by omega) hm).2 c1 hl'
   have hb:=(z544 hg r (by omega) l' (by omega) t1).1
   split
   ·exact ⟨by dsimp only;omega,.inr (.inr hm)⟩
   ·exact h
theorem z266 {k:Kitchen} (hg:KitGood k):∀ r,r≤k.days.length→∀ l:List Int,l.length=k.batches.length→AmtOk l→∀ M:List EntK × Nat,GoodT k M.1→(bestM k r l M).1=bestN k r l∧GoodT k (bestM k r l M).2.1
 | 0,_,l,_,_,M,h=>⟨rfl,h⟩
 | r + 1,hr,l,hl,ha,M,h=>by
  obtain ⟨d,hd⟩:∃ d,d=k.days.length - (r + 1):=⟨_,rfl⟩
  have hrd:k.days.length - d=r + 1:=by omega
  have hN:bestN k (r + 1) l=(choicesL k d).foldl (bestSN k d (clr0 k d l) (bestN k r)) (1099511627776,[]):=by rw [bestN,← hd];rfl
  rw [bestM,← hd]
  cases hlk:lookK M.1 (keyK d l) 0 with
  | some p =>
   obtain ⟨j,v,bn⟩:=p
   dsimp only
   refine ⟨?_,h⟩
   rw [← hrd]
   exact h d l v (by omega) hl (by rw [lookT,hlk];rfl)
  | none =>
   dsimp only
   change ((choicesL k d).foldl (bestS k d (clr0 k d l) (bestM k r)) ((1099511627776,[]),M)).1=_∧GoodT k (putK ((choicesL k d).foldl (bestS k d (clr0 k d l) (bestM k r)) ((1099511627776,[]),M)).2.1 (keyK d l) ((choicesL k d).foldl (bestS k d (clr0 k d l) (bestM k r)) ((1099511627776,[]),M)).1 _).1
   have key:∀ (N:List (List Int)) (a:PlanV) (M:List EntK × Nat),(∀ m ∈ N,m ∈ choicesL k d)→GoodT k M.1→(0≤a.1∧a.1≤1099511627776) →
     (N.foldl (bestS k d (clr0 k d l) (bestM k r)) (a,M)).1=N.foldl (bestSN k d (clr0 k d l) (bestN k r)) a∧GoodT k (N.foldl (bestS k d (clr0 k d l) (bestM k r)) (a,M)).2.1:=by
    intro N
    induction N with
    | nil=>intro a M _ hM _;exact ⟨rfl,hM⟩
    | cons m N ih =>
     intro a M hm hM ha2
     rw [List.foldl_cons,List.foldl_cons]
     obtain ⟨c1,c2,c3,c4⟩:=z869 hg (d:=d) hl ha
     have hmd:=hm m (by simp)
     have ih:=fun a M=>ih a M fun x hx=>hm x (by simp [hx])
     cases ht:takeD k d m (clr0 k d l).1 with
     | none =>
      have e1:bestS k d (clr0 k d l) (bestM k r) (a,M) m=(a,M):=by rw [bestS,ht]
      have e2:bestSN k d (clr0 k d l) (bestN k r) a m=a:=by rw [bestSN,ht]
      rw [e1,e2]
      exact ih a M hM ha2
     | some l' =>
      obtain ⟨t1,t2⟩:=z473 hg (by omega) (z523 hg (by omega) hmd).2 c1 ht
      obtain ⟨b1,b2⟩:=z266 hg r (by omega) l' (by omega) t1 M hM
      have hb:=(z544 hg r (by omega) l' (by omega) t1).1
      have hw:wr ((clr0 k d l).2 + (bestN k r l').1)=(clr0 k d l).2 + (bestN k r l').1:=z17 (by omega)
      have e1:bestS k d (clr0 k d l) (bestM k r) (a,M) m=(if (clr0 k d l).2 + (bestN k r l').1<a.1 then ((clr0 k d l).2 + (bestN k r l').1,m) else a,(bestM k r l' M).2):=by
       rw [bestS,ht]
       dsimp only
       rw [b1,hw]
      have e2:bestSN k d (clr0 k d l) (bestN k r) a m=if (clr0 k d l).2 + (bestN k r l').1<a.1 then ((clr0 k d l).2 + (bestN k r l').1,m) else a:=by rw [bestSN,ht]
      rw [e1,e2]
      refine ih _ _ b2 ?_
      split
      ·dsimp only;omega
      ·exact ha2
   obtain ⟨k1,k2⟩:=key (choicesL k d) (1099511627776,[]) M (fun _ h=>h) h (by decide)
   rw [k1,hN]
   exact ⟨rfl,z1048 k2 hl (by rw [hrd,hN]) _⟩
end Go.Ab
namespace Go.Ab
open Go.RowKit Go.Proofs
set_option maxHeartbeats 16000000
set_option maxRecDepth 20000
attribute [local irreducible] WalkL Walk
theorem z868 (k:Kitchen) (day:Int) (l:List Int) (w:Int):∀ j,(clrTo k day l w j).1=(clrTo k day l 0 j).1
 | 0=>rfl
 | j + 1=>by
  rw [clrTo,clrTo,z868 k day l w j]
  split
  ·rfl
  ·exact z868 k day l w j
def planL (k:Kitchen):Nat→List Int × List (List Int)
 | 0=>(amtK k,[])
 | i + 1=>((takeD k i (bestN k (k.days.length - i) (planL k i).1).2 (clr0 k i (planL k i).1).1).getD (clr0 k i (planL k i).1).1,(planL k i).2++[(bestN k (k.days.length - i) (planL k i).1).2])
theorem z1106 (k:Kitchen) (i:Nat):planL k (i + 1)=((takeD k i (bestN k (k.days.length - i) (planL k i).1).2 (clr0 k i (planL k i).1).1).getD (clr0 k i (planL k i).1).1,(planL k i).2++[(bestN k (k.days.length - i) (planL k i).1).2]):=rfl
theorem z165 (k:Kitchen):(amtK k).length=k.batches.length:=by simp [amtK]
theorem z1062 (k:Kitchen) (cnt:Nat→Int):DayOk k [] cnt:=⟨by decide,fun g h=>by simp at h,fun g h=>by simp at h⟩
theorem z465 {k:Kitchen} (hg:KitGood k) {i:Nat} (hi:i<k.days.length) {l:List Int} (hl:l.length=k.batches.length) (ha:AmtOk l):DayOk k (bestN k (k.days.length - i) l).2 (hiN k i)∧((bestN k (k.days.length - i) l).2.length≤(k.days.getD i []).length):=by
 rcases (z544 hg (k.days.length - i) (by omega) l hl ha).2 with h | h | h
 ·rw [h];exact ⟨z1062 k _,Nat.zero_le _⟩
 ·omega
 ·rw [show k.days.length - (k.days.length - i)=i by omega] at h
  obtain ⟨h1,h2⟩:=z523 hg hi h
  exact ⟨h2,by omega⟩
theorem z883 {k:Kitchen} (hg:KitGood k):∀ i,i≤k.days.length→AmtOk (planL k i).1∧(planL k i).1.length=k.batches.length
 | 0,_=>⟨z369 hg,z165 k⟩
 | i + 1,h=>by
  obtain ⟨h1,h2⟩:=z883 hg i (by omega)
  obtain ⟨c1,c2,c3,c4⟩:=z869 hg (d:=i) h2 h1
  rw [planL]
  dsimp only
  cases ht:takeD k i (bestN k (k.days.length - i) (planL k i).1).2 (clr0 k i (planL k i).1).1 with
  | none=>exact ⟨c1,c2⟩
  | some l' =>
   obtain ⟨t1,t2⟩:=z473 hg (by omega) (z465 hg (by omega) h2 h1).1 c1 ht
   exact ⟨t1,by rw [Option.getD_some,t2,c2]⟩
theorem z658 (k:Kitchen):∀ i,(planL k i).2.length=i
 | 0=>rfl
 | i + 1=>by rw [planL];simp [z658 k i]
def wasteK (k:Kitchen):Int:=(bestN k k.days.length (amtK k)).1
def planK (k:Kitchen):List (List Int) × Int × Int :=
 if kitE k=0 then (if wasteK k ≥ 1099511627776 then ([],0,3) else ((planL k k.days.length).2,wasteK k,0)) else ([],0,kitE k)
def lefts (k:Kitchen) (i:Nat):List Int:=(amtK k).take i++List.replicate (10 - i) 0
theorem z682 {k:Kitchen} {i:Nat} (h:i≤10) (hi:i≤k.batches.length:=by omega):(lefts k i).length=10:=by simp [lefts,amtK];omega
theorem z1038 {k:Kitchen} {i:Nat} (h:i<k.batches.length) (hb:k.batches.length≤10):(lefts k i).set i (batAt k i).amount=lefts k (i + 1):=by
 have e:(amtK k)[i]?=some (batAt k i).amount:=by
  have:=(List.getElem?_eq_getElem h)
  simp [amtK,batAt,this]
 have hl:((amtK k).take i).length=i:=by simp [amtK];omega
 rw [lefts,lefts,List.take_add_one,e,List.set_append_right _ _ (by omega),hl,Nat.sub_self,show 10 - i=(10 - (i + 1)) + 1 by omega,List.replicate_succ]
 simp
theorem z1039 (k:Kitchen):lefts k k.batches.length=pad10 (amtK k):=by rw [lefts,pad10,z165,List.take_of_length_le (by rw [z165];exact Nat.le_refl _)]
theorem z1191 {c p:List Int} (h:c.length≤10) (hp:p.length=c.length) (x:AV):(List.map (fun r=>AV.d (r.getD 0 DV.any)) (List.take (min c.length 10) (intRows c))++List.drop (1 + min c.length 10)
  (x::(pad10 p).map fun n=>AV.d (.i n)))=(pad10 c).map fun n=>AV.d (.i n):=by
 rw [Nat.min_eq_left h,Nat.add_comm,List.drop_succ_cons,List.take_of_length_le (by simp [intRows]),← List.map_drop,pad10,← hp,List.drop_left',pad10,← hp,List.map_append,intRows,List.map_map]
 ·rfl
 ·rfl
theorem zf30 (k:Kitchen) (hs:KitSmall k):Fn Tryz.prog 30 [.agg k.cells] (.tup [.sl (listRows (planK k).1),.i (planK k).2.1,.i (planK k).2.2]):=by
 have h35:=zf61 k hs
 unfold planK
 by_cases h0:¬ kitE k=0
 ·have hb:(kitE k == 0)=false:=by simpa using h0
  have hb2:(kitE k != 0)=true:=by simpa using h0
  rw [if_neg h0]
  rw [Kitchen.cells] at h35 ⊢
  dsimp only
  refine z14 86 Tryz.call30 Tryz.func30 rfl (by decide) fun J=>?_
  simp only [go_sem,St.start,Tryz.ntmps30,Tryz.results30]
  repeat (first | refine z12 rfl ?_ | refine z11 rfl ?_ | refine nx ?_ | (refine z10 fun K hK=>?_;simp only [go_sem,hb,hb2];(repeat (first | (refine ⟨_,.lent (hf:=h35) (hd:=rfl) (hr:=rfl),?_⟩;simp only [go_sem,hb,hb2]) | (refine ⟨_,.given (hf:=h35) (hd:=rfl) (ha:=rfl),?_⟩;simp only [go_sem,hb,hb2])));apply hK;clear hK K))
  simp only [go_sem,listRows,List.map_nil]
 have h0:kitE k=0:=Decidable.not_not.1 h0
 rw [if_pos h0]
 have hg:KitGood k:=z192 (by
  cases hb:badKit k with
  | false=>rfl
  | true=>rw [kitE,hb] at h0;cases h0)
 rw [h0] at h35
 have hbl:=hg.batches
 have h10:=hg.days
 rw [Kitchen.cells] at h35 ⊢
 refine z14 86 Tryz.call30 Tryz.func30 rfl (by decide) fun J=>?_
 simp only [go_sem,St.start,Tryz.ntmps30,Tryz.results30]
 repeat (first | refine z12 rfl ?_ | refine z11 rfl ?_ | refine nx ?_ | (refine z10 fun K hK=>?_;simp only [go_sem];(repeat (first | (refine ⟨_,.lent (hf:=h35) (hd:=rfl) (hr:=rfl),?_⟩;simp only [go_sem]) | (refine ⟨_,.given (hf:=h35) (hd:=rfl) (ha:=rfl),?_⟩;simp only [go_sem])));apply hK;clear hK K))
 refine z15 (fun (i:Nat)=>[(26,.d (.i (i:Int)))]) (fun i=>[(7,some (.box (.d (.i 0)::(lefts k i).map fun n=>.d (.i n))))]) (fun i=>i≤k.batches.length) (fun i=>k.batches.length - i) 0 ?_ (Nat.zero_le _) ?_
 ·simp only [go_sem]
  refine z53 [] ?_ ?_ rfl rfl <;> simp [lessT,lessM,lessB,AV.less,lefts]
 ·intro i hi
  have hll:=z682 (k:=k) (i:=i) (by omega)
  simp only [go_sem]
  repeat (first | refine nx ?_ | (refine z10 fun K hK=>?_;simp only [go_sem];apply hK;clear hK K))
  refine z13 rfl (fun hb=>?_) (fun hb=>?_)
  ·have hlt:i<k.batches.length:=by simpa using hb
   have hw:IntKind.i64.wrap ((i:Int) + 1)=((i + 1:Nat):Int):=by rw [z17 (by omega)];simp
   have gb:=z167 hlt
   rw [Batch.row] at gb
   have hni:¬ ((i:Int)<0):=by omega
   have hi10:i<10:=by omega
   have hst:=z1038 hlt hbl
   have hsp:List.take (1 + i) (AV.d (DV.i 0)::(lefts k i).map fun n=>AV.d (DV.i n))++AV.d (DV.i (batAt k i).amount)::List.drop (1 + i) ((lefts k i).map fun n=>AV.d (DV.i n))=AV.d (DV.i 0)::(lefts k (i + 1)).map fun n=>AV.d (DV.i n):=by
    rw [← hst,List.map_set,List.set_eq_take_append_cons_drop,if_pos (by simp;omega),Nat.add_comm,List.take_succ_cons]
    rfl
   have h1i:1 + i≤10:=by omega
   obtain ⟨y0,y1,y2,y3,y4,y5,y6,y7,y8,y9,hy⟩:=ten (z682 (k:=k) (i:=i + 1) (by omega))
   rw [hy] at hsp
   simp only [List.map_cons,List.map_nil] at hsp
   repeat (first | refine nx ?_ | (refine z10 fun K hK=>?_;simp only [go_sem,gb,hni,hi10,hll,h1i,hsp,hw];apply hK;clear hK K))
   refine ⟨rfl,i + 1,?_,hlt,by omega⟩
   simp only [hy,List.map_cons,List.map_nil]
   refine weA ?_ ?_ <;> simp
  ·have he:i=k.batches.length:=by (have:¬ i<k.batches.length:=by simpa using hb);omega
   subst he
   have hpd:(lefts k k.batches.length)=pad10 (amtK k):=z1039 k
   obtain ⟨x0,x1,x2,x3,x4,x5,x6,x7,x8,x9,hx⟩:=ten (z140 (l:=amtK k) (by rw [z165];omega))
   rw [hpd,hx]
   have h40:=zf62 k hg k.days.length (Nat.le_refl _) (amtK k) ([],0) (z165 k) (z369 hg)
   obtain ⟨g1,g2⟩:=z266 hg k.days.length (Nat.le_refl _) (amtK k) (z165 k) (z369 hg) ([],0) (z1049 k)
   obtain ⟨⟨wv,wm⟩,es,c,hbm⟩:∃ p es c,bestM k k.days.length (amtK k) ([],0)=(p,es,c):=⟨_,_,_,rfl⟩
   rw [hbm] at h40 g1 g2
   rw [hx,Nat.sub_self,plannerRow] at h40
   dsimp only [planR,List.map_cons,List.map_nil] at h40
   simp only [List.map_cons,List.map_nil] at h40 ⊢
   dsimp only at g1 g2
   have hwv:wasteK k=wv:=by rw [wasteK,← g1]
   rw [hwv]
   change FnG Tryz.prog 62 [_,.mp (some 11) [] 0] [0] _ _ _ at h40
   repeat refine nx ?_
   refine z10 fun K hK=>?_
   simp only [go_sem]
   refine ⟨_,.own (ns:=[22,20]) (news:=[]) (bads:=[20]) (rd:=[]) (hf:=h40) (hnd:=by decide) (hl0:=rfl) (hl1:=rfl) (hm:=by repeat (first | exact trivial | refine And.intro ?_ ?_ | rfl)) (hnew:=rfl) (hla:=rfl) (ha:=z28 (by repeat (first | exact trivial | refine And.intro ?_ ?_ | exact z29 rfl | exact z22 rfl rfl))) (hrd:=rfl) (hsh:=z23 _) (hb:=rfl) (hfl:=.inl rfl),?_⟩
   simp only [go_sem,List.map_cons,List.map_nil]
   apply hK
   clear hK K
   by_cases hge:wv ≥ 1099511627776
   ·have hd:decide (wv ≥ 1099511627776)=true:=decide_eq_true hge
    rw [if_pos hge]
    repeat (first | refine z12 rfl ?_ | refine z11 rfl ?_ | refine nx ?_ | (refine z10 fun K hK=>?_;simp only [go_sem,hd];apply hK;clear hK K))
    simp only [go_sem,listRows,List.map_nil]
   have hd:decide (wv ≥ 1099511627776)=false:=decide_eq_false hge
   rw [if_neg hge]
   have h41:FnG Tryz.prog 42 [] [] (List.map AV.d [.agg k.cells]) _ _:=z1199 k hbl
   simp only [lardRow] at h41
   rw [Kitchen.cells] at h41
   dsimp only
   repeat (first | refine z12 rfl ?_ | refine z11 rfl ?_ | refine nx ?_ | (refine z10 fun K hK=>?_;simp only [go_sem,hd];apply hK;clear hK K))
   refine z10 fun K hK=>?_
   simp only [go_sem]
   refine ⟨_,.made (news:=[47,13,14]) (hf:=h41) (hd:=rfl) (hn:=by decide) (hl:=rfl) (hnew:=rfl) (hx:=rfl),?_⟩
   simp only [go_sem,List.map_cons,List.map_nil]
   apply hK
   clear hK K
   repeat (first | refine nx ?_ | (refine z10 fun K hK=>?_;simp only [go_sem];apply hK;clear hK K))
   refine z15 (fun (q:Nat × Int × (List EntK × Nat) × List Int × Int)=>[(51,.d (.i (q.1:Int))),(2,.own 82)])
    (fun q=>[(47,some (.box [.d (.sl (intRows k.allerg)),.d (.sl (batRows k.batches)),.d (.sl (dishRows k.dishes)),.d (.sl (dayRows k.days)),.own 13,.own 14,.d (.i q.2.1)])),(13,some (.arr 3 1 (intRows (planL k q.1).1))),
     (20,some (.mp (some 11) (memK q.2.2.1.1) q.2.2.1.2)),(7,some (.box (.d (.i q.2.2.2.2)::(pad10 q.2.2.2.1).map fun n=>.d (.i n)))),(82,some (.arr 22 1 (listRows (planL k q.1).2)))])
    (fun q=>q.1≤k.days.length∧GoodT k q.2.2.1.1∧(0≤q.2.1∧q.2.1≤10000000 * q.1)∧q.2.2.2.1.length=k.batches.length) (fun q=>k.days.length - q.1) (0,0,(es,c),amtK k,0) ?_ ⟨Nat.zero_le _,g2,⟨Int.le_refl _,Int.le_refl _⟩,z165 k⟩ ?_
   ·simp only [go_sem,hx,List.map_cons,List.map_nil]
    refine z53 [82] ?_ ?_ rfl rfl <;> simp [lessT,lessM,lessB,AV.less,planL,listRows]
   ·rintro ⟨i,w,⟨es,c⟩,pv,e⟩ ⟨hi,hgt,⟨hw0,hw1⟩,hpv⟩
    dsimp only at hi hgt hw0 hw1 hpv
    obtain ⟨z0,z1,z2,z3,z4,z5,z6,z7,z8,z9,hz⟩:=ten (z140 (l:=pv) (by omega))
    obtain ⟨p1,p2⟩:=z883 hg i hi
    simp only [go_sem,hz,List.map_cons,List.map_nil]
    repeat (first | refine nx ?_ | (refine z10 fun K hK=>?_;simp only [go_sem];apply hK;clear hK K))
    refine z13 rfl (fun hb=>?_) (fun hb=>?_)
    ·have hlt:i<k.days.length:=by simpa using hb
     have hw:IntKind.i64.wrap ((i:Int) + 1)=((i + 1:Nat):Int):=by rw [z17 (by omega)];simp
     obtain ⟨L,hL⟩:∃ L,L=(planL k i).1:=⟨_,rfl⟩
     have hps:=z1106 k i
     rw [← hL] at p1 p2 hps ⊢
     have hL10:L.length≤10:=by omega
     obtain ⟨y0,y1,y2,y3,y4,y5,y6,y7,y8,y9,hy⟩:=ten (z140 (l:=L) hL10)
     have hcp:=z1191 (c:=L) (p:=pv) hL10 (by omega) (.d (.i e))
     rw [hy,hz] at hcp
     simp only [List.map_cons,List.map_nil] at hcp
     have hi1:headIs 1 (intRows L)=true:=by cases L <;> rfl
     have hir:k.days.length - (k.days.length - i)=i:=by omega
     have h40:=zf62 k hg (k.days.length - i) (by omega) L (es,c) p2 p1
     obtain ⟨g1,g2⟩:=z266 hg (k.days.length - i) (by omega) L p2 p1 (es,c) hgt
     obtain ⟨m1,m2⟩:=z465 hg hlt p2 p1
     obtain ⟨⟨wv2,wm2⟩,es2,c2,hbm2⟩:∃ p es2 c2,bestM k (k.days.length - i) L (es,c)=(p,es2,c2):=⟨_,_,_,rfl⟩
     rw [hbm2] at h40 g1 g2
     dsimp only at g1 g2
     rw [← g1] at m1 m2 hps
     dsimp only at m1 m2 hps
     rw [hir,hy,plannerRow] at h40
     dsimp only [planR,List.map_cons,List.map_nil] at h40
     simp only [List.map_cons,List.map_nil] at h40
     have h42:=z1079 k hbl (i:Int) L (ordK k) w p2 p1 ⟨hw0,by omega⟩
     obtain ⟨c1,c2',c3⟩:=z55 (k:=k) (day:=(i:Int)) (w:=w) p1 k.batches.length
     have c4:=z45 k (i:Int) L w k.batches.length
     have c5:(clr0 k i L).1=(clrTo k (i:Int) L w k.batches.length).1:=by rw [clr0,← z868]
     rw [c5] at hps
     obtain ⟨⟨C,v⟩,hC⟩:∃ a,a=clrTo k (i:Int) L w k.batches.length:=⟨_,rfl⟩
     rw [← hC] at h42 c1 c2' c3 c4 hps
     dsimp only at c1 c2' c3 c4 hps
     have h44:=z1078 k hg wm2 (hiN k i) 64 [.ptr [.ptr (k.cells++[.any]) 0] 0,.ptr [.i (i:Int)] 0] m1 (fun j hj=>zf64 k i j hlt (by omega))
     have h43:=z1145 k (needL k wm2 (hiN k i)) C (ordK k) v (by omega) hbl c1 (z58 hg m1) (by rw [z47];exact hg.goods.2) (fun x hx=>z49 hx) (by rw [z102];exact hbl)
     rw [z47] at h43
     rw [Kitchen.cells] at h44
     dsimp only [List.cons_append,List.nil_append] at h44
     simp only [lardRow] at h42
     unfold takeD at hps
     obtain ⟨NN,hNN⟩:∃ NN,NN=needL k wm2 (hiN k i):=⟨_,rfl⟩
     rw [← hNN] at h44 h43 hps
     obtain ⟨ms,hms⟩:∃ ms,ms=(planL k i).2:=⟨_,rfl⟩
     have hap:listRows ms++[[.sl (intRows wm2)]]=listRows (ms++[wm2]):=by simp [listRows]
     have hml:ms.length + 1≤549755813888:=by rw [hms,z658];omega
     rw [← hms] at hps ⊢
     repeat (first | refine nx ?_ | (refine z10 fun K hK=>?_;simp only [go_sem];apply hK;clear hK K))
     refine z16 (by kernel_rfl) (by kernel_rfl) fun K hK=>?_
     simp only [go_sem,hi1,z36,hcp]
     refine ⟨by kernel_rfl,hK _ ?_⟩
     clear hK K
     repeat refine nx ?_
     refine z10 fun K hK=>?_
     simp only [go_sem]
     apply hK
     clear hK K
     repeat refine nx ?_
     refine z10 fun K hK=>?_
     simp only [go_sem]
     refine ⟨_,.own (ns:=[22,20]) (news:=[]) (bads:=[20]) (rd:=[]) (hf:=h40) (hnd:=by decide) (hl0:=rfl) (hl1:=rfl) (hm:=by repeat (first | exact trivial | refine And.intro ?_ ?_ | rfl)) (hnew:=rfl) (hla:=rfl) (ha:=z28 (by repeat (first | exact trivial | refine And.intro ?_ ?_ | exact z29 rfl | exact z22 rfl rfl))) (hrd:=rfl) (hsh:=z23 _) (hb:=rfl) (hfl:=.inl rfl),?_⟩
     simp only [go_sem,List.map_cons,List.map_nil]
     apply hK
     clear hK K
     repeat refine nx ?_
     refine z10 fun K hK=>?_
     simp only [go_sem]
     refine ⟨_,.own (ns:=[47,13,14]) (news:=[]) (bads:=[13,14]) (rd:=[]) (hf:=h42) (hnd:=by decide) (hl0:=rfl) (hl1:=rfl) (hm:=by repeat (first | exact trivial | refine And.intro ?_ ?_ | rfl)) (hnew:=rfl) (hla:=rfl) (ha:=z28 (by repeat (first | exact trivial | refine And.intro ?_ ?_ | exact z29 rfl | exact z22 rfl rfl))) (hrd:=rfl) (hsh:=z23 _) (hb:=rfl) (hfl:=.inl rfl),?_⟩
     simp only [go_sem,List.map_cons,List.map_nil]
     apply hK
     clear hK K
     cases htk:takeTo k (ordK k) NN C k.allerg.length with
     | none =>
      rw [htk] at h43 hps
      simp only [takeBlks,lardRow,Option.isSome_none] at h43
      rw [Option.getD_none] at hps
      repeat refine nx ?_
      refine z217 8 fun K hK=>?_
      simp only [go_sem]
      refine ⟨_,.lentS (hdst:=rfl) (hf:=h44) (hd:=rfl) (hr:=z33 _) (hfr:=rfl),?_⟩
      simp only [go_sem]
      refine ⟨_,z96 [77] _,?_⟩
      simp only [go_sem]
      refine ⟨_,.own (ns:=[47,13,14]) (news:=[]) (bads:=[13,14]) (rd:=[]) (hf:=h43) (hnd:=by decide) (hl0:=rfl) (hl1:=rfl) (hm:=by repeat (first | exact trivial | refine And.intro ?_ ?_ | rfl)) (hnew:=rfl) (hla:=rfl) (ha:=z28 (by repeat (first | exact trivial | refine And.intro ?_ ?_ | exact z29 rfl | exact z22 rfl rfl))) (hrd:=rfl) (hsh:=z23 _) (hb:=rfl) (hfl:=.inl rfl),?_⟩
      simp only [go_sem,List.map_cons,List.map_nil]
      apply hK
      clear hK K
      repeat (first | refine nx ?_ | (refine z10 fun K hK=>?_;simp only [go_sem,hml,hap,hw,z26];apply hK;clear hK K))
      refine ⟨rfl,(i + 1,v,(es2,c2),L,(i:Int)),?_,⟨hlt,g2,⟨by dsimp only;omega,by dsimp only;push_cast;omega⟩,p2⟩,by dsimp only;omega⟩
      dsimp only
      rw [hps]
      simp only [go_sem,hy,List.map_cons,List.map_nil]
      refine weA ?_ ?_ <;> simp
     | some c' =>
      rw [htk] at h43 hps
      simp only [takeBlks,lardRow,Option.isSome_some] at h43
      rw [Option.getD_some] at hps
      repeat refine nx ?_
      refine z217 8 fun K hK=>?_
      simp only [go_sem]
      refine ⟨_,.lentS (hdst:=rfl) (hf:=h44) (hd:=rfl) (hr:=z33 _) (hfr:=rfl),?_⟩
      simp only [go_sem]
      refine ⟨_,z96 [77] _,?_⟩
      simp only [go_sem]
      refine ⟨_,.own (ns:=[47,13,14]) (news:=[15]) (bads:=[13,14]) (rd:=[]) (hf:=h43) (hnd:=by decide) (hl0:=rfl) (hl1:=rfl) (hm:=by repeat (first | exact trivial | refine And.intro ?_ ?_ | rfl)) (hnew:=rfl) (hla:=rfl) (ha:=z28 (by repeat (first | exact trivial | refine And.intro ?_ ?_ | exact z29 rfl | exact z22 rfl rfl))) (hrd:=rfl) (hsh:=z23 _) (hb:=rfl) (hfl:=.inl rfl),?_⟩
      simp only [go_sem,List.map_cons,List.map_nil]
      apply hK
      clear hK K
      refine z442 [] [] [(13,none)] ?_ ?_
      ·simp only [go_sem]
       refine weA ?_ ?_ <;> simp
      simp only [go_sem]
      refine z270 15 13 ?_
      simp only [go_sem]
      repeat (first | refine nx ?_ | (refine z10 fun K hK=>?_;simp only [go_sem,hml,hap,hw,z26];apply hK;clear hK K))
      refine ⟨rfl,(i + 1,v,(es2,c2),L,(i:Int)),?_,⟨hlt,g2,⟨by dsimp only;omega,by dsimp only;push_cast;omega⟩,p2⟩,by dsimp only;omega⟩
      dsimp only
      rw [hps]
      simp only [go_sem,hy,List.map_cons,List.map_nil]
      refine weA ?_ ?_ <;> simp
    ·have he:i=k.days.length:=by (have:¬ i<k.days.length:=by simpa using hb);omega
     subst he
     repeat (first | refine nx ?_ | (refine z10 fun K hK=>?_;simp only [go_sem];apply hK;clear hK K))
     simp only [go_sem]
end Go.Ab
namespace Go.Ab
open Go.RowKit Go.Proofs
set_option maxHeartbeats 16000000
set_option maxRecDepth 20000
attribute [local irreducible] WalkL Walk
def countB (n:Int) (g:Diners):Bool:=withinB n g.count.lo g.count.hi
theorem zf58 (n:Int) (g:Diners):Fn Tryz.prog 58 [.i n,.agg g.row] (.bool (countB n g)):=by
 have h:=z1074 n g.count.lo g.count.hi
 unfold countB
 refine z14 13 Tryz.call58 Tryz.func58 rfl (by decide) fun J=>?_
 simp only [go_sem,St.start,Tryz.ntmps58,Tryz.results58,Diners.row]
 repeat (first | refine nx ?_ | (refine z10 fun K hK=>?_;simp only [go_sem];(repeat (first | (refine ⟨_,.lent (hf:=h) (hd:=rfl) (hr:=rfl),?_⟩;simp only [go_sem]) | (refine ⟨_,.given (hf:=h) (hd:=rfl) (ha:=rfl),?_⟩;simp only [go_sem])));apply hK;clear hK K))
 simp only [go_sem]
theorem zf52c (k:Kitchen) (hg:KitGood k) (M:List (List Int)) (hM:M.length<2 ^ 30) (hMr:∀ r ∈ M,r.length<2 ^ 30):Fn Tryz.prog 57 [.agg k.cells,.sl (listRows M),.fn 58 []] (.bool (shapedB (countB) M k.days)):=by
 have hdd:=hg.days
 have hgr:=hg.groups
 obtain ⟨q,hq⟩:∃ q,q=countB:=⟨_,rfl⟩
 have h137:=fun (n:Int) (g:Diners)=>zf58 n g
 simp only [← hq] at h137
 rw [← hq]
 obtain ⟨R,hR⟩:∃ R,R=shapedB q M k.days:=⟨_,rfl⟩
 rw [← hR]
 cases q1:((M.length:Int) != (k.days.length:Int))
 ·have hl:M.length=k.days.length:=by
   simp only [bne_eq_false_iff_eq] at q1
   omega
  refine z14 55 Tryz.call57 Tryz.func57 rfl (by decide) fun J=>?_
  simp only [go_sem,St.start,Tryz.ntmps57,Tryz.results57,Kitchen.cells]
  repeat (first | refine z12 rfl ?_ | refine z11 rfl ?_ | refine nx ?_ | (refine z10 fun K hK=>?_;simp only [go_sem,q1];apply hK;clear hK K))
  refine z15 (fun (i:Nat)=>[(22,.d (.i (i:Int)))]) (fun _=>[]) (fun i=>i≤k.days.length∧R=shapedB q (M.drop i) (k.days.drop i)) (fun i=>k.days.length - i) 0 ?_ ⟨Nat.zero_le _,hR⟩ ?_
  ·simp only [go_sem]
   refine weA ?_ ?_ <;> simp
  ·rintro i ⟨hi,hRi⟩
   simp only [go_sem]
   repeat (first | refine nx ?_ | (refine z10 fun K hK=>?_;simp only [go_sem];apply hK;clear hK K))
   refine z13 rfl (fun hb=>?_) (fun hb=>?_)
   ·have hlt:i<k.days.length:=by simpa using hb
    have hw:IntKind.i64.wrap ((i:Int) + 1)=((i + 1:Nat):Int):=by rw [z17 (by omega)];simp
    obtain ⟨d,hd⟩:∃ d,k.days[i]?=some d:=⟨_,List.getElem?_eq_getElem hlt⟩
    obtain ⟨r,hr⟩:∃ r,M[i]?=some r:=⟨_,List.getElem?_eq_getElem (by omega)⟩
    have g1:=z81 hd
    have g2:=z40 hr
    have hni:¬ ((i:Int)<0):=by omega
    have hd3:=(hgr d (List.mem_of_getElem? hd)).1
    rw [z30 hd,z30 hr,shapedB] at hRi
    cases q2:((r.length:Int) != (d.length:Int))
    ·have hrl:r.length=d.length:=by
      simp only [bne_eq_false_iff_eq] at q2
      omega
     repeat (first | refine z12 rfl ?_ | refine z11 rfl ?_ | refine nx ?_ | (refine z10 fun K hK=>?_;simp only [go_sem,g1,g2,hni,q2];apply hK;clear hK K))
     refine z15 (fun (j:Nat)=>[(37,.d (.i (j:Int)))]) (fun _=>[]) (fun j=>j≤d.length∧R=(rowOk q (r.drop j) (d.drop j) && shapedB q (M.drop (i + 1)) (k.days.drop (i + 1)))) (fun j=>d.length - j) 0 ?_ ⟨Nat.zero_le _,hRi⟩ ?_
     ·simp only [go_sem]
      refine weA ?_ ?_ <;> simp
     ·rintro j ⟨hj,hRj⟩
      simp only [go_sem]
      repeat (first | refine nx ?_ | (refine z10 fun K hK=>?_;simp only [go_sem];apply hK;clear hK K))
      refine z13 rfl (fun hb=>?_) (fun hb=>?_)
      ·have hltj:j<d.length:=by simpa using hb
       have hwj:IntKind.i64.wrap ((j:Int) + 1)=((j + 1:Nat):Int):=by rw [z17 (by omega)];simp
       obtain ⟨g,hgj⟩:∃ g,d[j]?=some g:=⟨_,List.getElem?_eq_getElem hltj⟩
       obtain ⟨n,hnj⟩:∃ n,r[j]?=some n:=⟨_,List.getElem?_eq_getElem (by omega)⟩
       have g3:=z80 hgj
       have g4:=z38 hnj
       rw [Diners.row] at g3
       have hnjj:¬ ((j:Int)<0):=by omega
       have hc:=h137 n g
       rw [Diners.row] at hc
       rw [z30 hgj,z30 hnj,rowOk] at hRj
       cases q3:q n g
       ·rw [q3] at hRj hc
        rw [Bool.false_and,Bool.false_and] at hRj
        rw [hRj]
        repeat (first | refine nx ?_ | (refine z10 fun K hK=>?_;simp only [go_sem,g3];apply hK;clear hK K))
        refine z16 (by kernel_rfl) (by kernel_rfl) fun K hK=>?_
        simp only [go_sem,g2,g4,hni,hnjj]
        refine ⟨_,.fn (hf:=hc) (hd:=rfl) (hr:=.inl rfl),?_⟩
        simp only [go_sem]
        refine ⟨by kernel_rfl,hK _ ?_⟩
        clear hK K
        repeat (first | refine z12 rfl ?_ | refine z11 rfl ?_ | refine nx ?_ | (refine z10 fun K hK=>?_;simp only [go_sem];apply hK;clear hK K))
        simp only [go_sem]
       ·rw [q3] at hRj hc
        rw [Bool.true_and] at hRj
        repeat (first | refine nx ?_ | (refine z10 fun K hK=>?_;simp only [go_sem,g3];apply hK;clear hK K))
        refine z16 (by kernel_rfl) (by kernel_rfl) fun K hK=>?_
        simp only [go_sem,g2,g4,hni,hnjj]
        refine ⟨_,.fn (hf:=hc) (hd:=rfl) (hr:=.inl rfl),?_⟩
        simp only [go_sem]
        refine ⟨by kernel_rfl,hK _ ?_⟩
        clear hK K
        repeat (first | refine z12 rfl ?_ | refine z11 rfl ?_ | refine nx ?_ | (refine z10 fun K hK=>?_;simp only [go_sem,hwj];apply hK;clear hK K))
        refine ⟨rfl,j + 1,?_,⟨hltj,hRj⟩,by omega⟩
        refine weA ?_ ?_ <;> simp
      ·have he:j=d.length:=by (have:¬ j<d.length:=by simpa using hb);omega
       subst he
       rw [List.drop_length,← hrl,List.drop_length,rowOk,Bool.true_and] at hRj
       repeat (first | refine nx ?_ | (refine z10 fun K hK=>?_;simp only [go_sem,hw];apply hK;clear hK K))
       refine ⟨rfl,i + 1,?_,⟨hlt,hRj⟩,by omega⟩
       refine weA ?_ ?_ <;> simp
    ·have hf:rowOk q r d=false:=by
      cases hx:rowOk q r d with
      | false=>rfl
      | true =>
       have:=z99 hx
       rw [this] at q2
       simp at q2
     rw [hf,Bool.false_and] at hRi
     rw [hRi]
     repeat (first | refine z12 rfl ?_ | refine z11 rfl ?_ | refine nx ?_ | (refine z10 fun K hK=>?_;simp only [go_sem,g1,g2,hni,q2];apply hK;clear hK K))
     simp only [go_sem]
   ·have he:i=k.days.length:=by (have:¬ i<k.days.length:=by simpa using hb);omega
    subst he
    rw [List.drop_length,← hl,List.drop_length,shapedB] at hRi
    rw [hRi]
    repeat (first | refine nx ?_ | (refine z10 fun K hK=>?_;simp only [go_sem];apply hK;clear hK K))
    simp only [go_sem]
 ·have hf:R=false:=by
   rw [hR]
   cases hx:shapedB q M k.days with
   | false=>rfl
   | true =>
    have:=z54 hx
    rw [this] at q1
    simp at q1
  rw [hf]
  refine z14 55 Tryz.call57 Tryz.func57 rfl (by decide) fun J=>?_
  simp only [go_sem,St.start,Tryz.ntmps57,Tryz.results57,Kitchen.cells]
  repeat (first | refine z12 rfl ?_ | refine z11 rfl ?_ | refine nx ?_ | (refine z10 fun K hK=>?_;simp only [go_sem,q1];apply hK;clear hK K))
  simp only [go_sem]
def cntOf (C:List (List Int)) (d g:Nat):Int:=getI (C.getD d []) (g:Int)
theorem zf60 (C:List (List Int)) (d g:Nat) (hd:d<C.length) (hg:g<(C.getD d []).length):Fn Tryz.prog 60 [.i (d:Int),.i (g:Int),.ptr [.sl (listRows C)] 0] (.i (cntOf C d g)):=by
 have e:C.getD d []=C[d]:=by rw [List.getD,List.getElem?_eq_getElem hd];rfl
 have g1:=z40 (List.getElem?_eq_getElem hd)
 unfold cntOf
 rw [e] at hg ⊢
 have g2:=z27 hg
 have n1:¬ ((d:Int)<0):=by omega
 have n2:¬ ((g:Int)<0):=by omega
 refine z14 13 Tryz.call60 Tryz.func60 rfl (by decide) fun J=>?_
 simp only [go_sem,St.start,Tryz.ntmps60,Tryz.results60]
 repeat (first | refine nx ?_ | (refine z10 fun K hK=>?_;simp only [go_sem,g1,g2,n1,n2];apply hK;clear hK K))
 simp only [go_sem]
theorem zf84c (C:List (List Int)) (d g:Nat) (hd:d<C.length) (hg:g<(C.getD d []).length):Fn Tryz.prog 82 [.i (g:Int),.ptr [.fn 60 [.ptr [.sl (listRows C)] 0]] 0,.ptr [.i (d:Int)] 0] (.i (cntOf C d g)):=by
 have h:=zf60 C d g hd hg
 refine z14 9 Tryz.call82 Tryz.func82 rfl (by decide) fun J=>?_
 simp only [go_sem,St.start,Tryz.ntmps82,Tryz.results82]
 repeat (first | refine nx ?_ | (refine z10 fun K hK=>?_;simp only [go_sem];(repeat (first | (refine ⟨_,.lent (hf:=h) (hd:=rfl) (hr:=rfl),?_⟩;simp only [go_sem]) | (refine ⟨_,.given (hf:=h) (hd:=rfl) (ha:=rfl),?_⟩;simp only [go_sem])));apply hK;clear hK K))
 simp only [go_sem]
theorem z1063 {k:Kitchen} (hg:KitGood k) {C:List (List Int)} (hC:shapedB countB C k.days=true):CntOk k (cntOf C):=⟨fun d g hd hgl=>by
 have hl:=z54 hC
 obtain ⟨r,hr⟩:∃ r,C[d]?=some r:=⟨_,List.getElem?_eq_getElem (by omega)⟩
 obtain ⟨x,hx,hro⟩:=z170 hC hr
 have e:k.days.getD d []=x:=by rw [List.getD,hx];rfl
 rw [e] at hgl
 have hrl:=z99 hro
 obtain ⟨n,hn⟩:∃ n,r[g]?=some n:=⟨_,List.getElem?_eq_getElem (by omega)⟩
 obtain ⟨y,hy,hq⟩:=z520 hro hn
 have hi:=((hg.groups x (List.mem_of_getElem? hx)).2 y (List.mem_of_getElem? hy)).2
 have hw:=z24.1 hq
 have e2:cntOf C d g=n:=by rw [cntOf,List.getD,hr,Option.getD_some,getI,Int.toNat_natCast,List.getD,hn];rfl
 rw [e2]
 omega⟩
theorem z1148 {k:Kitchen} {C:List (List Int)} (hC:shapedB countB C k.days=true) {d g:Nat} (hd:d<k.days.length) (hgl:g<(k.days.getD d []).length):d<C.length∧g<(C.getD d []).length:=by
 have hl:=z54 hC
 obtain ⟨r,hr⟩:∃ r,C[d]?=some r:=⟨_,List.getElem?_eq_getElem (by omega)⟩
 obtain ⟨x,hx,hro⟩:=z170 hC hr
 have e:k.days.getD d []=x:=by rw [List.getD,hx];rfl
 rw [e] at hgl
 have hrl:=z99 hro
 refine ⟨by omega,?_⟩
 rw [List.getD,hr,Option.getD_some]
 omega
end Go.Ab
namespace Go.Ab
open Go.RowKit Go.Proofs
set_option maxHeartbeats 16000000
set_option maxRecDepth 20000
attribute [local irreducible] WalkL Walk
theorem zf55c (k:Kitchen) (hg:KitGood k) (M:List (List Int)) (hM:shapedB (menuB k) M k.days=true) (N:List (List Int)) (hN:shapedB countB N k.days=true) :
  FnG Tryz.prog 43 [.box (lardRow k (.own 1) (.own 2) 0),.arr 3 1 (intRows (amtK k)),.arr 3 1 (natRows (ordK k))] [0] [.box 0 0,.d (.sl (listRows M)),.d (.fn 60 [.ptr [.sl (listRows N)] 0])] (.d (.i (lastD k M (cntOf N) M.length:Nat))) (runBlks k M (cntOf N)):=by
 have hc:=z1063 hg hN
 have hf84:=fun d g (hd:d<k.days.length) (hgl:g<(k.days.getD d []).length)=>zf84c N d g (z1148 hN hd hgl).1 (z1148 hN hd hgl).2
 obtain ⟨cnt,hcnt⟩:∃ cnt,cnt=cntOf N:=⟨_,rfl⟩
 rw [← hcnt] at hc ⊢
 simp only [← hcnt] at hf84
 have hbl:=hg.batches
 have hdl:=hg.days
 have hMl:=z54 hM
 have hgo:=hg.goods
 obtain ⟨A0,hA0⟩:∃ a,a=left0 k:=⟨_,rfl⟩
 refine z65 33 Tryz.call43 Tryz.func43 rfl (by decide) [] [(0,0)] (by simp only [List.length_cons,List.length_nil];decide) (by kernel_rfl) fun J=>?_
 simp only [go_sem,St.startG,Tryz.ntmps43,Tryz.results43,List.map_cons,List.map_nil,List.range_succ,  lardRow]
 repeat refine nx ?_
 refine z10 fun K hK=>?_
 simp only [go_sem]
 apply hK
 clear hK K
 refine z20 [5] ?_
 simp only [go_sem]
 repeat (first | refine nx ?_ | (refine z10 fun K hK=>?_;simp only [go_sem,z26];apply hK;clear hK K))
 refine z15 (fun (q:Nat × Nat × List Int × Int)=>[(11,.d (.i (q.1:Int)))])
  (fun q=>[(33,some (.box (lardRow k (.own (nmL q.2.1)) (.own 35) q.2.2.2))),(34,some (.arr 3 1 (intRows (if q.2.1=0 then q.2.2.1 else A0)))),(1,if q.2.1=1 then some (.arr 3 1 (intRows q.2.2.1)) else none),(2,if q.2.1=2 then some (.arr 3 1 (intRows q.2.2.1)) else none)])
  (fun q=>q.1≤M.length∧runSt k M cnt q.1=some q.2.2∧(q.2.1=0→q.1=0∧q.2.2.1=amtK k)∧(q.1=0→q.2.1=0)∧q.2.1<3) (fun q=>M.length - q.1) (0,0,amtK k,0) ?_ ⟨Nat.zero_le _,rfl,fun _=>⟨rfl,rfl⟩,fun _=>rfl,Nat.zero_lt_succ _⟩ ?_
 ·simp only [go_sem,nmL,lardRow]
  refine weA ?_ ?_ <;> simp
  all_goals first | done | rfl | exact ⟨rfl,rfl⟩ | trace_state
 ·rintro ⟨d,p,l,w⟩ ⟨hd,hrun,hp0,hd0,hp3⟩
  dsimp only at hd hrun hp0 hd0 hp3
  obtain ⟨hla,hll,hw0,hw1⟩:=z223 hg hM hc d (l,w) hd hrun
  dsimp only at hla hll hw0 hw1
  have hw2:w≤2 ^ 40:=by omega
  have hsome:(runSt k M cnt d).isSome=true:=by rw [hrun];rfl
  have hlast:d=M.length→lastD k M cnt M.length=d∧endSt k M cnt=(l,w):=fun he=>by
   have e:lastD k M cnt M.length=d:=by rw [← he];exact z228 hsome
   refine ⟨e,?_⟩
   rw [endSt,e,hrun,if_neg (by omega)]
   rfl
  have hstop:d<M.length→runSt k M cnt (d + 1)=none→lastD k M cnt M.length=d∧endSt k M cnt=clrD k d (l,w):=fun hlt hn=>by
   have e:lastD k M cnt M.length=d:=z260 hsome hn (by omega)
   refine ⟨e,?_⟩
   rw [endSt,e,hrun,if_pos hlt]
   rfl
  have hstep:d<M.length→runSt k M cnt (d + 1)=(takeTo k (ordK k) (needD k M cnt d) (clrD k d (l,w)).1 k.allerg.length).map fun c=>(c,(clrD k d (l,w)).2):=fun _=>by rw [runSt,hrun]
  rcases (by omega:p=0∨p=1∨p=2) with hp | hp | hp
  ·-- phase 0
   subst hp
   obtain ⟨hz0,hl1⟩:=hp0 rfl
   have hLA:=z258 hz0
   simp only [go_sem,nmL,lardRow]
   repeat (first | refine nx ?_ | (refine z10 fun K hK=>?_;simp only [go_sem];apply hK;clear hK K))
   refine z13 rfl (fun hb=>?_) (fun hb=>?_)
   ·have hlt:d<M.length:=by simpa using hb
    have hw:IntKind.i64.wrap ((d:Int) + 1)=((d + 1:Nat):Int):=by rw [z17 (by omega)];simp
    obtain ⟨r,hr⟩:∃ r,M[d]?=some r:=⟨_,List.getElem?_eq_getElem hlt⟩
    obtain ⟨hdd,hrl,hday⟩:=z147 hg hM hc hr
    have g1:=z40 hr
    have hni:¬ ((d:Int)<0):=by omega
    have hnd:needD k M cnt d=needL k r (cnt d):=by rw [needD,List.getD,hr];rfl
    have hst:=hstep hlt
    have hsp:=hstop hlt
    rw [hnd] at hst
    have h86:=z1079 k hbl (d:Int) l (ordK k) w hll hla ⟨hw0,hw2⟩
    obtain ⟨c1,c2,c3⟩:=z55 (k:=k) (day:=(d:Int)) (w:=w) hla k.batches.length
    have c4:=z45 k (d:Int) l w k.batches.length
    change runSt k M cnt (d + 1)=(takeTo k (ordK k) (needL k r (cnt d)) (clrTo k (d:Int) l w k.batches.length).1 k.allerg.length).map fun c=>(c,(clrTo k (d:Int) l w k.batches.length).2) at hst
    change runSt k M cnt (d + 1)=none→lastD k M cnt M.length=d∧endSt k M cnt=clrTo k (d:Int) l w k.batches.length at hsp
    obtain ⟨⟨C,v⟩,hC⟩:∃ a,a=clrTo k (d:Int) l w k.batches.length:=⟨_,rfl⟩
    rw [← hC] at h86 c1 c2 c3 c4 hst hsp
    dsimp only at c1 c2 c3 c4 hst
    have hAC:C=A0:=by
     have h0:(l,w)=(amtK k,0):=by rw [hz0] at hrun;exact (Option.some.inj hrun).symm
     rw [hA0,left0,clrD,← h0]
     rw [hz0] at hC
     exact congrArg Prod.fst hC
    subst hAC
    have h87:=(z1078 k hg r (cnt d) 82 [.ptr [.fn 60 [.ptr [.sl (listRows N)] 0]] 0,.ptr [.i (d:Int)] 0] hday (fun j hj=>hf84 d j hdd (by omega))).deep
    have h141:=z1145 k (needL k r (cnt d)) C (ordK k) v (by omega) hbl c1 (z58 hg hday) (by rw [z47];exact hgo.2) (fun x hx=>z49 hx) (by rw [z102];exact hbl)
    rw [z47] at h141
    simp only [lardRow] at h86
    rw [Kitchen.cells] at h87
    obtain ⟨NE,hNE⟩:∃ NE,NE=needL k r (cnt d):=⟨_,rfl⟩
    rw [← hNE] at h87 h141 hst
    repeat refine nx ?_
    refine z10 fun K hK=>?_
    simp only [go_sem,g1,hni]
    apply hK
    clear hK K
    refine z20 [7] ?_
    simp only [go_sem]
    repeat refine nx ?_
    refine z10 fun K hK=>?_
    simp only [go_sem]
    refine ⟨_,.own (ns:=[33,34,35]) (news:=[]) (bads:=[34,35]) (rd:=[]) (hf:=h86) (hnd:=by decide) (hl0:=rfl) (hl1:=rfl) (hm:=by repeat (first | exact trivial | refine And.intro ?_ ?_ | rfl)) (hnew:=rfl) (hla:=rfl) (ha:=z28 (by repeat (first | exact trivial | refine And.intro ?_ ?_ | exact z29 rfl | exact z22 rfl rfl))) (hrd:=rfl) (hsh:=z23 _) (hb:=rfl) (hfl:=.inl rfl),?_⟩
    simp only [go_sem,List.map_cons,List.map_nil]
    apply hK
    clear hK K
    cases htk:takeTo k (ordK k) NE C k.allerg.length with
    | none =>
     rw [htk] at h141 hst
     obtain ⟨hD,hE⟩:=hsp hst
     simp only [takeBlks,lardRow,Option.isSome_none] at h141
     repeat refine nx ?_
     refine z10 fun K hK=>?_
     simp only [go_sem]
     refine ⟨_,.given (hf:=h87) (hd:=rfl) (ha:=rfl),?_⟩
     simp only [go_sem]
     refine ⟨_,.own (ns:=[33,34,35]) (news:=[]) (bads:=[34,35]) (rd:=[]) (hf:=h141) (hnd:=by decide) (hl0:=rfl) (hl1:=rfl) (hm:=by repeat (first | exact trivial | refine And.intro ?_ ?_ | rfl)) (hnew:=rfl) (hla:=rfl) (ha:=z28 (by repeat (first | exact trivial | refine And.intro ?_ ?_ | exact z29 rfl | exact z22 rfl rfl))) (hrd:=rfl) (hsh:=z23 _) (hb:=rfl) (hfl:=.inl rfl),?_⟩
     simp only [go_sem,List.map_cons,List.map_nil]
     apply hK
     clear hK K
     repeat (first | refine nx ?_ | (refine z10 fun K hK=>?_;simp only [go_sem];apply hK;clear hK K))
     repeat (first | refine z12 rfl ?_ | refine z11 rfl ?_ | refine nx ?_ | (refine z10 fun K hK=>?_;simp only [go_sem];apply hK;clear hK K))
     simp only [go_sem,retG,runBlks,lardRow,hD,hE,hLA,← hA0]
    | some c =>
     rw [htk] at h141 hst
     simp only [takeBlks,lardRow,Option.isSome_some] at h141
     repeat refine nx ?_
     refine z10 fun K hK=>?_
     simp only [go_sem]
     refine ⟨_,.given (hf:=h87) (hd:=rfl) (ha:=rfl),?_⟩
     simp only [go_sem]
     refine ⟨_,.own (ns:=[33,34,35]) (news:=[2]) (bads:=[34,35]) (rd:=[]) (hf:=h141) (hnd:=by decide) (hl0:=rfl) (hl1:=rfl) (hm:=by repeat (first | exact trivial | refine And.intro ?_ ?_ | rfl)) (hnew:=rfl) (hla:=rfl) (ha:=z28 (by repeat (first | exact trivial | refine And.intro ?_ ?_ | exact z29 rfl | exact z22 rfl rfl))) (hrd:=rfl) (hsh:=z23 _) (hb:=rfl) (hfl:=.inl rfl),?_⟩
     simp only [go_sem,List.map_cons,List.map_nil]
     apply hK
     clear hK K
     repeat (first | refine z12 rfl ?_ | refine z11 rfl ?_ | refine nx ?_ | (refine z10 fun K hK=>?_;simp only [go_sem,hw];apply hK;clear hK K))
     refine ⟨rfl,(d + 1,2,c,v),?_,⟨hlt,hst,fun h=>absurd (show 2=0 from h) (by decide),fun h=>absurd (show d + 1=0 from h) (by omega),(by decide:2<3)⟩,by dsimp only;omega⟩
     simp only [go_sem,nmL,lardRow]
     refine weA ?_ ?_ <;> simp
     all_goals first | done | rfl | exact ⟨rfl,rfl⟩ | trace_state
   ·have he:d=M.length:=by (have:¬ d<M.length:=by simpa using hb);omega
    subst he
    exfalso
    omega
  ·-- phase 1
   subst hp
   have hpos:d≠0:=fun h=>by have:=hd0 h;omega
   have hLA:=z122 hpos
   simp only [go_sem,nmL,lardRow]
   repeat (first | refine nx ?_ | (refine z10 fun K hK=>?_;simp only [go_sem];apply hK;clear hK K))
   refine z13 rfl (fun hb=>?_) (fun hb=>?_)
   ·have hlt:d<M.length:=by simpa using hb
    have hw:IntKind.i64.wrap ((d:Int) + 1)=((d + 1:Nat):Int):=by rw [z17 (by omega)];simp
    obtain ⟨r,hr⟩:∃ r,M[d]?=some r:=⟨_,List.getElem?_eq_getElem hlt⟩
    obtain ⟨hdd,hrl,hday⟩:=z147 hg hM hc hr
    have g1:=z40 hr
    have hni:¬ ((d:Int)<0):=by omega
    have hnd:needD k M cnt d=needL k r (cnt d):=by rw [needD,List.getD,hr];rfl
    have hst:=hstep hlt
    have hsp:=hstop hlt
    rw [hnd] at hst
    have h86:=z1079 k hbl (d:Int) l (ordK k) w hll hla ⟨hw0,hw2⟩
    obtain ⟨c1,c2,c3⟩:=z55 (k:=k) (day:=(d:Int)) (w:=w) hla k.batches.length
    have c4:=z45 k (d:Int) l w k.batches.length
    change runSt k M cnt (d + 1)=(takeTo k (ordK k) (needL k r (cnt d)) (clrTo k (d:Int) l w k.batches.length).1 k.allerg.length).map fun c=>(c,(clrTo k (d:Int) l w k.batches.length).2) at hst
    change runSt k M cnt (d + 1)=none→lastD k M cnt M.length=d∧endSt k M cnt=clrTo k (d:Int) l w k.batches.length at hsp
    obtain ⟨⟨C,v⟩,hC⟩:∃ a,a=clrTo k (d:Int) l w k.batches.length:=⟨_,rfl⟩
    rw [← hC] at h86 c1 c2 c3 c4 hst hsp
    dsimp only at c1 c2 c3 c4 hst
    have h87:=(z1078 k hg r (cnt d) 82 [.ptr [.fn 60 [.ptr [.sl (listRows N)] 0]] 0,.ptr [.i (d:Int)] 0] hday (fun j hj=>hf84 d j hdd (by omega))).deep
    have h141:=z1145 k (needL k r (cnt d)) C (ordK k) v (by omega) hbl c1 (z58 hg hday) (by rw [z47];exact hgo.2) (fun x hx=>z49 hx) (by rw [z102];exact hbl)
    rw [z47] at h141
    simp only [lardRow] at h86
    rw [Kitchen.cells] at h87
    obtain ⟨NE,hNE⟩:∃ NE,NE=needL k r (cnt d):=⟨_,rfl⟩
    rw [← hNE] at h87 h141 hst
    repeat refine nx ?_
    refine z10 fun K hK=>?_
    simp only [go_sem,g1,hni]
    apply hK
    clear hK K
    refine z20 [7] ?_
    simp only [go_sem]
    repeat refine nx ?_
    refine z10 fun K hK=>?_
    simp only [go_sem]
    refine ⟨_,.own (ns:=[33,1,35]) (news:=[]) (bads:=[1,35]) (rd:=[]) (hf:=h86) (hnd:=by decide) (hl0:=rfl) (hl1:=rfl) (hm:=by repeat (first | exact trivial | refine And.intro ?_ ?_ | rfl)) (hnew:=rfl) (hla:=rfl) (ha:=z28 (by repeat (first | exact trivial | refine And.intro ?_ ?_ | exact z29 rfl | exact z22 rfl rfl))) (hrd:=rfl) (hsh:=z23 _) (hb:=rfl) (hfl:=.inl rfl),?_⟩
    simp only [go_sem,List.map_cons,List.map_nil]
    apply hK
    clear hK K
    cases htk:takeTo k (ordK k) NE C k.allerg.length with
    | none =>
     rw [htk] at h141 hst
     obtain ⟨hD,hE⟩:=hsp hst
     simp only [takeBlks,lardRow,Option.isSome_none] at h141
     repeat refine nx ?_
     refine z10 fun K hK=>?_
     simp only [go_sem]
     refine ⟨_,.given (hf:=h87) (hd:=rfl) (ha:=rfl),?_⟩
     simp only [go_sem]
     refine ⟨_,.own (ns:=[33,1,35]) (news:=[]) (bads:=[1,35]) (rd:=[]) (hf:=h141) (hnd:=by decide) (hl0:=rfl) (hl1:=rfl) (hm:=by repeat (first | exact trivial | refine And.intro ?_ ?_ | rfl)) (hnew:=rfl) (hla:=rfl) (ha:=z28 (by repeat (first | exact trivial | refine And.intro ?_ ?_ | exact z29 rfl | exact z22 rfl rfl))) (hrd:=rfl) (hsh:=z23 _) (hb:=rfl) (hfl:=.inl rfl),?_⟩
     simp only [go_sem,List.map_cons,List.map_nil]
     apply hK
     clear hK K
     repeat (first | refine nx ?_ | (refine z10 fun K hK=>?_;simp only [go_sem];apply hK;clear hK K))
     refine z20 [1] ?_
     simp only [go_sem]
     repeat (first | refine z12 rfl ?_ | refine z11 rfl ?_ | refine nx ?_ | (refine z10 fun K hK=>?_;simp only [go_sem];apply hK;clear hK K))
     simp only [go_sem,retG,runBlks,lardRow,hD,hE,hLA,← hA0]
    | some c =>
     rw [htk] at h141 hst
     simp only [takeBlks,lardRow,Option.isSome_some] at h141
     repeat refine nx ?_
     refine z10 fun K hK=>?_
     simp only [go_sem]
     refine ⟨_,.given (hf:=h87) (hd:=rfl) (ha:=rfl),?_⟩
     simp only [go_sem]
     refine ⟨_,.own (ns:=[33,1,35]) (news:=[2]) (bads:=[1,35]) (rd:=[]) (hf:=h141) (hnd:=by decide) (hl0:=rfl) (hl1:=rfl) (hm:=by repeat (first | exact trivial | refine And.intro ?_ ?_ | rfl)) (hnew:=rfl) (hla:=rfl) (ha:=z28 (by repeat (first | exact trivial | refine And.intro ?_ ?_ | exact z29 rfl | exact z22 rfl rfl))) (hrd:=rfl) (hsh:=z23 _) (hb:=rfl) (hfl:=.inl rfl),?_⟩
     simp only [go_sem,List.map_cons,List.map_nil]
     apply hK
     clear hK K
     repeat (first | refine z12 rfl ?_ | refine z11 rfl ?_ | refine nx ?_ | (refine z10 fun K hK=>?_;simp only [go_sem,hw];apply hK;clear hK K))
     refine ⟨rfl,(d + 1,2,c,v),?_,⟨hlt,hst,fun h=>absurd (show 2=0 from h) (by decide),fun h=>absurd (show d + 1=0 from h) (by omega),(by decide:2<3)⟩,by dsimp only;omega⟩
     simp only [go_sem,nmL,lardRow]
     refine weA ?_ ?_ <;> simp
     all_goals first | done | rfl | exact ⟨rfl,rfl⟩ | trace_state
   ·have he:d=M.length:=by (have:¬ d<M.length:=by simpa using hb);omega
    subst he
    obtain ⟨hD,hE⟩:=hlast rfl
    refine z20 [1] ?_
    simp only [go_sem]
    repeat (first | refine nx ?_ | (refine z10 fun K hK=>?_;simp only [go_sem];apply hK;clear hK K))
    simp only [go_sem,retG,runBlks,lardRow,hD,hE,hLA,← hA0]
  ·-- phase 2
   subst hp
   have hpos:d≠0:=fun h=>by have:=hd0 h;omega
   have hLA:=z122 hpos
   simp only [go_sem,nmL,lardRow]
   repeat (first | refine nx ?_ | (refine z10 fun K hK=>?_;simp only [go_sem];apply hK;clear hK K))
   refine z13 rfl (fun hb=>?_) (fun hb=>?_)
   ·have hlt:d<M.length:=by simpa using hb
    have hw:IntKind.i64.wrap ((d:Int) + 1)=((d + 1:Nat):Int):=by rw [z17 (by omega)];simp
    obtain ⟨r,hr⟩:∃ r,M[d]?=some r:=⟨_,List.getElem?_eq_getElem hlt⟩
    obtain ⟨hdd,hrl,hday⟩:=z147 hg hM hc hr
    have g1:=z40 hr
    have hni:¬ ((d:Int)<0):=by omega
    have hnd:needD k M cnt d=needL k r (cnt d):=by rw [needD,List.getD,hr];rfl
    have hst:=hstep hlt
    have hsp:=hstop hlt
    rw [hnd] at hst
    have h86:=z1079 k hbl (d:Int) l (ordK k) w hll hla ⟨hw0,hw2⟩
    obtain ⟨c1,c2,c3⟩:=z55 (k:=k) (day:=(d:Int)) (w:=w) hla k.batches.length
    have c4:=z45 k (d:Int) l w k.batches.length
    change runSt k M cnt (d + 1)=(takeTo k (ordK k) (needL k r (cnt d)) (clrTo k (d:Int) l w k.batches.length).1 k.allerg.length).map fun c=>(c,(clrTo k (d:Int) l w k.batches.length).2) at hst
    change runSt k M cnt (d + 1)=none→lastD k M cnt M.length=d∧endSt k M cnt=clrTo k (d:Int) l w k.batches.length at hsp
    obtain ⟨⟨C,v⟩,hC⟩:∃ a,a=clrTo k (d:Int) l w k.batches.length:=⟨_,rfl⟩
    rw [← hC] at h86 c1 c2 c3 c4 hst hsp
    dsimp only at c1 c2 c3 c4 hst
    have h87:=(z1078 k hg r (cnt d) 82 [.ptr [.fn 60 [.ptr [.sl (listRows N)] 0]] 0,.ptr [.i (d:Int)] 0] hday (fun j hj=>hf84 d j hdd (by omega))).deep
    have h141:=z1145 k (needL k r (cnt d)) C (ordK k) v (by omega) hbl c1 (z58 hg hday) (by rw [z47];exact hgo.2) (fun x hx=>z49 hx) (by rw [z102];exact hbl)
    rw [z47] at h141
    simp only [lardRow] at h86
    rw [Kitchen.cells] at h87
    obtain ⟨NE,hNE⟩:∃ NE,NE=needL k r (cnt d):=⟨_,rfl⟩
    rw [← hNE] at h87 h141 hst
    repeat refine nx ?_
    refine z10 fun K hK=>?_
    simp only [go_sem,g1,hni]
    apply hK
    clear hK K
    refine z20 [7] ?_
    simp only [go_sem]
    repeat refine nx ?_
    refine z10 fun K hK=>?_
    simp only [go_sem]
    refine ⟨_,.own (ns:=[33,2,35]) (news:=[]) (bads:=[2,35]) (rd:=[]) (hf:=h86) (hnd:=by decide) (hl0:=rfl) (hl1:=rfl) (hm:=by repeat (first | exact trivial | refine And.intro ?_ ?_ | rfl)) (hnew:=rfl) (hla:=rfl) (ha:=z28 (by repeat (first | exact trivial | refine And.intro ?_ ?_ | exact z29 rfl | exact z22 rfl rfl))) (hrd:=rfl) (hsh:=z23 _) (hb:=rfl) (hfl:=.inl rfl),?_⟩
    simp only [go_sem,List.map_cons,List.map_nil]
    apply hK
    clear hK K
    cases htk:takeTo k (ordK k) NE C k.allerg.length with
    | none =>
     rw [htk] at h141 hst
     obtain ⟨hD,hE⟩:=hsp hst
     simp only [takeBlks,lardRow,Option.isSome_none] at h141
     repeat refine nx ?_
     refine z10 fun K hK=>?_
     simp only [go_sem]
     refine ⟨_,.given (hf:=h87) (hd:=rfl) (ha:=rfl),?_⟩
     simp only [go_sem]
     refine ⟨_,.own (ns:=[33,2,35]) (news:=[]) (bads:=[2,35]) (rd:=[]) (hf:=h141) (hnd:=by decide) (hl0:=rfl) (hl1:=rfl) (hm:=by repeat (first | exact trivial | refine And.intro ?_ ?_ | rfl)) (hnew:=rfl) (hla:=rfl) (ha:=z28 (by repeat (first | exact trivial | refine And.intro ?_ ?_ | exact z29 rfl | exact z22 rfl rfl))) (hrd:=rfl) (hsh:=z23 _) (hb:=rfl) (hfl:=.inl rfl),?_⟩
     simp only [go_sem,List.map_cons,List.map_nil]
     apply hK
     clear hK K
     repeat (first | refine nx ?_ | (refine z10 fun K hK=>?_;simp only [go_sem];apply hK;clear hK K))
     refine z20 [2] ?_
     simp only [go_sem]
     repeat (first | refine z12 rfl ?_ | refine z11 rfl ?_ | refine nx ?_ | (refine z10 fun K hK=>?_;simp only [go_sem];apply hK;clear hK K))
     simp only [go_sem,retG,runBlks,lardRow,hD,hE,hLA,← hA0]
    | some c =>
     rw [htk] at h141 hst
     simp only [takeBlks,lardRow,Option.isSome_some] at h141
     repeat refine nx ?_
     refine z10 fun K hK=>?_
     simp only [go_sem]
     refine ⟨_,.given (hf:=h87) (hd:=rfl) (ha:=rfl),?_⟩
     simp only [go_sem]
     refine ⟨_,.own (ns:=[33,2,35]) (news:=[1]) (bads:=[2,35]) (rd:=[]) (hf:=h141) (hnd:=by decide) (hl0:=rfl) (hl1:=rfl) (hm:=by repeat (first | exact trivial | refine And.intro ?_ ?_ | rfl)) (hnew:=rfl) (hla:=rfl) (ha:=z28 (by repeat (first | exact trivial | refine And.intro ?_ ?_ | exact z29 rfl | exact z22 rfl rfl))) (hrd:=rfl) (hsh:=z23 _) (hb:=rfl) (hfl:=.inl rfl),?_⟩
     simp only [go_sem,List.map_cons,List.map_nil]
     apply hK
     clear hK K
     repeat (first | refine z12 rfl ?_ | refine z11 rfl ?_ | refine nx ?_ | (refine z10 fun K hK=>?_;simp only [go_sem,hw];apply hK;clear hK K))
     refine ⟨rfl,(d + 1,1,c,v),?_,⟨hlt,hst,fun h=>absurd (show 1=0 from h) (by decide),fun h=>absurd (show d + 1=0 from h) (by omega),(by decide:1<3)⟩,by dsimp only;omega⟩
     simp only [go_sem,nmL,lardRow]
     refine weA ?_ ?_ <;> simp
     all_goals first | done | rfl | exact ⟨rfl,rfl⟩ | trace_state
   ·have he:d=M.length:=by (have:¬ d<M.length:=by simpa using hb);omega
    subst he
    obtain ⟨hD,hE⟩:=hlast rfl
    refine z20 [2] ?_
    simp only [go_sem]
    repeat (first | refine nx ?_ | (refine z10 fun K hK=>?_;simp only [go_sem];apply hK;clear hK K))
    simp only [go_sem,retG,runBlks,lardRow,hD,hE,hLA,← hA0]
end Go.Ab
namespace Go.Ab
open Go.RowKit Go.Proofs
set_option maxHeartbeats 16000000
set_option maxRecDepth 20000
attribute [local irreducible] WalkL Walk
def cookE (k:Kitchen) (M C:List (List Int)):Int:=if openK k M=0 then (if shapedB countB C k.days then 0 else 72) else openK k M
def cookP (k:Kitchen) (M C:List (List Int)):List Int × Int × Nat × Int :=
 if cookE k M C=0 then ((endSt k M (cntOf C)).1,(endSt k M (cntOf C)).2,lastD k M (cntOf C) M.length,0) else ([],0,0,cookE k M C)
theorem z661 {k:Kitchen} {M:List (List Int)} (h0:openK k M=0):KitGood k∧shapedB (menuB k) M k.days=true:=by
 unfold openK at h0
 split at h0
 ·rename_i hz
  split at h0
  ·exact ⟨z192 (z179.1 hz),by assumption⟩
  ·cases h0
 ·contradiction
theorem zf29 (k:Kitchen) (M C:List (List Int)) (hs:KitSmall k) (hM:M.length<2 ^ 30) (hMr:∀ r ∈ M,r.length<2 ^ 30) (hC:C.length<2 ^ 30) (hCr:∀ r ∈ C,r.length<2 ^ 30) :
  Fn Tryz.prog 29 [.agg k.cells,.sl (listRows M),.sl (listRows C)] (.tup [.sl (intRows (cookP k M C).1),.i (cookP k M C).2.1,.i ((cookP k M C).2.2.1:Nat),.i (cookP k M C).2.2.2]):=by
 have h48:=zf41 k M hs hM hMr
 unfold cookP cookE
 by_cases h0:¬ openK k M=0
 ·have hb:(openK k M == 0)=false:=by simpa using h0
  have hb2:(openK k M != 0)=true:=by simpa using h0
  rw [if_neg h0,if_neg h0]
  rw [Kitchen.cells] at h48 ⊢
  dsimp only
  refine z14 44 Tryz.call29 Tryz.func29 rfl (by decide) fun J=>?_
  simp only [go_sem,St.start,Tryz.ntmps29,Tryz.results29]
  repeat (first | refine z12 rfl ?_ | refine z11 rfl ?_ | refine nx ?_ | (refine z10 fun K hK=>?_;simp only [go_sem,hb,hb2];(repeat (first | (refine ⟨_,.lent (hf:=h48) (hd:=rfl) (hr:=rfl),?_⟩;simp only [go_sem,hb,hb2]) | (refine ⟨_,.given (hf:=h48) (hd:=rfl) (ha:=rfl),?_⟩;simp only [go_sem,hb,hb2])));apply hK;clear hK K))
  simp only [go_sem,intRows,List.map_nil]
 have h0:openK k M=0:=Decidable.not_not.1 h0
 obtain ⟨hg,hsh⟩:=z661 h0
 have h52:=zf52c k hg C hC hCr
 rw [if_pos h0]
 rw [h0] at h48
 cases hc:shapedB countB C k.days with
 | false =>
  rw [hc] at h52
  rw [if_neg (by decide:¬ (if false=true then (0:Int) else 72)=0),if_neg (by decide:¬ false=true)]
  rw [Kitchen.cells] at h48 h52 ⊢
  refine z14 44 Tryz.call29 Tryz.func29 rfl (by decide) fun J=>?_
  simp only [go_sem,St.start,Tryz.ntmps29,Tryz.results29]
  repeat (first | refine z12 rfl ?_ | refine z11 rfl ?_ | refine nx ?_ | (refine z10 fun K hK=>?_;simp only [go_sem];(repeat (first | (refine ⟨_,.lent (hf:=h48) (hd:=rfl) (hr:=rfl),?_⟩;simp only [go_sem]) | (refine ⟨_,.lent (hf:=h52) (hd:=rfl) (hr:=rfl),?_⟩;simp only [go_sem]) | (refine ⟨_,.given (hf:=h48) (hd:=rfl) (ha:=rfl),?_⟩;simp only [go_sem]) | (refine ⟨_,.given (hf:=h52) (hd:=rfl) (ha:=rfl),?_⟩;simp only [go_sem])));apply hK;clear hK K))
  simp only [go_sem,intRows,List.map_nil]
 | true =>
  rw [hc] at h52
  rw [if_pos rfl,if_pos rfl]
  have h55:=zf55c k hg M hsh C hc
  have h41:FnG Tryz.prog 42 [] [] (List.map AV.d [.agg k.cells]) _ _:=z1199 k hg.batches
  have hlen:=hg.days
  have hMl:=z54 hsh
  obtain ⟨D,hD⟩:∃ D,D=lastD k M (cntOf C) M.length:=⟨_,rfl⟩
  have he0:D=0→(endSt k M (cntOf C)).1=left0 k:=fun h=>by
   rw [endSt,← hD,h,if_pos (by omega)]
   rfl
  rw [runBlks,← hD] at h55
  rw [← hD]
  obtain ⟨⟨EL,EW⟩,hE⟩:∃ e,e=endSt k M (cntOf C):=⟨_,rfl⟩
  rw [← hE] at h55 he0 ⊢
  dsimp only at h55 he0 ⊢
  simp only [lardRow] at h41 h55
  rw [Kitchen.cells] at h41 h48 h52 ⊢
  by_cases hz:D=0
  ·rw [z258 hz] at h55
   rw [← he0 hz] at h55
   refine z14 44 Tryz.call29 Tryz.func29 rfl (by decide) fun J=>?_
   simp only [go_sem,St.start,Tryz.ntmps29,Tryz.results29]
   repeat refine nx ?_
   refine z10 fun K hK=>?_
   simp only [go_sem]
   apply hK
   clear hK K
   refine z20 [5] ?_
   simp only [go_sem]
   repeat (first | refine z12 rfl ?_ | refine z11 rfl ?_ | refine nx ?_ | (refine z10 fun K hK=>?_;simp only [go_sem];(repeat (first | (refine ⟨_,.lent (hf:=h48) (hd:=rfl) (hr:=rfl),?_⟩;simp only [go_sem]) | (refine ⟨_,.lent (hf:=h52) (hd:=rfl) (hr:=rfl),?_⟩;simp only [go_sem]) | (refine ⟨_,.given (hf:=h48) (hd:=rfl) (ha:=rfl),?_⟩;simp only [go_sem]) | (refine ⟨_,.given (hf:=h52) (hd:=rfl) (ha:=rfl),?_⟩;simp only [go_sem])));apply hK;clear hK K))
   refine z10 fun K hK=>?_
   simp only [go_sem]
   refine ⟨_,.made (news:=[30,16,17]) (hf:=h41) (hd:=rfl) (hn:=by decide) (hl:=rfl) (hnew:=rfl) (hx:=rfl),?_⟩
   simp only [go_sem,List.map_cons,List.map_nil]
   apply hK
   clear hK K
   repeat refine nx ?_
   refine z10 fun K hK=>?_
   simp only [go_sem]
   refine ⟨_,.own (ns:=[30,16,17]) (news:=[]) (bads:=[16,17]) (rd:=[]) (hf:=h55) (hnd:=by decide) (hl0:=rfl) (hl1:=rfl) (hm:=by repeat (first | exact trivial | refine And.intro ?_ ?_ | rfl)) (hnew:=rfl) (hla:=rfl) (ha:=z28 (by repeat (first | exact trivial | refine And.intro ?_ ?_ | exact z29 rfl | exact z22 rfl rfl))) (hrd:=rfl) (hsh:=z23 _) (hb:=rfl) (hfl:=.inl rfl),?_⟩
   simp only [go_sem,List.map_cons,List.map_nil]
   apply hK
   clear hK K
   repeat refine nx ?_
   refine z16 (by kernel_rfl) (by kernel_rfl) fun K hK=>?_
   simp only [go_sem]
   refine ⟨by kernel_rfl,hK _ ?_⟩
   clear hK K
   repeat (first | refine nx ?_ | (refine z10 fun K hK=>?_;simp only [go_sem];apply hK;clear hK K))
   simp only [go_sem]
  ·rw [z122 hz] at h55
   refine z14 44 Tryz.call29 Tryz.func29 rfl (by decide) fun J=>?_
   simp only [go_sem,St.start,Tryz.ntmps29,Tryz.results29]
   repeat refine nx ?_
   refine z10 fun K hK=>?_
   simp only [go_sem]
   apply hK
   clear hK K
   refine z20 [5] ?_
   simp only [go_sem]
   repeat (first | refine z12 rfl ?_ | refine z11 rfl ?_ | refine nx ?_ | (refine z10 fun K hK=>?_;simp only [go_sem];(repeat (first | (refine ⟨_,.lent (hf:=h48) (hd:=rfl) (hr:=rfl),?_⟩;simp only [go_sem]) | (refine ⟨_,.lent (hf:=h52) (hd:=rfl) (hr:=rfl),?_⟩;simp only [go_sem]) | (refine ⟨_,.given (hf:=h48) (hd:=rfl) (ha:=rfl),?_⟩;simp only [go_sem]) | (refine ⟨_,.given (hf:=h52) (hd:=rfl) (ha:=rfl),?_⟩;simp only [go_sem])));apply hK;clear hK K))
   refine z10 fun K hK=>?_
   simp only [go_sem]
   refine ⟨_,.made (news:=[30,16,17]) (hf:=h41) (hd:=rfl) (hn:=by decide) (hl:=rfl) (hnew:=rfl) (hx:=rfl),?_⟩
   simp only [go_sem,List.map_cons,List.map_nil]
   apply hK
   clear hK K
   repeat refine nx ?_
   refine z10 fun K hK=>?_
   simp only [go_sem]
   refine ⟨_,.own (ns:=[30,16,17]) (news:=[]) (bads:=[16,17]) (rd:=[]) (hf:=h55) (hnd:=by decide) (hl0:=rfl) (hl1:=rfl) (hm:=by repeat (first | exact trivial | refine And.intro ?_ ?_ | rfl)) (hnew:=rfl) (hla:=rfl) (ha:=z28 (by repeat (first | exact trivial | refine And.intro ?_ ?_ | exact z29 rfl | exact z22 rfl rfl))) (hrd:=rfl) (hsh:=z23 _) (hb:=rfl) (hfl:=.inl rfl),?_⟩
   simp only [go_sem,List.map_cons,List.map_nil]
   apply hK
   clear hK K
   repeat refine nx ?_
   refine z16 (by kernel_rfl) (by kernel_rfl) fun K hK=>?_
   simp only [go_sem]
   refine ⟨by kernel_rfl,hK _ ?_⟩
   clear hK K
   repeat (first | refine nx ?_ | (refine z10 fun K hK=>?_;simp only [go_sem];apply hK;clear hK K))
   simp only [go_sem]
theorem zf31 (a b:List Int) (ha:a.length<2 ^ 30):Fn Tryz.prog 31 [.sl (intRows a),.sl (intRows b)] (.bool (decide (a=b))):=by
 refine z14 26 Tryz.call31 Tryz.func31 rfl (by decide) fun J=>?_
 simp only [go_sem,St.start,Tryz.ntmps31,Tryz.results31]
 repeat (first | refine nx ?_ | (refine z10 fun K hK=>?_;simp only [go_sem,z36];apply hK;clear hK K))
 by_cases hl:a.length=b.length
 ·have hne:((a.length:Int) != (b.length:Int))=false:=by simp [hl]
  simp only [go_sem,hne]
  refine z11 rfl ?_
  repeat (first | refine nx ?_ | (refine z10 fun K hK=>?_;simp only [go_sem];apply hK;clear hK K))
  refine z15 (fun (i:Nat)=>[(5,.d (.i i))]) (fun _=>[]) (fun i=>i≤a.length∧a.take i=b.take i) (fun i=>a.length - i) 0 ?_ ⟨Nat.zero_le _,by simp⟩ ?_
  ·simp only [go_sem]
   refine weA ?_ ?_ <;> simp
  ·intro i ⟨hi,heq⟩
   simp only [go_sem]
   repeat (first | refine nx ?_ | (refine z10 fun K hK=>?_;simp only [go_sem,z36];apply hK;clear hK K))
   refine z13 rfl (fun hb=>?_) (fun hb=>?_)
   ·have hlt:i<a.length:=by simpa using hb
    have hw:IntKind.i64.wrap ((i:Int) + 1)=((i + 1:Nat):Int):=by rw [z17 (by omega)];simp
    obtain ⟨x,hx⟩:∃ x,a[i]?=some x:=⟨_,List.getElem?_eq_getElem hlt⟩
    obtain ⟨y,hy⟩:∃ y,b[i]?=some y:=⟨_,List.getElem?_eq_getElem (hl ▸ hlt)⟩
    have g1:=z38 hx
    have g2:=z38 hy
    repeat (first | refine nx ?_ | (refine z10 fun K hK=>?_;simp only [go_sem];apply hK;clear hK K))
    refine z16 (by kernel_rfl) (by kernel_rfl) fun K hK=>?_
    simp only [go_sem,g1,g2]
    refine ⟨by kernel_rfl,hK _ ?_⟩
    clear hK K
    refine z13 rfl (fun hc=>?_) (fun hc=>?_)
    ·have hc:¬ x=y:=by simpa using hc
     have hab:¬ a=b:=by rintro rfl;rw [hx] at hy;cases hy;exact hc rfl
     repeat (first | refine nx ?_ | (refine z10 fun K hK=>?_;simp only [go_sem];apply hK;clear hK K))
     simp only [go_sem,hab]
    ·have hc:x=y:=by simpa using hc
     repeat (first | refine nx ?_ | (refine z10 fun K hK=>?_;simp only [go_sem,hw];apply hK;clear hK K))
     refine ⟨rfl,i + 1,?_,⟨hlt,by rw [List.take_add_one,List.take_add_one,heq,hx,hy,hc]⟩,by omega⟩
     refine weA ?_ ?_ <;> simp
   ·have he:i=a.length:=by (have:¬ i<a.length:=by simpa using hb);omega
    subst he
    have hab:a=b:=z339 hl heq
    repeat (first | refine nx ?_ | (refine z10 fun K hK=>?_;simp only [go_sem];apply hK;clear hK K))
    simp only [go_sem,hab]
 ·have hne:((a.length:Int) != (b.length:Int))=true:=by simp;omega
  have hab:¬ a=b:=by rintro rfl;exact hl rfl
  simp only [go_sem,hne]
  refine z12 rfl ?_
  repeat (first | refine nx ?_ | (refine z10 fun K hK=>?_;simp only [go_sem];apply hK;clear hK K))
  simp only [go_sem,hab]
theorem z331 {a b:List (List Int)} (hl:a.length=b.length) (h:a.take a.length=b.take a.length):a=b:=by
 rw [List.take_length,hl,List.take_length] at h
 exact h
theorem zf32 (a b:List (List Int)) (ha:a.length<2 ^ 30) (har:∀ r ∈ a,r.length<2 ^ 30):Fn Tryz.prog 32 [.sl (listRows a),.sl (listRows b)] (.bool (decide (a=b))):=by
 refine z14 27 Tryz.call32 Tryz.func32 rfl (by decide) fun J=>?_
 simp only [go_sem,St.start,Tryz.ntmps32,Tryz.results32]
 repeat (first | refine nx ?_ | (refine z10 fun K hK=>?_;simp only [go_sem,z26];apply hK;clear hK K))
 by_cases hl:a.length=b.length
 ·have hne:((a.length:Int) != (b.length:Int))=false:=by simp [hl]
  simp only [go_sem,hne]
  refine z11 rfl ?_
  repeat (first | refine nx ?_ | (refine z10 fun K hK=>?_;simp only [go_sem];apply hK;clear hK K))
  refine z15 (fun (i:Nat)=>[(5,.d (.i i))]) (fun _=>[]) (fun i=>i≤a.length∧a.take i=b.take i) (fun i=>a.length - i) 0 ?_ ⟨Nat.zero_le _,by simp⟩ ?_
  ·simp only [go_sem]
   refine weA ?_ ?_ <;> simp
  ·intro i ⟨hi,heq⟩
   simp only [go_sem]
   repeat (first | refine nx ?_ | (refine z10 fun K hK=>?_;simp only [go_sem,z26];apply hK;clear hK K))
   refine z13 rfl (fun hb=>?_) (fun hb=>?_)
   ·have hlt:i<a.length:=by simpa using hb
    have hw:IntKind.i64.wrap ((i:Int) + 1)=((i + 1:Nat):Int):=by rw [z17 (by omega)];simp
    obtain ⟨x,hx⟩:∃ x,a[i]?=some x:=⟨_,List.getElem?_eq_getElem hlt⟩
    obtain ⟨y,hy⟩:∃ y,b[i]?=some y:=⟨_,List.getElem?_eq_getElem (hl ▸ hlt)⟩
    have g1:=z40 hx
    have g2:=z40 hy
    have h21:=zf31 x y (har x (List.mem_of_getElem? hx))
    by_cases hc:x=y
    ·have hd:decide (x=y)=true:=decide_eq_true hc
     rw [hd] at h21
     repeat (first | refine nx ?_ | (refine z10 fun K hK=>?_;simp only [go_sem];apply hK;clear hK K))
     refine z16 (by kernel_rfl) (by kernel_rfl) fun K hK=>?_
     simp only [go_sem,g1,g2]
     refine ⟨_,.fn (hf:=h21) (hd:=rfl) (hr:=.inl rfl),?_⟩
     simp only [go_sem]
     refine ⟨by kernel_rfl,hK _ ?_⟩
     clear hK K
     repeat (first | refine z12 rfl ?_ | refine z11 rfl ?_ | refine nx ?_ | (refine z10 fun K hK=>?_;simp only [go_sem,hw];apply hK;clear hK K))
     refine ⟨rfl,i + 1,?_,⟨hlt,by rw [List.take_add_one,List.take_add_one,heq,hx,hy,hc]⟩,by omega⟩
     refine weA ?_ ?_ <;> simp
    ·have hd:decide (x=y)=false:=decide_eq_false hc
     rw [hd] at h21
     have hab:¬ a=b:=by rintro rfl;rw [hx] at hy;cases hy;exact hc rfl
     repeat (first | refine nx ?_ | (refine z10 fun K hK=>?_;simp only [go_sem];apply hK;clear hK K))
     refine z16 (by kernel_rfl) (by kernel_rfl) fun K hK=>?_
     simp only [go_sem,g1,g2]
     refine ⟨_,.fn (hf:=h21) (hd:=rfl) (hr:=.inl rfl),?_⟩
     simp only [go_sem]
     refine ⟨by kernel_rfl,hK _ ?_⟩
     clear hK K
     repeat (first | refine z12 rfl ?_ | refine z11 rfl ?_ | refine nx ?_ | (refine z10 fun K hK=>?_;simp only [go_sem];apply hK;clear hK K))
     simp only [go_sem,hab]
   ·have he:i=a.length:=by (have:¬ i<a.length:=by simpa using hb);omega
    subst he
    have hab:a=b:=z331 hl heq
    repeat (first | refine nx ?_ | (refine z10 fun K hK=>?_;simp only [go_sem];apply hK;clear hK K))
    simp only [go_sem,hab]
 ·have hne:((a.length:Int) != (b.length:Int))=true:=by simp;omega
  have hab:¬ a=b:=by rintro rfl;exact hl rfl
  simp only [go_sem,hne]
  refine z12 rfl ?_
  repeat (first | refine nx ?_ | (refine z10 fun K hK=>?_;simp only [go_sem];apply hK;clear hK K))
  simp only [go_sem,hab]
end Go.Ab
namespace Go.Ab
open Go.RowKit Go.Proofs
set_option maxHeartbeats 16000000
set_option maxRecDepth 20000
attribute [local irreducible] WalkL Walk
theorem z1137:cookP exK exM [[2,1],[2,1],[2,1]]=([0,100,1100],200,3,0):=by decide +kernel
theorem z1184:kitE exK=0:=by decide +kernel
theorem z1059:(planL exK 3).2=[[0,1],[0,1],[1,1]]:=by decide +kernel
theorem z1057:wasteK exK=0:=by decide +kernel
theorem z1135:planK exK=([[0,1],[0,1],[1,1]],0,0):=by
 have e:exK.days.length=3:=rfl
 rw [planK,if_pos z1184,z1057,if_neg (by decide),e,z1059]
theorem zf9:Fn Tryz.prog 9 [] (.bool true):=by
 have h39:=zf28
 have h25:=zf29 exK exM [[2,1],[2,1],[2,1]] z354 (by decide) (by decide) (by decide) (by decide)
 have h17:=zf23 exK exM z354 (by decide) (by decide)
 have h15:=zf30 exK z354
 have h21a:=zf31 [0,100,1100] [0,100,1100] (by decide)
 have h21b:=zf31 [300,0] [300,0] (by decide)
 have h20:=zf32 [[0,1],[0,1],[1,1]] [[0,1],[0,1],[1,1]] (by decide) (by decide)
 rw [z1137] at h25
 rw [z1135] at h15
 rw [z1136,if_pos rfl,z1058] at h17
 rw [show decide (([0,100,1100]:List Int)=[0,100,1100])=true by decide] at h21a
 rw [show decide (([300,0]:List Int)=[300,0])=true by decide] at h21b
 rw [show decide (([[0,1],[0,1],[1,1]]:List (List Int))=[[0,1],[0,1],[1,1]])=true by decide] at h20
 rw [Kitchen.cells] at h39 h25 h17 h15
 refine z14 80 Tryz.call9 Tryz.func9 rfl (by decide) fun J=>?_
 simp only [go_sem,St.start,Tryz.ntmps9,Tryz.results9]
 repeat (first | refine z12 rfl ?_ | refine z11 rfl ?_ | refine nx ?_ | (refine z10 fun K hK=>?_;simp only [go_sem];(repeat (first | (refine ⟨_,.lent (hf:=h39) (hd:=rfl) (hr:=rfl),?_⟩;simp only [go_sem]) | (refine ⟨_,.lent (hf:=h25) (hd:=rfl) (hr:=rfl),?_⟩;simp only [go_sem]) | (refine ⟨_,.lent (hf:=h17) (hd:=rfl) (hr:=rfl),?_⟩;simp only [go_sem]) | (refine ⟨_,.lent (hf:=h15) (hd:=rfl) (hr:=rfl),?_⟩;simp only [go_sem]) | (refine ⟨_,.lent (hf:=h21a) (hd:=rfl) (hr:=rfl),?_⟩;simp only [go_sem]) | (refine ⟨_,.lent (hf:=h21b) (hd:=rfl) (hr:=rfl),?_⟩;simp only [go_sem]) | (refine ⟨_,.lent (hf:=h20) (hd:=rfl) (hr:=rfl),?_⟩;simp only [go_sem]) | (refine ⟨_,.given (hf:=h39) (hd:=rfl) (ha:=rfl),?_⟩;simp only [go_sem]) | (refine ⟨_,.given (hf:=h25) (hd:=rfl) (ha:=rfl),?_⟩;simp only [go_sem]) | (refine ⟨_,.given (hf:=h17) (hd:=rfl) (ha:=rfl),?_⟩;simp only [go_sem]) | (refine ⟨_,.given (hf:=h15) (hd:=rfl) (ha:=rfl),?_⟩;simp only [go_sem]) | (refine ⟨_,.given (hf:=h21a) (hd:=rfl) (ha:=rfl),?_⟩;simp only [go_sem]) | (refine ⟨_,.given (hf:=h21b) (hd:=rfl) (ha:=rfl),?_⟩;simp only [go_sem]) | (refine ⟨_,.given (hf:=h20) (hd:=rfl) (ha:=rfl),?_⟩;simp only [go_sem])));apply hK;clear hK K))
 simp only [go_sem]
end Go.Ab
namespace Go.Ab
open Go.RowKit Go.Proofs
set_option maxHeartbeats 16000000
set_option maxRecDepth 20000
attribute [local irreducible] WalkL Walk
theorem z881 {q:Int→Diners→Bool}:∀ {r:List Int} {x:List Diners},r.length=x.length→(∀ (g:Nat) n y,r[g]?=some n→x[g]?=some y→q n y=true)→rowOk q r x=true
 | [],[],_,_=>rfl
 | n::r,y::x,hl,h=>by
  rw [rowOk,h 0 n y rfl rfl,Bool.true_and]
  exact z881 (by simpa using hl) fun g a b h1 h2=>h (g + 1) a b (by simpa using h1) (by simpa using h2)
 | [],_::_,h,_=>by simp at h
 | _::_,[],h,_=>by simp at h
theorem z648 {q:Int→Diners→Bool}:∀ {M:List (List Int)} {D:List (List Diners)},M.length=D.length→(∀ (i:Nat) r x,M[i]?=some r→D[i]?=some x→rowOk q r x=true)→shapedB q M D=true
 | [],[],_,_=>rfl
 | n::r,y::x,hl,h=>by
  rw [shapedB,h 0 n y rfl rfl,Bool.true_and]
  exact z648 (by simpa using hl) fun g a b h1 h2=>h (g + 1) a b (by simpa using h1) (by simpa using h2)
 | [],_::_,h,_=>by simp at h
 | _::_,[],h,_=>by simp at h
def suitsP (k:Kitchen) (no:Int):List Int × Int:=if kitE k=0 then (if setB no=true then (suitL k no,0) else ([],1)) else ([],kitE k)
def readyB (k:Kitchen):Bool:=!far7 k && (kitE k == 0)
end Go.Ab
namespace Go.Ab
open Go.RowKit Go.Proofs
set_option maxHeartbeats 16000000
set_option maxRecDepth 20000
attribute [local irreducible] WalkL Walk
theorem zf138 (k:Kitchen) (hg:KitGood k) (ds cs:List Int) (good:Nat) (hgd:good<k.allerg.length) (hd:DayOk k ds fun g=>getI cs (g:Int)) (hl:cs.length=ds.length) :
  Fn Tryz.prog 138 [.agg k.cells,.sl (intRows ds),.sl (intRows cs),.i (good:Int)] (.i (needG k ds (fun g=>getI cs (g:Int)) good ds.length)):=by
 have hdl:=hd.len
 obtain ⟨f,hf⟩:∃ f:Nat→Int,f=needG k ds (fun g=>getI cs (g:Int)) good:=⟨_,rfl⟩
 have hf0:f 0=0:=by rw [hf];rfl
 have hfs:∀ i,f (i + 1)=f i + getI (dishAt k (getI ds (i:Int))).needs (good:Int) * getI cs (i:Int):=fun i=>by rw [hf];rfl
 have hfr:∀ i,i≤ds.length→0≤f i∧f i≤500000 * i:=fun i hi=>by rw [hf];exact z188 hg hd good i hi
 rw [← hf]
 have hng:¬ ((good:Int)<0):=by omega
 refine z14 37 Tryz.call138 Tryz.func138 rfl (by decide) fun J=>?_
 simp only [go_sem,St.start,Tryz.ntmps138,Tryz.results138,Kitchen.cells]
 repeat (first | refine nx ?_ | (refine z10 fun K hK=>?_;simp only [go_sem];apply hK;clear hK K))
 refine z15 (fun (i:Nat)=>[(10,.d (.i (i:Int))),(9,.d (.i (f i)))]) (fun _=>[]) (fun i=>i≤ds.length) (fun i=>ds.length - i) 0 ?_ (Nat.zero_le _) ?_
 ·rw [hf0]
  simp only [go_sem]
  refine weA ?_ ?_ <;> simp
  all_goals first | done | rfl | trace_state
 ·intro i hi
  simp only [go_sem]
  repeat (first | refine nx ?_ | (refine z10 fun K hK=>?_;simp only [go_sem,z36];apply hK;clear hK K))
  refine z13 rfl (fun hb=>?_) (fun hb=>?_)
  ·have hlt:i<ds.length:=by simpa using hb
   have hw:IntKind.i64.wrap ((i:Int) + 1)=((i + 1:Nat):Int):=by rw [z17 (by omega)];simp
   obtain ⟨n,hn,hnl⟩:=hd.dish i hlt
   have g1:=z38 hn
   have gd:=z538 hnl
   have hnl2:=z300 hg hnl
   have e:getI ds (i:Int)=n:=by rw [getI,Int.toNat_natCast,List.getD,hn];rfl
   have hq:=z358 hg hnl (good:Int)
   have hfi:=hfs i
   rw [e] at hfi
   have gc:=z27 (l:=cs) (i:=i) (by omega)
   obtain ⟨N,hN⟩:∃ N,N=(dishAt k (n:Int)).needs:=⟨_,rfl⟩
   rw [← hN] at hnl2 gd hq hfi
   have gN:=z27 (l:=N) (i:=good) (by omega)
   have hcr:=hd.cnt i hlt
   have r1:=hfr i hi
   have m1:0≤getI N (good:Int) * getI cs (i:Int):=Int.mul_nonneg hq.1 hcr.1
   have m2:getI N (good:Int) * getI cs (i:Int)≤5000 * 100:=Int.mul_le_mul hq.2 hcr.2 hcr.1 (by decide)
   have e1:IntKind.i64.wrap (getI N (good:Int) * getI cs (i:Int))=getI N (good:Int) * getI cs (i:Int):=z17 (by omega)
   have e2:IntKind.i64.wrap (f i + getI N (good:Int) * getI cs (i:Int))=f (i + 1):=by rw [hfi];exact z17 (by omega)
   have hni:¬ ((i:Int)<0):=by omega
   have hnn:¬ ((n:Int)<0):=by omega
   repeat (first | refine nx ?_ | (refine z10 fun K hK=>?_;simp only [go_sem];apply hK;clear hK K))
   refine z16 (by kernel_rfl) (by kernel_rfl) fun K hK=>?_
   simp only [go_sem,g1,gd,gN,gc,hni,hnn,hng,e1,e2]
   refine ⟨by kernel_rfl,hK _ ?_⟩
   clear hK K
   repeat (first | refine nx ?_ | (refine z10 fun K hK=>?_;simp only [go_sem,hw];apply hK;clear hK K))
   refine ⟨rfl,i + 1,?_,hlt,by omega⟩
   refine weA ?_ ?_ <;> simp
   all_goals first | done | rfl | trace_state
  ·have he:i=ds.length:=by (have:¬ i<ds.length:=by simpa using hb);omega
   subst he
   repeat (first | refine nx ?_ | (refine z10 fun K hK=>?_;simp only [go_sem];apply hK;clear hK K))
   simp only [go_sem]
end Go.Ab
namespace Go.Ab
open Go.RowKit Go.Proofs
def sumN (f:Nat→Int):Nat→Int
 | 0=>0
 | n + 1=>sumN f n + f n
theorem z445 {f g:Nat→Int}:∀ n,(∀ i,i<n→f i=g i)→sumN f n=sumN g n
 | 0,_=>rfl
 | n + 1,h=>by rw [sumN,sumN,z445 n fun i hi=>h i (by omega),h n (by omega)]
theorem z323 {f:Nat→Int}:∀ n,(∀ i,i<n→0≤f i)→0≤sumN f n
 | 0,_=>Int.le_refl _
 | n + 1,h=>by
  have h1:=z323 n fun i hi=>h i (by omega)
  have h2:=h n (by omega)
  rw [sumN]
  omega
theorem z231 (l:List Int) (i:Nat):getI l (i:Int)=l.getD i 0:=by rw [getI,Int.toNat_natCast]
theorem z95 {l:List Int} {i:Nat} (hi:i<l.length) (x:Int) (j:Nat):getI (l.set i x) (j:Int)=if j=i then x else getI l (j:Int):=by
 rw [z231,z231,List.getD_eq_getElem?_getD,List.getD_eq_getElem?_getD,List.getElem?_set]
 by_cases h:i=j
 ·subst h;rw [if_pos rfl,if_pos hi,if_pos rfl];rfl
 ·rw [if_neg h,if_neg (fun e=>h e.symm)]
def wOf (k:Kitchen) (q:Int→Bool) (l:List Int):Int:=sumN (fun i=>if q (batAt k i).good then getI l (i:Int) else 0) k.batches.length
theorem z738 {k:Kitchen} {q:Int→Bool} {l:List Int} {i:Nat} (hi:i<k.batches.length) (hl:l.length=k.batches.length) (x:Int):wOf k q (l.set i x)=wOf k q l + if q (batAt k i).good then x - getI l (i:Int) else 0:=by
 have key:∀ n,sumN (fun j=>if q (batAt k j).good then getI (l.set i x) (j:Int) else 0) n=sumN (fun j=>if q (batAt k j).good then getI l (j:Int) else 0) n + if i<n then (if q (batAt k i).good then x - getI l (i:Int) else 0) else 0:=by
  intro n
  induction n with
  | zero=>simp [sumN]
  | succ n ih =>
   rw [sumN,sumN,ih,z95 (by omega)]
   by_cases h:n=i
   ·subst h
    rw [if_neg (Nat.lt_irrefl _),if_pos (Nat.lt_succ_self _),if_pos rfl]
    split <;> omega
   ·rw [if_neg h]
    by_cases h2:i<n
    ·simp only [if_pos h2,if_pos (show i<n + 1 by omega)]
     rw [Int.add_right_comm]
    ·simp only [if_neg h2,if_neg (show ¬ i<n + 1 by omega),Int.add_zero]
 rw [wOf,key,if_pos hi]
 rfl
theorem z912 {k:Kitchen} {good:Nat} {q:Int→Bool} {a:List Int × Int} {i:Nat} (hi:i<k.batches.length) (hl:a.1.length=k.batches.length) :
  wOf k q (takeStep k good a i).1=wOf k q a.1 - if q good then a.2 - (takeStep k good a i).2 else 0:=by
 unfold takeStep
 split
 ·rename_i hg
  dsimp only
  rw [z738 hi hl,hg]
  split <;> omega
 ·split <;> omega
theorem z1000 {k:Kitchen} {good:Nat} {q:Int→Bool}:∀ (o:List Nat) {a:List Int × Int},(∀ x ∈ o,x<k.batches.length)→a.1.length=k.batches.length →
  wOf k q (o.foldl (takeStep k good) a).1=wOf k q a.1 - if q good then a.2 - (o.foldl (takeStep k good) a).2 else 0
 | [],a,_,_=>by simp
 | i::o,a,ho,hl=>by
  have hlen:(takeStep k good a i).1.length=k.batches.length:=by
   unfold takeStep
   split
   ·simpa using hl
   ·exact hl
  rw [List.foldl_cons,z1000 o (fun x hx=>ho x (by simp [hx])) hlen,z912 (ho i (by simp)) hl]
  split <;> omega
theorem z672 {needs:List Int} (hn:∀ x ∈ needs,0≤x) (g:Nat):0≤getI needs (g:Int):=by
 unfold getI List.getD
 cases hy:needs[((g:Int)).toNat]? with
 | none=>simp
 | some y=>exact hn y (List.mem_of_getElem? hy)
theorem z899 {k:Kitchen} {day:Int} {l:List Int} {w:Int} (hl:l.length=k.batches.length) (ha:AmtOk l):∀ j,j≤k.batches.length →
  (wOf k (fun _=>true) (clrTo k day l w j).1 + (clrTo k day l w j).2=wOf k (fun _=>true) l + w)∧(∀ q,wOf k q (clrTo k day l w j).1≤wOf k q l)∧(∀ i:Nat,getI (clrTo k day l w j).1 (i:Int)≤getI l (i:Int)) ∧
   (∀ i:Nat,i<j→(batAt k i).last<day→getI (clrTo k day l w j).1 (i:Int)=0)∧(∀ i:Nat,i<k.batches.length→¬ (batAt k i).last<day→getI (clrTo k day l w j).1 (i:Int)=getI l (i:Int))
 | 0,_=>⟨rfl,fun q=>Int.le_refl _,fun i=>Int.le_refl _,fun i h=>by omega,fun _ _ _=>rfl⟩
 | j + 1,hj=>by
  obtain ⟨h1,h2,h3,h4,h5⟩:=z899 (day:=day) (w:=w) hl ha j (by omega)
  have hlj:=z45 k day l w j
  obtain ⟨k1,k2,k3⟩:=z55 (k:=k) (day:=day) (w:=w) ha j
  rw [clrTo]
  split
  ·rename_i hlast
   have hg:=k1.get (j:Int)
   dsimp only
   refine ⟨?_,fun q=>?_,fun i=>?_,fun i hi hlt=>?_,fun i hi hnl=>?_⟩
   ·rw [z738 (by omega) (by omega),if_pos rfl]
    omega
   ·rw [z738 (by omega) (by omega)]
    have:=h2 q
    split <;> omega
   ·rw [z95 (by omega)]
    split
    ·rename_i e
     subst e
     exact (ha.get _).1
    ·exact h3 i
   ·rw [z95 (by omega)]
    split
    ·rfl
    ·exact h4 i (by omega) hlt
   ·rw [z95 (by omega)]
    split
    ·rename_i e
     subst e
     exact absurd hlast hnl
    ·exact h5 i hi hnl
  ·rename_i hlast
   refine ⟨h1,h2,h3,fun i hi hlt=>?_,h5⟩
   by_cases e:i=j
   ·subst e;exact absurd hlt hlast
   ·exact h4 i (by omega) hlt
theorem z888 (k:Kitchen) (M:List (List Int)) (cnt:Nat→Nat→Int):∀ n,lastD k M cnt n≤n
 | 0=>Nat.le_refl _
 | n + 1=>by
  rw [lastD]
  split
  ·exact Nat.le_refl _
  ·exact Nat.le_succ_of_le (z888 k M cnt n)
structure Kept (k:Kitchen) (M:List (List Int)) (cnt:Nat→Nat→Int) (d:Nat) (a:List Int × Int):Prop where
 total:wOf k (fun _=>true) (amtK k)=wOf k (fun _=>true) a.1 + a.2 + sumN (fun e=>sumN (fun g=>getI (needD k M cnt e) (g:Int)) k.allerg.length) d
 good:∀ g:Nat,g<k.allerg.length→wOf k (fun x=>decide (x=(g:Int))) a.1 + sumN (fun e=>getI (needD k M cnt e) (g:Int)) d≤wOf k (fun x=>decide (x=(g:Int))) (amtK k)
 le:∀ i:Nat,getI a.1 (i:Int)≤getI (amtK k) (i:Int)
 dead:∀ i:Nat,i<k.batches.length→(batAt k i).last<(d:Int) - 1→getI a.1 (i:Int)≤0
end Go.Ab
namespace Go.Ab
open Go.RowKit Go.Proofs
set_option maxHeartbeats 16000000
set_option maxRecDepth 20000
attribute [local irreducible] WalkL Walk
theorem z1150 {k:Kitchen} (hg:KitGood k) {i:Nat} (h:i<k.batches.length):(0≤(batAt k i).good∧(batAt k i).good<k.allerg.length)∧(0≤(batAt k i).amount∧(batAt k i).amount≤1000000)∧(0≤(batAt k i).last∧(batAt k i).last≤30):=by
 have:batAt k i ∈ k.batches:=by rw [batAt,List.getD_eq_getElem?_getD,List.getElem?_eq_getElem h];exact List.getElem_mem h
 exact hg.batch _ this
theorem z652 {M:List (List Int)} {j:Nat} (h:j<M.length):(listRows M)[j]?=some [.sl (intRows (M.getD j []))]:=by
 have e:M.getD j []=M[j]:=by rw [List.getD_eq_getElem?_getD,List.getElem?_eq_getElem h];rfl
 rw [e]
 exact z40 (List.getElem?_eq_getElem h)
structure KeptN (k:Kitchen) (G n D:Nat) (A L:Nat→Int) (W:Int) (nd:Nat→Nat→Int):Prop where
 amt:∀ i,i<n→0≤A i∧A i≤1000000
 left:∀ i,i<n→0≤L i∧L i≤A i
 waste:0≤W∧W≤100000000
 need:∀ d g,d<D→g<G→0≤nd d g∧nd d g≤1500000
 total:sumN A n=sumN L n + W + sumN (fun g=>sumN (fun d=>nd d g) D) G
 good:∀ g,g<G→sumN (fun d=>nd d g) D≤sumN (fun i=>if (batAt k i).good=(g:Int) then A i - L i else 0) n
 dead:∀ i,i<n→D=k.days.length→(batAt k i).last<(D:Int) - 1→L i≤0
end Go.Ab
namespace Go.Ab
open Go.RowKit Go.Proofs
theorem z449 (f:Nat→Int):∀ (j:Nat) (P:List Nat) (x:Nat) (T:List Nat),P.length=j →
  ∃ P1 P2,P=P1++P2∧sinkN f (P++x::T) j=P1++x::P2++T∧(∀ y ∈ P2,f x<f y)∧(P1=[]∨∃ Q y,P1=Q++[y]∧¬ f x<f y)
 | 0,P,x,T,h=>by
  rw [List.length_eq_zero_iff] at h
  subst h
  exact ⟨[],[],rfl,rfl,(fun y hy=>by cases hy),.inl rfl⟩
 | j + 1,P,x,T,h=>by
  have hne:P≠[]:=by intro e;subst e;simp at h
  obtain ⟨Q,y,rfl⟩:∃ Q y,P=Q++[y]:=⟨P.dropLast,P.getLast hne,(List.dropLast_concat_getLast hne).symm⟩
  have hQ:Q.length=j:=by simpa using h
  have g1:(Q++[y]++x::T).getD (j + 1) 0=x:=by
   rw [List.getD_eq_getElem?_getD,List.append_assoc,List.getElem?_append_right (by omega),hQ]
   simp
  have g0:(Q++[y]++x::T).getD j 0=y:=by
   rw [List.getD_eq_getElem?_getD,List.append_assoc,List.getElem?_append_right (by omega),hQ]
   simp
  rw [sinkN,g1,g0]
  by_cases hlt:f x<f y
  ·rw [if_pos hlt]
   have hsw:swapN (Q++[y]++x::T) j=Q++x::(y::T):=by
    rw [swapN,g1,g0,List.append_assoc,List.set_append_right _ _ (by omega),List.set_append_right _ _ (by omega),hQ]
    simp
   rw [hsw]
   obtain ⟨P1,P2,e1,e2,e3,e4⟩:=z449 f j Q x (y::T) hQ
   refine ⟨P1,P2++[y],by rw [e1,List.append_assoc],by rw [e2];simp,fun z hz=>?_,e4⟩
   rcases List.mem_append.1 hz with hz | hz
   ·exact e3 z hz
   ·rw [List.mem_singleton.1 hz];exact hlt
  ·rw [if_neg hlt]
   exact ⟨Q++[y],[],by simp,by simp,(fun z hz=>by cases hz),.inr ⟨Q,y,rfl,hlt⟩⟩
def Ahead (f:Nat→Int) (a b:Nat):Prop:=f a<f b∨(f a=f b∧a<b)
theorem z457 (f:Nat→Int) (n:Nat):∀ i,i<n→∃ S,insN f (List.range n) i=S++List.range' (i + 1) (n - (i + 1))∧S.Perm (List.range (i + 1))∧S.Pairwise (Ahead f)
 | 0,h=>by
  refine ⟨[0],?_,List.Perm.refl _,by simp⟩
  rw [insN,List.range_eq_range',show n=(n - 1) + 1 by omega,List.range'_succ]
  simp
 | i + 1,h=>by
  obtain ⟨S,e1,e2,e3⟩:=z457 f n i (by omega)
  have hl:S.length=i + 1:=by rw [e2.length_eq,List.length_range]
  rw [insN,e1,show n - (i + 1)=(n - (i + 1 + 1)) + 1 by omega,List.range'_succ]
  obtain ⟨P1,P2,p1,p2,p3,p4⟩:=z449 f (i + 1) S (i + 1) (List.range' (i + 1 + 1) (n - (i + 1 + 1))) hl
  subst p1
  have hlt:∀ z ∈ P1++P2,z<i + 1:=fun z hz=>List.mem_range.1 (e2.mem_iff.1 hz)
  refine ⟨P1++(i + 1)::P2,by rw [p2],?_,?_⟩
  ·rw [List.range_succ]
   exact List.perm_middle.trans ((e2.cons (i + 1)).trans (List.perm_append_comm (l₁:=[i + 1])))
  ·rw [List.pairwise_append] at e3 ⊢
   obtain ⟨a1,a2,a3⟩:=e3
   have hle:∀ a ∈ P1,f a≤f (i + 1):=fun a ha=>by
    rcases p4 with p4 | ⟨Q,y,rfl,hny⟩
    ·rw [p4] at ha;cases ha
    ·rcases List.mem_append.1 ha with hq | hq
     ·rw [List.pairwise_append] at a1
      have:=a1.2.2 a hq y (by simp)
      rcases this with h1 | h1 <;> omega
     ·rw [List.mem_singleton.1 hq];omega
   refine ⟨a1,List.pairwise_cons.2 ⟨fun b hb=>.inl (p3 b hb),a2⟩,fun a ha b hb=>?_⟩
   rcases List.mem_cons.1 hb with rfl | hb
   ·have h1:=hle a ha
    have h2:=hlt a (by simp [ha])
    by_cases e:f a=f (i + 1)
    ·exact .inr ⟨e,h2⟩
    ·exact .inl (by omega)
   ·exact a3 a ha b hb
theorem z205 (k:Kitchen):(ordK k).Perm (List.range k.batches.length)∧(ordK k).Pairwise (Ahead fun i=>(batAt k i).last):=by
 unfold ordK
 obtain ⟨n,hn⟩:∃ n,n=k.batches.length:=⟨_,rfl⟩
 rw [← hn]
 cases n with
 | zero=>exact ⟨List.Perm.refl _,List.Pairwise.nil⟩
 | succ n =>
  obtain ⟨S,e1,e2,e3⟩:=z457 (fun i=>(batAt k i).last) (n + 1) n (by omega)
  rw [Nat.add_sub_cancel,e1,Nat.sub_self,List.range'_zero,List.append_nil]
  exact ⟨e2,e3⟩
def sumO (f:Nat→Int):List Nat→Int
 | []=>0
 | i::o=>f i + sumO f o
theorem z1007 {f:Nat→Int} {a b:List Nat} (h:a.Perm b):sumO f a=sumO f b:=by
 induction h with
 | nil=>rfl
 | cons x _ ih=>rw [sumO,sumO,ih]
 | swap x y l=>simp only [sumO];omega
 | trans _ _ h1 h2=>rw [h1,h2]
theorem z322 (f:Nat→Int):∀ a b,sumO f (a++b)=sumO f a + sumO f b
 | [],b=>by simp [sumO]
 | x::a,b=>by rw [List.cons_append,sumO,sumO,z322 f a b];omega
theorem z444 (f:Nat→Int):∀ n,sumO f (List.range n)=sumN f n
 | 0=>rfl
 | n + 1=>by rw [List.range_succ,z322,z444 f n,sumN];simp [sumO]
theorem z135 {f g:Nat→Int}:∀ o,(∀ i ∈ o,f i=g i)→sumO f o=sumO g o
 | [],_=>rfl
 | x::o,h=>by rw [sumO,sumO,h x (by simp),z135 o fun i hi=>h i (by simp [hi])]
theorem z1008 {f g:Nat→Int}:∀ o,(∀ i ∈ o,f i≤g i)→sumO f o≤sumO g o
 | [],_=>Int.le_refl _
 | x::o,h=>by
  have:=h x (by simp)
  have:=z1008 o fun i hi=>h i (by simp [hi])
  rw [sumO,sumO];omega
theorem z321 {f:Nat→Int}:∀ o,(∀ i ∈ o,0≤f i)→0≤sumO f o
 | [],_=>Int.le_refl _
 | x::o,h=>by
  have:=h x (by simp)
  have:=z321 o fun i hi=>h i (by simp [hi])
  rw [sumO];omega
def vO (k:Kitchen) (g:Nat) (t:Int) (l:List Int) (o:List Nat):Int:=sumO (fun i=>if (batAt k i).good=(g:Int)∧t≤(batAt k i).last then getI l (i:Int) else 0) o
theorem vO_set {k:Kitchen} {g:Nat} {t:Int} {l:List Int} {i:Nat} {x:Int} (hi:i<l.length) {o:List Nat} (ho:i ∉ o):vO k g t (l.set i x) o=vO k g t l o:=z135 o fun j hj=>by
 have e:getI (l.set i x) (j:Int)=getI l (j:Int):=by rw [z95 hi,if_neg (fun e=>ho (by rw [← e];exact hj))]
 rw [e]
theorem z240 (k:Kitchen) (g:Nat) (t:Int) (l:List Int) (i:Nat) (o:List Nat):vO k g t l (i::o)=(if (batAt k i).good=(g:Int)∧t≤(batAt k i).last then getI l (i:Int) else 0) + vO k g t l o:=rfl
theorem z994 {k:Kitchen} {g:Nat} {t:Int} {l:List Int} (h:AmtOk l) (o:List Nat):0≤vO k g t l o:=z321 o fun i _=>by
 have:=(h.get (i:Int)).1
 split <;> omega
theorem z1157 {k:Kitchen} {g:Nat} {t u:Int} (htu:t≤u) {l:List Int} (h:AmtOk l) (o:List Nat):vO k g u l o≤vO k g t l o:=z1008 o fun i _=>by
 have:=(h.get (i:Int)).1
 by_cases h1:(batAt k i).good=(g:Int)∧u≤(batAt k i).last
 ·rw [if_pos h1,if_pos ⟨h1.1,by omega⟩];exact Int.le_refl _
 ·rw [if_neg h1]
  split <;> omega
theorem z472 {k:Kitchen} {g:Nat}:∀ (o:List Nat) (l:List Int) (m:Int),o.Nodup→o.Pairwise (Ahead fun i=>(batAt k i).last)→(∀ x ∈ o,x<l.length)→AmtOk l→0≤m→(∀ i ∈ o,0≤(batAt k i).last)→m≤vO k g 0 l o →
  (o.foldl (takeStep k g) (l,m)).2=0∧∀ t:Int,0≤t→vO k g t (o.foldl (takeStep k g) (l,m)).1 o=min (vO k g t l o) (vO k g 0 l o - m)
 | [],l,m,_,_,_,_,hm,_,h=>by
  simp only [vO,sumO] at h ⊢
  have:m=0:=by omega
  subst this
  exact ⟨rfl,fun t _=>rfl⟩
 | i::o,l,m,hnd,hp,hx,ha,hm,hlast,h=>by
  rw [List.nodup_cons] at hnd
  rw [List.pairwise_cons] at hp
  have hil:=hx i (by simp)
  have hli:=ha.get (i:Int)
  rw [List.foldl_cons]
  -- one step
  obtain ⟨s1,s2,s3,s4⟩:=z117 (k:=k) (good:=g) (a:=(l,m)) (i:=i) ha hm
  have hkeep:∀ (a:List Int × Int) (o:List Nat),i ∉ o→i<a.1.length→(∀ x ∈ o,x<a.1.length)→getI (o.foldl (takeStep k g) a).1 (i:Int)=getI a.1 (i:Int):=by
   intro a o
   induction o generalizing a with
   | nil=>intro _ _ _;rfl
   | cons j o ih =>
    intro hni hia hxo
    rw [List.foldl_cons]
    have hlen:(takeStep k g a j).1.length=a.1.length:=by unfold takeStep;split <;> simp
    rw [ih _ (fun hc=>hni (by simp [hc])) (by rw [hlen];exact hia) (fun x hx=>by rw [hlen];exact hxo x (by simp [hx]))]
    unfold takeStep
    split
    ·rw [z95 (hxo j (by simp)),if_neg (fun e=>hni (by simp [e]))]
    ·rfl
  by_cases hg:(batAt k i).good=(g:Int)
  ·have hstep:takeStep k g (l,m) i=(l.set i (getI l (i:Int) - min m (getI l (i:Int))),m - min m (getI l (i:Int))):=by rw [takeStep,if_pos hg]
   rw [hstep] at s1 s2 s3 ⊢
   dsimp only at s1 s2 s3
   obtain ⟨x,hxd⟩:∃ x,x=min m (getI l (i:Int)):=⟨_,rfl⟩
   rw [← hxd] at s1 s2 s3 ⊢
   have hx1:0≤x∧x≤m∧x≤getI l (i:Int):=by omega
   have hv0:∀ t,vO k g t (l.set i (getI l (i:Int) - x)) o=vO k g t l o:=fun t=>vO_set hil hnd.1
   have h0:vO k g 0 l (i::o)=getI l (i:Int) + vO k g 0 l o:=by rw [z240,if_pos ⟨hg,hlast i (by simp)⟩]
   rw [h0] at h
   have hno:=z994 (k:=k) (g:=g) (t:=0) ha o
   obtain ⟨r1,r2⟩:=z472 o (l.set i (getI l (i:Int) - x)) (m - x) hnd.2 hp.2 (fun y hy=>by rw [s2];exact hx y (by simp [hy])) s1 s3 (fun y hy=>hlast y (by simp [hy])) (by rw [hv0];omega)
   refine ⟨r1,fun t ht=>?_⟩
   have hk:=hkeep (l.set i (getI l (i:Int) - x),m - x) o hnd.1 (by rw [s2];exact hil) (fun y hy=>by rw [s2];exact hx y (by simp [hy]))
   rw [z95 hil,if_pos rfl] at hk
   have r2t:=r2 t ht
   rw [hv0,hv0] at r2t
   have hmono:=z1157 (k:=k) (g:=g) ht ha o
   by_cases hl2:t≤(batAt k i).last
   ·have z39:vO k g t l o=vO k g 0 l o:=z135 o fun j hj=>by
     have:(batAt k i).last≤(batAt k j).last:=by
      have q:=hp.1 j hj
      simp only [Ahead] at q
      omega
     by_cases hgj:(batAt k j).good=(g:Int)
     ·rw [if_pos ⟨hgj,by omega⟩,if_pos ⟨hgj,by omega⟩]
     ·rw [if_neg (fun e=>hgj e.1),if_neg (fun e=>hgj e.1)]
    rw [z240,z240,if_pos ⟨hg,hl2⟩,if_pos ⟨hg,hl2⟩,hk,r2t,h0]
    omega
   ·rw [z240,z240,if_neg (fun e=>hl2 e.2),if_neg (fun e=>hl2 e.2),r2t,h0]
    omega
  ·have hstep:takeStep k g (l,m) i=(l,m):=by rw [takeStep,if_neg hg]
   rw [hstep]
   have h0:∀ (t:Int) (c:List Int),vO k g t c (i::o)=vO k g t c o:=fun t c=>by rw [z240,if_neg (fun e=>hg e.1),Int.zero_add]
   rw [h0] at h
   obtain ⟨r1,r2⟩:=z472 o l m hnd.2 hp.2 (fun y hy=>hx y (by simp [hy])) ha hm (fun y hy=>hlast y (by simp [hy])) h
   exact ⟨r1,fun t ht=>by rw [h0,h0,h0];exact r2 t ht⟩
end Go.Ab
namespace Go.Ab
open Go.RowKit Go.Proofs
def vK (k:Kitchen) (g:Nat) (t:Int) (l:List Int):Int:=vO k g t l (List.range k.batches.length)
theorem z995 (k:Kitchen) (g:Nat) (t:Int) (l:List Int):vO k g t l (ordK k)=vK k g t l:=z1007 (z205 k).1
theorem z245 {k:Kitchen} {g good:Nat} (hne:g≠good) (t:Int) (p:List Nat):∀ (o:List Nat) (a:List Int × Int),(∀ x ∈ o,x<a.1.length)→vO k g t (o.foldl (takeStep k good) a).1 p=vO k g t a.1 p
 | [],a,_=>rfl
 | i::o,a,h=>by
  have hlen:(takeStep k good a i).1.length=a.1.length:=by unfold takeStep;split <;> simp
  rw [List.foldl_cons,z245 hne t p o _ (fun x hx=>by rw [hlen];exact h x (by simp [hx]))]
  unfold takeStep
  split
  ·rename_i hg
   refine z135 p fun j _=>?_
   have hil:=h i (by simp)
   by_cases e:j=i
   ·subst e
    rw [if_neg (fun c=>hne (by have:=c.1;omega)),if_neg (fun c=>hne (by have:=c.1;omega))]
   ·have e2:=z95 hil (getI a.1 (i:Int) - min a.2 (getI a.1 (i:Int))) j
    rw [if_neg e] at e2
    dsimp only
    rw [e2]
  ·rfl
theorem z443 {k:Kitchen} (hg:KitGood k) {needs C:List Int} (hl:C.length=k.batches.length) (ha:AmtOk C) (hn:∀ x ∈ needs,0≤x):∀ G,
  ((takeTo k (ordK k) needs C G).isSome=true↔∀ g,g<G→getI needs (g:Int)≤vK k g 0 C) ∧
    ∀ c,takeTo k (ordK k) needs C G=some c→(∀ g,g<G→∀ t:Int,0≤t→vK k g t c=min (vK k g t C) (vK k g 0 C - getI needs (g:Int)))∧∀ g,G≤g→∀ t:Int,vK k g t c=vK k g t C
 | 0=>⟨⟨fun _ g h=>by omega,fun _=>rfl⟩,fun c hc=>by cases hc;exact ⟨fun g h=>by omega,fun _ _ _=>rfl⟩⟩
 | G + 1=>by
  obtain ⟨ih1,ih2⟩:=z443 hg hl ha hn G
  obtain ⟨o1,o2⟩:=z205 k
  have hnd:(ordK k).Nodup:=o1.nodup_iff.2 List.nodup_range
  rw [takeTo]
  cases hx:takeTo k (ordK k) needs C G with
  | none =>
   rw [hx] at ih1
   refine ⟨⟨(fun h=>by cases h),fun h=>?_⟩,(fun c hc=>by cases hc)⟩
   have:=ih1.2 fun g hgl=>h g (by omega)
   cases this
  | some d =>
   obtain ⟨d1,d2⟩:=z116 ha hn G d hx
   obtain ⟨v1,v2⟩:=ih2 d hx
   rw [hx] at ih1
   have i1:=ih1.1 rfl
   have hng:=z672 hn G
   have hxl:∀ x ∈ ordK k,x<d.length:=fun x hx=>by rw [d2,hl];exact z49 hx
   have hw:=z1000 (k:=k) (good:=G) (q:=fun x=>decide (x=(G:Int))) (ordK k) (a:=(d,getI needs (G:Int))) (fun x hx=>z49 hx) (by rw [d2,hl])
   obtain ⟨k1,k2,k3,k4⟩:=z293 (k:=k) (good:=G) (ordK k) (a:=(d,getI needs (G:Int))) d1 hng
   have hv0:vK k G 0 d=wOf k (fun x=>decide (x=(G:Int))) d:=by
    rw [vK,vO,z444,wOf]
    refine z445 _ fun i hi=>?_
    have:=(z1150 hg hi).2.2.1
    by_cases e:(batAt k i).good=(G:Int)
    ·rw [if_pos ⟨e,this⟩,if_pos (decide_eq_true e)]
    ·rw [if_neg (fun c=>e c.1),if_neg (by simpa using e)]
   have hpos:0≤wOf k (fun x=>decide (x=(G:Int))) ((ordK k).foldl (takeStep k G) (d,getI needs (G:Int))).1:=z323 _ fun i _=>by
    have:=(k1.get (i:Int)).1
    split <;> omega
   dsimp only at hw ⊢
   rw [if_pos (decide_eq_true rfl)] at hw
   have edf:=fun h=>z472 (k:=k) (g:=G) (ordK k) d (getI needs (G:Int)) hnd o2 hxl d1 hng (fun i hi=>(z1150 hg (z49 hi)).2.2.1) h
   rw [z995] at edf
   have hvG:=v2 G (Nat.le_refl _) 0
   by_cases hz:(takeG k (ordK k) G d (getI needs (G:Int))).2 > 0
   ·rw [if_pos hz]
    refine ⟨⟨(fun h=>by cases h),fun h=>?_⟩,(fun c hc=>by cases hc)⟩
    have:=(edf (by rw [hvG];exact h G (by omega))).1
    unfold takeG at hz
    omega
   ·rw [if_neg hz]
    have hm:((ordK k).foldl (takeStep k G) (d,getI needs (G:Int))).2=0:=by unfold takeG at hz;omega
    rw [hm] at hw
    have hle:getI needs (G:Int)≤vK k G 0 d:=by omega
    refine ⟨⟨fun _ g hgl=>?_,fun _=>rfl⟩,fun c hc=>?_⟩
    ·by_cases e:g=G
     ·subst e;rw [← hvG];exact hle
     ·exact i1 g (by omega)
    ·cases hc
     refine ⟨fun g hgl t ht=>?_,fun g hgl t=>?_⟩
     ·by_cases e:g=G
      ·subst e
       have:=(edf hle).2 t ht
       rw [z995,z995] at this
       rw [takeG,this,v2 g (Nat.le_refl _),v2 g (Nat.le_refl _)]
      ·have:=z245 (k:=k) (g:=g) (good:=G) e t (List.range k.batches.length) (ordK k) (d,getI needs (G:Int)) hxl
       rw [takeG]
       exact this.trans (v1 g (by omega) t ht)
     ·have:=z245 (k:=k) (g:=g) (good:=G) (by omega) t (List.range k.batches.length) (ordK k) (d,getI needs (G:Int)) hxl
      rw [takeG]
      exact this.trans (v2 g (by omega) t)
theorem clr_v {k:Kitchen} {d:Nat} {l:List Int} {w:Int} (hl:l.length=k.batches.length) (ha:AmtOk l) (g:Nat) (t:Int):vK k g t (clrTo k (d:Int) l w k.batches.length).1=vK k g (max t (d:Int)) l:=by
 obtain ⟨_,_,_,h4,h5⟩:=z899 (day:=(d:Int)) (w:=w) hl ha k.batches.length (Nat.le_refl _)
 refine z135 _ fun i hi=>?_
 have hi:=List.mem_range.1 hi
 by_cases hd:(batAt k i).last<(d:Int)
 ·rw [h4 i hi hd,if_neg (fun c:(batAt k i).good=(g:Int)∧max t (d:Int)≤(batAt k i).last=>by have:=c.2;omega)]
  split <;> rfl
 ·rw [h5 i hi hd]
  by_cases hc:(batAt k i).good=(g:Int)∧t≤(batAt k i).last
  ·rw [if_pos hc,if_pos ⟨hc.1,by have:=hc.2;omega⟩]
  ·rw [if_neg hc,if_neg (fun c=>hc ⟨c.1,by have:=c.2;omega⟩)]
def sumF (f:Nat→Int):Nat→Nat→Int
 | _,0=>0
 | t,c + 1=>f t + sumF f (t + 1) c
theorem z324 {f:Nat→Int}:∀ c t,(∀ i,t≤i→i<t + c→0≤f i)→0≤sumF f t c
 | 0,_,_=>Int.le_refl _
 | c + 1,t,h=>by
  have:=h t (Nat.le_refl _) (by omega)
  have:=z324 (f:=f) c (t + 1) fun i h1 h2=>h i (by omega) (by omega)
  rw [sumF];omega
theorem z513 {f:Nat→Int} {t D:Nat} (h:t<D):sumF f t (D - t)=f t + sumF f (t + 1) (D - (t + 1)):=by
 rw [show D - t=(D - (t + 1)) + 1 by omega,sumF]
theorem z1009 {f:Nat→Int} {D:Nat} {d:Nat} (h:∀ i,d≤i→i<D→0≤f i):∀ j,d + j≤D→sumF f (d + j) (D - (d + j))≤sumF f d (D - d)
 | 0,_=>Int.le_refl _
 | j + 1,hj=>by
  have ih:=z1009 h j (by omega)
  rw [z513 (show d + j<D by omega)] at ih
  have:=h (d + j) (by omega) (by omega)
  rw [show d + (j + 1)=d + j + 1 by omega]
  omega
structure DayStep (k:Kitchen) (l l':List Int) (d:Nat) (nd:Nat→Int):Prop where
 val:∀ g,g<k.allerg.length→∀ t:Nat,d≤t→vK k g (t:Int) l'=min (vK k g (t:Int) l) (vK k g (d:Int) l - nd g)
theorem z1097 {k:Kitchen} (hg:KitGood k) {M:List (List Int)} (hM:shapedB (menuB k) M k.days=true) {cnt:Nat→Nat→Int} (hc:CntOk k cnt) {d:Nat} {b:List Int × Int} (hd:d<M.length) (hb:runSt k M cnt d=some b) :
  ((runSt k M cnt (d + 1)).isSome=true↔∀ g,g<k.allerg.length→getI (needD k M cnt d) (g:Int)≤vK k g (d:Int) b.1) ∧
    ∀ a,runSt k M cnt (d + 1)=some a→DayStep k b.1 a.1 d fun g=>getI (needD k M cnt d) (g:Int):=by
 obtain ⟨r1,r2,r3,r4⟩:=z223 hg hM hc d b (by omega) hb
 obtain ⟨r,hr⟩:∃ r,M[d]?=some r:=⟨_,List.getElem?_eq_getElem hd⟩
 obtain ⟨_,_,hdo⟩:=z147 hg hM hc hr
 have hnd:needD k M cnt d=needL k r (cnt d):=by rw [needD,List.getD,hr];rfl
 have hn0:∀ x ∈ needD k M cnt d,0≤x:=fun x hx=>by rw [hnd] at hx;exact (z58 hg hdo x hx).1
 obtain ⟨c1,c2,c3⟩:=z55 (k:=k) (day:=(d:Int)) (w:=b.2) r1 k.batches.length
 have c4:=z45 k (d:Int) b.1 b.2 k.batches.length
 obtain ⟨t1,t2⟩:=z443 hg (C:=(clrTo k (d:Int) b.1 b.2 k.batches.length).1) (by omega) c1 hn0 k.allerg.length
 have hv:∀ g t,vK k g t (clrTo k (d:Int) b.1 b.2 k.batches.length).1=vK k g (max t (d:Int)) b.1:=fun g t=>clr_v r2 r1 g t
 have e:runSt k M cnt (d + 1)=(takeTo k (ordK k) (needD k M cnt d) (clrTo k (d:Int) b.1 b.2 k.batches.length).1 k.allerg.length).map fun l=>(l,(clrTo k (d:Int) b.1 b.2 k.batches.length).2):=by rw [runSt,hb];rfl
 rw [e]
 refine ⟨?_,fun a ha=>?_⟩
 ·rw [Option.isSome_map,t1]
  refine forall_congr' fun g=>forall_congr' fun _=>?_
  rw [hv,show max (0:Int) (d:Int)=(d:Int) by omega]
 ·obtain ⟨l,hl,rfl⟩:=Option.map_eq_some_iff.1 ha
  refine ⟨fun g hgl t ht=>?_⟩
  have:=(t2 l hl).1 g hgl (t:Int) (by omega)
  rw [hv,hv,show max (t:Int) (d:Int)=(t:Int) by omega,show max (0:Int) (d:Int)=(d:Int) by omega] at this
  exact this
def Enough (k:Kitchen) (nd:Nat→Nat→Int) (d D:Nat) (l:List Int):Prop:=∀ g,g<k.allerg.length→∀ t,d≤t→t<D→sumF (fun e=>nd e g) t (D - t)≤vK k g (t:Int) l
theorem z39 {k:Kitchen} (hg:KitGood k) {M:List (List Int)} (hM:shapedB (menuB k) M k.days=true) {cnt:Nat→Nat→Int} (hc:CntOk k cnt) {D:Nat} (hD:D≤M.length) :
  (runSt k M cnt D).isSome=true↔Enough k (fun e g=>getI (needD k M cnt e) (g:Int)) 0 D (amtK k):=by
 obtain ⟨nd,hnd⟩:∃ nd:Nat→Nat→Int,nd=fun (e g:Nat)=>getI (needD k M cnt e) (g:Int):=⟨_,rfl⟩
 rw [← hnd]
 have hn0:∀ e g,e<D→0≤nd e g:=fun e g he=>by
  rw [hnd]
  obtain ⟨r,hr⟩:∃ r,M[e]?=some r:=⟨_,List.getElem?_eq_getElem (by omega)⟩
  obtain ⟨_,_,hdo⟩:=z147 hg hM hc hr
  have h2:needD k M cnt e=needL k r (cnt e):=by rw [needD,List.getD,hr];rfl
  exact z672 (fun x hx=>by rw [h2] at hx;exact (z58 hg hdo x hx).1) g
 have step:∀ d b,d<D→runSt k M cnt d=some b→((runSt k M cnt (d + 1)).isSome=true↔∀ g,g<k.allerg.length→nd d g≤vK k g (d:Int) b.1)∧∀ a,runSt k M cnt (d + 1)=some a→DayStep k b.1 a.1 d (nd d):=fun d b hd hb=>by
  rw [hnd]
  exact z1097 hg hM hc (by omega) hb
 constructor
 ·intro h
  -- from the last day back
  have hsome:∀ s,s≤D→∃ a,runSt k M cnt s=some a:=fun s hs=>by
   cases hx:runSt k M cnt s with
   | some a=>exact ⟨a,rfl⟩
   | none=>rw [z450 hx hs] at h;cases h
  have key:∀ j,j≤D→∀ a,runSt k M cnt (D - j)=some a→Enough k nd (D - j) D a.1:=by
   intro j
   induction j with
   | zero=>intro _ a _ g _ t h1 h2;omega
   | succ j ih =>
    intro hj a ha g hgl t ht1 ht2
    obtain ⟨s,hs⟩:∃ s,s=D - (j + 1):=⟨_,rfl⟩
    have hs1:D - j=s + 1:=by omega
    rw [← hs] at ha ht1
    rw [hs1] at ih
    obtain ⟨a',ha'⟩:=hsome (s + 1) (by omega)
    obtain ⟨p1,p2⟩:=step s a (by omega) ha
    have hneed:=p1.1 (by rw [ha'];rfl) g hgl
    have hval:=(p2 a' ha').val g hgl
    have en:=ih (by omega) a' ha' g hgl
    by_cases e:t=s
    ·subst e
     rw [z513 ht2]
     by_cases e2:t + 1<D
     ·have h1:=en (t + 1) (Nat.le_refl _) e2
      have h2:=hval (t + 1) (by omega)
      omega
     ·rw [show D - (t + 1)=0 by omega,sumF]
      omega
    ·have h1:=en t (by omega) ht2
     have h2:=hval t (by omega)
     omega
  have:=key D (Nat.le_refl _) (amtK k,0) (by rw [Nat.sub_self];rfl)
  rwa [Nat.sub_self] at this
 ·intro h
  have key:∀ s,s≤D→∃ a,runSt k M cnt s=some a∧Enough k nd s D a.1:=by
   intro s
   induction s with
   | zero=>intro _;exact ⟨(amtK k,0),rfl,h⟩
   | succ s ih =>
    intro hs
    obtain ⟨a,ha,en⟩:=ih (by omega)
    obtain ⟨p1,p2⟩:=step s a (by omega) ha
    have hs2:(runSt k M cnt (s + 1)).isSome=true:=p1.2 fun g hgl=>by
     have h1:=en g hgl s (Nat.le_refl _) (by omega)
     rw [z513 (by omega:s<D)] at h1
     have h2:=z324 (f:=fun e=>nd e g) (D - (s + 1)) (s + 1) fun i h1 h2=>hn0 i g (by omega)
     omega
    obtain ⟨a',ha'⟩:=Option.isSome_iff_exists.1 hs2
    refine ⟨a',ha',fun g hgl t ht1 ht2=>?_⟩
    have hval:=(p2 a' ha').val g hgl t (by omega)
    have h1:=en g hgl t (by omega) ht2
    have h2:=en g hgl s (Nat.le_refl _) (by omega)
    rw [z513 (by omega:s<D)] at h2
    have h3:=z1009 (f:=fun e=>nd e g) (D:=D) (d:=s + 1) (fun i h1 h2=>hn0 i g h2) (t - (s + 1)) (by omega)
    rw [show s + 1 + (t - (s + 1))=t by omega] at h3
    omega
  obtain ⟨a,ha,_⟩:=key D (Nat.le_refl _)
  rw [ha]
  rfl
end Go.Ab
namespace Go.Ab
open Go.RowKit Go.Proofs
set_option maxHeartbeats 8000000
end Go.Ab
namespace Go.Ab
open Go.RowKit Go.Proofs
set_option maxHeartbeats 16000000
set_option maxRecDepth 20000
attribute [local irreducible] WalkL Walk
def badFc (k:Kitchen) (M:List (List Int)) (s:Supply) (o:Sight):Bool:=far7 k || (farRows M || (farSup s || (openK k M != 0 || (suppE s != 0 || suppE (s.more o) != 0))))
def betterCells (s:Supply) (c n:Int) (o:Sight):List DV:=[.sl (scenRows s.scen),.sl (sightRows s.seen),.i s.stock,.i s.reserve,.i s.room,.i s.use.lo,.i s.use.hi,.sl (carrRows s.carr),.i c,.i n,.i o.hour,.i o.sky.wind,.i o.sky.rain,.i o.sky.temp]
end Go.Ab
namespace Go.Ab
set_option maxHeartbeats 8000000
def boughtB (buy:List Int):List Batch:=(List.range buy.length).map fun (g:Nat)=>⟨(g:Int),getI buy (g:Int),30⟩
def moreK (k:Kitchen) (buy:List Int):Kitchen:={ k with batches:=k.batches++boughtB buy }
end Go.Ab
namespace Go.Ab
set_option maxHeartbeats 8000000
def restL (buy b:List Int):List Int:=(List.range buy.length).map fun (i:Nat)=>getI buy (i:Int) - getI b (i:Int)
theorem z537 {l:List Int} {g:Nat} {x:Int} (h:g<l.length):getI (l.set g x) (g:Int)=x:=by
 rw [getI,Int.toNat_natCast,List.getD,List.getElem?_set_self h]
 rfl
theorem z863 {l:List Int} {g i:Nat} {x:Int} (h:g≠i):getI (l.set g x) (i:Int)=getI l (i:Int):=by
 rw [getI,getI,Int.toNat_natCast,List.getD,List.getD,List.getElem?_set_ne h]
def LeL (b c:List Int):Prop:=∀ i:Nat,getI b (i:Int)≤getI c (i:Int)
theorem LeL.refl (b:List Int):LeL b b:=fun _=>Int.le_refl _
theorem LeL.trans {a b c:List Int} (h:LeL a b) (h':LeL b c):LeL a c:=fun i=>Int.le_trans (h i) (h' i)
theorem LeL.set {b:List Int} {g:Nat} {m:Int} (hm:0≤m) (hg:g<b.length):LeL b (b.set g (getI b (g:Int) + m)):=fun i=>by
 by_cases he:g=i
 ·subst he
  rw [z537 hg]
  omega
 ·rw [z863 he]
  exact Int.le_refl _
section
variable {k:Kitchen} {needs C b:List Int} {B:Int} (hC:AmtOk C) (hb:BuyOk B b) (hB:0≤B) (hn:∀ x ∈ needs,0≤x∧x≤2 ^ 40)
include hC hb hB hn
end
end Go.Ab
namespace Go.Ab
set_option maxHeartbeats 8000000
end Go.Ab
namespace Go.Ab
open Go.RowKit Go.Proofs
set_option maxHeartbeats 16000000
set_option maxRecDepth 20000
attribute [local irreducible] WalkL Walk
theorem zf11m (k:Kitchen) (hs:KitSmall k):FnG Tryz.prog 11 [] [] (List.map AV.d [.agg k.cells]) (.agg [.own 0,.own 1,.own 2,.own 3])
  [.arr 3 1 (intRows k.allerg),.arr 110 3 (batRows k.batches),.arr 69 1 (dishRows k.dishes),.arr 67 1 (dayRows k.days)]:=by
 have a1:=hs.allerg
 have a2:=hs.batches
 have a3:=hs.dishes
 have a5:=hs.days
 have e1:k.allerg.length≤549755813888:=by omega
 have e2:k.batches.length≤549755813888:=by omega
 have hcl:k.cells.length=4:=rfl
 have k0:k.cells[0]?=some (.sl (intRows k.allerg)):=rfl
 have k1:k.cells[1]?=some (.sl (batRows k.batches)):=rfl
 have k2:k.cells[2]?=some (.sl (dishRows k.dishes)):=rfl
 have k3:k.cells[3]?=some (.sl (dayRows k.days)):=rfl
 have hct:k.cells.take 4=k.cells:=rfl
 have hh:headIs 1 (intRows k.allerg)=true:=by cases k.allerg <;> rfl
 refine z65 56 Tryz.call11 Tryz.func11 rfl (by decide) [6,10,34,53] [] (by simp only [List.length_cons,List.length_nil];decide) (by kernel_rfl) fun J=>?_
 simp only [go_sem,St.startG,Tryz.ntmps11,Tryz.results11,List.map_cons,List.map_nil,List.range_succ,  Kitchen.cells]
 repeat (first | refine nx ?_ | (refine z10 fun K hK=>?_;simp only [go_sem];apply hK;clear hK K))
 refine z20 [1] ?_
 simp only [go_sem]
 refine z272 (by kernel_rfl) (by kernel_rfl) (fun m=>⟨[.d (.agg k.cells),.d (.ptr k.cells 0),.box 2 0,bif m 9 then .undef else .box 3 0,.undef,.undef,
   bif m 0 then .undef else (bif m 3 then .own 6 else .undef),sel (m 1) (.ptr k.cells 0),sel (m 2) (.sl (intRows k.allerg)),bif m 3 then .undef else .own 6,
   bif m 4 then .undef else (bif m 7 then .own 10 else .undef),sel (m 5) (.ptr k.cells 1),sel (m 6) (.sl (batRows k.batches)),bif m 7 then .undef else .own 10,
   bif m 8 then .undef else .agg [.own 6,.own 10,.nil,.nil]]++List.replicate 41 .undef,
  [none,none,some (.box [.nil,.nil,.nil,.nil]),stB (m 9) (m 10) (.box [.nil,.nil,.nil,.nil]) (.box [.own 6,.own 10,.nil,.nil]),none,none,
   stB (m 0) (m 3) (.arr 3 1 []) (.arr 3 1 (intRows k.allerg)),none,none,none,stB (m 4) (m 7) (.arr 110 3 []) (.arr 110 3 (batRows k.batches))]++List.replicate 45 none⟩) ?_ ?_ ?_
 ·simp only [go_sem]
  rfl
 ·refine ⟨?_,?_,?_,?_,?_,?_,?_,?_,?_,?_,?_,trivial⟩
  all_goals
   intro m hm hd hc
   simp only [closedM,depsM,Region.binds,true_and,and_true,Nat.zero_add,Nat.reduceAdd,reduceCtorEq,forall_const] at hc hd
   cases h0:m 0 <;> cases h3:m 3 <;> cases h4:m 4 <;> cases h7:m 7 <;> (try simp [h0,h3,h4,h7] at hc hd hm)
  all_goals
   cases h8:m 8 <;> cases h9:m 9 <;> cases h10:m 10 <;> (try simp [h0,h3,h4,h7,h8,h9,h10] at hc hd hm)
  all_goals
   refine ⟨rfl,rfl,?_⟩
   simp only [go_sem,hm,hd,h0,h3,h4,h7,h8,h9,h10,hcl,hct,k0,k1,e1,e2,hh,z725,List.nil_append,List.length_nil,Nat.zero_add]
 ·simp only [go_sem]
  repeat (first | refine nx ?_ | (refine z10 fun K hK=>?_;simp only [go_sem];apply hK;clear hK K))
  refine z15 (fun (i:Nat)=>[(4,.d (.i (i:Int)))]) (fun i=>[(3,some (.box [.own 6,.own 10,.own 34,.nil])),(34,some (.arr 69 1 (dishRows (k.dishes.take i))))]) (fun i=>i≤k.dishes.length) (fun i=>k.dishes.length - i) 0 ?_ (Nat.zero_le _) ?_
  ·simp only [go_sem]
   refine z53 [34] ?_ ?_ rfl rfl <;> simp [lessT,lessM,lessB,AV.less,dishRows]
  ·intro i hi
   simp only [go_sem]
   repeat (first | refine nx ?_ | (refine z10 fun K hK=>?_;simp only [go_sem,k2];apply hK;clear hK K))
   refine z13 rfl (fun hb=>?_) (fun hb=>?_)
   ·have hlt:i<k.dishes.length:=by simpa using hb
    have hw:IntKind.i64.wrap ((i:Int) + 1)=((i + 1:Nat):Int):=by rw [z17 (by omega)];simp
    obtain ⟨x,hx⟩:∃ x,k.dishes[i]?=some x:=⟨_,List.getElem?_eq_getElem hlt⟩
    have g1:=z125 hx
    rw [Dish.row] at g1
    have hni:¬ ((i:Int)<0):=by omega
    have hxn:=hs.needs x (List.mem_of_getElem? hx)
    have e3:x.needs.length≤549755813888:=by omega
    have hh2:headIs 1 (intRows x.needs)=true:=by cases x.needs <;> rfl
    have hlt2:(k.dishes.take i).length + 1≤549755813888:=by rw [List.length_take];omega
    have htk:dishRows (k.dishes.take i)++[[.sl (intRows x.needs)]]=dishRows (k.dishes.take (i + 1)):=by rw [List.take_add_one,hx];simp [dishRows,Dish.row]
    repeat (first | refine nx ?_ | (refine z10 fun K hK=>?_;simp only [go_sem];apply hK;clear hK K))
    refine z128 [31] (by kernel_rfl) (by kernel_rfl) fun K hK=>?_
    simp only [go_sem,k2,g1,hni,e3,hh2,hlt2,htk,List.nil_append,List.length_nil,Nat.zero_add]
    refine ⟨by kernel_rfl,hK _ ?_⟩
    clear hK K
    repeat (first | refine nx ?_ | (refine z10 fun K hK=>?_;simp only [go_sem,hw];apply hK;clear hK K))
    refine ⟨rfl,i + 1,?_,hlt,by omega⟩
    refine weA ?_ ?_ <;> simp
    all_goals first | done | rfl | trace_state
   ·have he:i=k.dishes.length:=by (have:¬ i<k.dishes.length:=by simpa using hb);omega
    subst he
    rw [List.take_length]
    repeat (first | refine nx ?_ | (refine z10 fun K hK=>?_;simp only [go_sem];apply hK;clear hK K))
    refine z15 (fun (i:Nat)=>[(5,.d (.i (i:Int)))]) (fun i=>[(3,some (.box [.own 6,.own 10,.own 34,.own 53])),(53,some (.arr 67 1 (dayRows (k.days.take i))))]) (fun i=>i≤k.days.length) (fun i=>k.days.length - i) 0 ?_ (Nat.zero_le _) ?_
    ·simp only [go_sem]
     refine z53 [53] ?_ ?_ rfl rfl <;> simp [lessT,lessM,lessB,AV.less,dayRows]
    ·intro i hi
     simp only [go_sem]
     repeat (first | refine nx ?_ | (refine z10 fun K hK=>?_;simp only [go_sem,k3];apply hK;clear hK K))
     refine z13 rfl (fun hb=>?_) (fun hb=>?_)
     ·have hlt:i<k.days.length:=by simpa using hb
      have hw:IntKind.i64.wrap ((i:Int) + 1)=((i + 1:Nat):Int):=by rw [z17 (by omega)];simp
      obtain ⟨x,hx⟩:∃ x,k.days[i]?=some x:=⟨_,List.getElem?_eq_getElem hlt⟩
      have g1:=z81 hx
      have hni:¬ ((i:Int)<0):=by omega
      have hxn:=hs.groups x (List.mem_of_getElem? hx)
      have e3:x.length≤549755813888:=by omega
      have hh2:headIs 3 (dinRows x)=true:=by cases x <;> rfl
      have hlt2:(k.days.take i).length + 1≤549755813888:=by rw [List.length_take];omega
      have htk:dayRows (k.days.take i)++[[.sl (dinRows x)]]=dayRows (k.days.take (i + 1)):=by rw [List.take_add_one,hx];simp [dayRows]
      repeat (first | refine nx ?_ | (refine z10 fun K hK=>?_;simp only [go_sem];apply hK;clear hK K))
      refine z128 [51] (by kernel_rfl) (by kernel_rfl) fun K hK=>?_
      simp only [go_sem,k3,g1,hni,e3,hh2,hlt2,htk,List.nil_append,List.length_nil,Nat.zero_add]
      refine ⟨by kernel_rfl,hK _ ?_⟩
      clear hK K
      repeat (first | refine nx ?_ | (refine z10 fun K hK=>?_;simp only [go_sem,hw];apply hK;clear hK K))
      refine ⟨rfl,i + 1,?_,hlt,by omega⟩
      refine weA ?_ ?_ <;> simp
      all_goals first | done | rfl | trace_state
     ·have he:i=k.days.length:=by (have:¬ i<k.days.length:=by simpa using hb);omega
      subst he
      rw [List.take_length]
      repeat (first | refine nx ?_ | (refine z10 fun K hK=>?_;simp only [go_sem];apply hK;clear hK K))
      simp only [go_sem,retG]
end Go.Ab
