/- A walk engine over abstract states, and the contracts of the functions that the statement reaches: part 4. -/
import Derived.Test.YtfkbbaagifpjpaaDoorWc
import Derived.RangeFuncNested
import Derived.Maps.RangeRun
set_option linter.unusedVariables false
set_option linter.unusedSimpArgs false
set_option linter.unnecessarySimpa false
/- Iterators of a second kind: they may keep memory of their own between two elements,and hand on elements from within calls. -/
namespace Go.Ab
open Go.RowKit
def Firm (J:Env) (k:Option Nat) (b o:Own) (w:World):Prop:=∀ w',BelowU b w w'→J k b o w'
theorem Firm.next {J:Env} {k:Option Nat} {b o:Own} {w w':World} (h:Firm J k b o w) (hb:BelowU b w w'):Firm J k b o w':=fun w2 h2=>h w2 (hb.trans h2)
def GivesE (P:Program) (l:Nat) (J:Env) (items:List (List DV)):Prop :=
 ∀ (m kk:Nat) (b o X:Own) (w:World) (vals:Array Value) (row:List DV),items[kk]?=some row→(∀ x,o x→b x)→(∀ x,b x→x<w.heap.size)→Firm J (some kk) b o w →
  (∀ x,X x→¬ b x∧x<w.heap.size)→DRels w (fun x=>o x∨X x) row vals →
  YieldAt (fence none) m P l vals w fun e w'=>∃ t b' o',e=.returned (.bool t)∧(∀ x,o' x→b' x)∧(∀ x,b' x→x<w'.heap.size)∧Firm J (if t then some (kk + 1) else none) b' o' w' ∧
   Stays w o w' o'∧∀ x,X x→¬ b' x
section
variable {P:Program} {base:Own} {out:Own} {st st':St} {μ:Pl} {tmps:Array Value} {w w':World} {o:Oper} {ops:Array Oper} {rd:Option Nat} {n:Nat} {J:Env} {k:Option Nat}
theorem StRel.next (h:StRel P base out st μ tmps w) (hs:w.heap.size≤w'.heap.size) (hk:∀ x,x<w.heap.size→¬ out x→w'.heap[x]?=w.heap[x]?) {b2 o2:Own}
  (ho2:∀ x,o2 x→b2 x) (hb2:∀ x,b2 x→x<w'.heap.size) (hon:∀ x,o2 x→out x∨w.heap.size≤x) (hbn:∀ x,μ.owns x→¬ b2 x):StRel P b2 o2 st μ tmps w':=by
 have hg:Goes w (ownOf out μ) w' (ownOf o2 μ):=fun b o v h1 h2=>by
  have hlt:=h2.lt
  refine⟨fun hc=>?_,?_⟩
  ·rcases hc with hc | hc
   ·rcases hon b hc with h3 | h3
    ·exact h1 (.inl h3)
    ·omega
   ·exact h1 (.inr hc)
  ·exact h2.heap (hk b hlt (fun hc=>h1 (.inl hc)))
 refine⟨h.size,fun i x v h1 h2=>(h.tmp i x v h1 h2).goes hg (fun _ _ _=>rfl),⟨fun m blk hm=>(h.mem.blk m blk hm).goes hg rfl (fun _ _=>rfl) (fun b z l c hb=>?_),h.mem.dom,h.mem.inj,fun m b z l c hb=>?_⟩,h.hid.goes hg,ho2,hb2⟩
 ·have:=h.mem.base m b z l c hb
  exact hk b this.2.1 this.2.2
 ·have:=h.mem.base m b z l c hb
  have hn:=hbn b ⟨m,z,l,c,hb⟩
  exact⟨hn,Nat.lt_of_lt_of_le this.2.1 hs,fun hc=>hn (ho2 b hc)⟩
theorem StRel.own_base (h:StRel P base out st μ tmps w):∀ x,μ.owns x→¬ base x∧x<w.heap.size:=fun x ⟨m,z,l,c,hm⟩=>⟨(h.mem.base m x z l c hm).1,(h.mem.base m x z l c hm).2.1⟩
def yieldKE (l l':Nat) (items:List (List DV)) (xs:List AV) (dst:Option Tmp) (k:Option Nat) (s:St) (K:Option Nat→St→Prop):Prop :=
 l'=l∧∃ kk row,k=some kk∧reifyAll s xs=some row∧s.arrs (AV.refsAll xs)=true∧items[kk]?=some row ∧
  K (some (kk + 1)) ((releaseAll (AV.refsAll xs) s).put dst (.d (.bool true)))∧K none ((releaseAll (AV.refsAll xs) s).put dst (.d (.bool false)))
theorem z750 (h:StRel P base out st μ tmps w) {l:Nat} {xs:List AV} (hy:yieldOf o st=some (l,xs)) {items:List (List DV)} (hG:GivesE P l J items) {kk:Nat} {row:List DV}
  (hrow:reifyAll st xs=some row) (harr:st.arrs (AV.refsAll xs)=true) (hk:items[kk]?=some row) (hJ:Firm J (some kk) base out w) {ds:List Deferred} {K:Act→World→Prop} {Q:Exit→Act→World→Prop}
  (hK:∀ (t:Bool) b' o' μ' w',StRel P b' o' ((releaseAll (AV.refsAll xs) st).put o.dst (.d (.bool t))) μ' (putT tmps o.dst (.bool t)) w'→Firm J (if t then some (kk + 1) else none) b' o' w'→Stays w (ownOf out μ) w' (ownOf o' μ') →
   K { tmps:=putT tmps o.dst (.bool t),defers:=ds } w'):o.wpIn (fence rd) n P { tmps:=tmps,defers:=ds } w K Q:=by
 refine⟨fun _ _=>trivial,?_⟩
 unfold yieldOf at hy
 split at hy
 ·rename_i f args ts ho
  split at hy
  ·rename_i l' hev
   cases hy
   have hf:=h.ev f []
   rw [hev] at hf
   have hv:val tmps f=.func (.yield l) #[] #[]:=z1086 hf
   have hargs:args.map (val tmps)=(args.toList.map (val tmps)).toArray:=by apply Array.toList_inj.1;simp
   obtain⟨μ1,h1,hless,hrels⟩:=z259 h (vs:=(args.toList.map (val tmps)).toArray) (by simp) (fun i x v hx hv=>by
    simp only [List.getElem?_map,Option.map_eq_some_iff,List.getElem?_toArray] at hx hv
    obtain⟨a,ha,rfl⟩:=hx
    obtain⟨b,hb,rfl⟩:=hv
    rw [ha] at hb;cases hb
    exact h.ev a []) hrow harr
   obtain⟨fn,tmps1,assign,body,hyr,hround⟩:=hG (n - 1) kk base out μ1.owns w _ row hk h.out h.le hJ h1.own_base hrels
   have hrun:(execOp ({ tmps:=tmps,defers:=ds }:Act).eval o).run P w=.ok (.round l fn tmps1 assign body) w:=by
    unfold execOp
    rw [z22]
    simp only [val] at hv hargs
    simp only [ho,resolve,hargs,hv,Deferred.ofValue,invoke,Sem.run_bind,Sem.run_pure,Result.andThen_ok,Array.empty_append]
    exact hyr
   rw [Oper.semAt_eq _ _ _ (by rw [ho];intro c hc;cases hc),hrun]
   simp only [Oper.uponIn_round]
   have hround':RoundIn (fence rd) (n - 1) P l fn tmps1 assign body w (fun e w'=>∃ t b' o',e=.returned (.bool t)∧(∀ x,o' x→b' x)∧(∀ x,b' x→x<w'.heap.size)∧Firm J (if t then some (kk + 1) else none) b' o' w' ∧
    Stays w out w' o'∧∀ x,μ1.owns x→¬ b' x):=hround
   refine⟨(fun hsome=>(by cases hsome)),hround'.mono ?_⟩
   rintro e w' ⟨t,b',o',rfl,q1,q2,q3,q4,q5⟩
   simp only [z78]
   have h2:StRel P b' o' (releaseAll (AV.refsAll (args.toList.map st.ev)) st) μ1 tmps w':=h1.next q4.1 (fun x hx hno=>(q4.2 x hx hno).1) q1 q2 (fun x hx=>by
    by_cases hlt:x<w.heap.size
    ·exact .inl (Classical.byContradiction fun hc=>(q4.2 x hlt hc).2 hx)
    ·exact .inr (Nat.le_of_not_lt hlt)) q5
   refine hK t b' o' μ1 w' (h2.put (.d (.bool t)) o.dst) q3 ⟨q4.1,fun x hx hno=>?_⟩
   have hno':¬ out x:=fun hc=>hno (.inl hc)
   refine⟨(q4.2 x hx hno').1,fun hc=>?_⟩
   rcases hc with hc | hc
   ·exact (q4.2 x hx hno').2 hc
   ·exact hno (hless x (.inr hc))
  ·cases hy
 ·cases hy
theorem z69 {B:Nat} (hO:EnvOk B J) {b o:Own} (hF:Firm J k b o w) (hb:∀ x,b x→x<w.heap.size) {r:Nat} (hr:B≤r) (hno:¬ o r) (ho:Other r w w'):Firm J k b o w':=by
 by_cases hrs:r<w.heap.size
 ·exact z38 hO hF hr hno hrs ho
 ·intro w2 h2
  refine hF w2 ⟨h2.os.trans ho.wrote.os,h2.tape.trans ho.wrote.tape,h2.output.trans ho.wrote.output,by rw [← ho.wrote.size];exact h2.size,fun q hq=>?_⟩
  rw [h2.block q hq]
  exact ho.wrote.block q (fun e=>by have:=hb q hq;omega)
def lendJ (X:Own) (W:World) (J:Env):Env:=fun k b o w=>(∀ x,X x→o x)∧(∀ x,X x→w.heap[x]?=W.heap[x]?)∧(∀ x,o x→b x)∧(∀ x,b x→x<w.heap.size)∧Firm J k (fun x=>b x∧¬ X x) (fun x=>o x∧¬ X x) w
theorem z1098 {X:Own} {W:World} {b o:Own} (h1:∀ x,X x→o x) (h2:∀ x,X x→w.heap[x]?=W.heap[x]?) (h3:∀ x,o x→b x) (h4:∀ x,b x→x<w.heap.size) (h5:Firm J k (fun x=>b x∧¬ X x) (fun x=>o x∧¬ X x) w) :
  Firm (lendJ X W J) k b o w:=fun w' hb =>
 ⟨h1,fun x hx=>(hb.block x (h3 x (h1 x hx))).trans (h2 x hx),h3,fun x hx=>Nat.lt_of_lt_of_le (h4 x hx) hb.size,h5.next (hb.mono fun _ h=>h.1)⟩
theorem z697 {a X:Own} (h:∀ x,X x→¬ a x):(fun x=>(a x∨X x)∧¬ X x)=a:=funext fun x=>propext ⟨fun ⟨h1,h2⟩=>h1.resolve_right h2,fun h1=>⟨.inl h1,fun hx=>h x hx h1⟩⟩
theorem z350 {X:Own} {W:World} {b o:Own} (hX:∀ x,X x→¬ b x∧x<w.heap.size) (h2:∀ x,X x→w.heap[x]?=W.heap[x]?) (h3:∀ x,o x→b x) (h4:∀ x,b x→x<w.heap.size) (h5:Firm J k b o w) :
  Firm (lendJ X W J) k (fun x=>b x∨X x) (fun x=>o x∨X x) w :=
 z1098 (fun _ h=>.inr h) h2 (fun x h=>h.imp (h3 x) id) (fun x h=>h.elim (h4 x) fun h=>(hX x h).2)
  (by rw [z697 fun x hx=>(hX x hx).1,z697 fun x hx hc=>(hX x hx).1 (h3 x hc)];exact h5)
theorem z472 {B:Nat} (hO:EnvOk B J) (X:Own) (W:World):EnvOk B (lendJ X W J):=fun k b o w w' r hr hno ho ⟨h1,h2,h3,h4,h5⟩ =>
 ⟨h1,fun x hx=>(ho.wrote.block x (fun e=>hno (e ▸ h1 x hx))).trans (h2 x hx),h3,fun x hx=>by rw [ho.wrote.size];exact h4 x hx,
  z69 hO h5 (fun x hx=>h4 x hx.1) hr (fun hc=>hno hc.1) ho⟩
theorem z267 {m l:Nat} {vals:Array Value} {R R':Ending→World→Prop} (h:YieldAt (fence none) m P l vals w R) (hr:∀ e w,R e w→R' e w):YieldAt (fence none) m P l vals w R' :=
 let ⟨fn,t,a,b,h1,h2⟩:=h
 ⟨fn,t,a,b,h1,h2.mono hr⟩
theorem z1187 {B B':Nat} (h:B≤B') (hO:EnvOk B J):EnvOk B' J:=fun k b o w w' r hr=>hO k b o w w' r (Nat.le_trans h hr)
theorem z258 {l:Nat} {items:List (List DV)} (hG:GivesE P l J items) (X:Own) (W:World):GivesE P l (lendJ X W J) items:=by
 intro m kk b o X' w vals row hi ho hb hF hX' hrow
 obtain⟨h1,h2,_,_,h5⟩:=hF w (.refl _ _)
 have hXb:∀ x,X x→b x:=fun x hx=>ho x (h1 x hx)
 refine z267 (hG m kk (fun x=>b x∧¬ X x) (fun x=>o x∧¬ X x) (fun x=>X x∨X' x) w vals row hi (fun x h=>⟨ho x h.1,h.2⟩) (fun x h=>hb x h.1) h5
  (fun x h=>h.elim (fun h=>⟨fun hc=>hc.2 h,hb x (hXb x h)⟩) fun h=>⟨fun hc=>(hX' x h).1 hc.1,(hX' x h).2⟩)
  ⟨hrow.1,fun i d v q1 q2=>(hrow.2 i d v q1 q2).goes fun b o u h3 h4=>⟨fun hc=>h3 (hc.elim (fun h=>.inl h.1) fun h=>h.elim (fun h=>.inl (h1 _ h)) .inr),h4⟩⟩) ?_
 rintro e w' ⟨t,b',o',rfl,q1,q2,q3,q4,q5⟩
 have hX:∀ x,X x→¬ b' x∧x<w'.heap.size:=fun x hx=>⟨q5 x (.inl hx),Nat.lt_of_lt_of_le (hb x (hXb x hx)) q4.1⟩
 refine⟨t,fun x=>b' x∨X x,fun x=>o' x∨X x,rfl,fun x h=>h.imp (q1 x) id,fun x h=>h.elim (q2 x) fun h=>(hX x h).2,z350 hX (fun x hx=>?_) q1 q2 q3,⟨q4.1,fun x hx hno=>?_⟩,fun x hx=>?_⟩
 ·exact (q4.2 x (hb x (hXb x hx)) (fun hc=>hc.2 hx)).1.trans (h2 x hx)
 ·obtain⟨p1,p2⟩:=q4.2 x hx (fun hc=>hno hc.1)
  exact⟨p1,fun hc=>hc.elim p2 fun h=>hno (h1 x h)⟩
 ·rintro (hc | hc)
  ·exact q5 x (.inr hx) hc
  ·exact (hX' x hx).1 (hXb x hc)
def YFn (P:Program) (f:FuncId) (l:Nat) (m0:List Blk) (args:List AV) (items:List (List DV)):Prop:=Enters P f ∧
 ∀ (J:Env) (ITEMS:List (List DV)) (k0:Nat) (w:World) (b own:Own) (μ0:Pl) (vs:Array Value),EnvOk w.heap.size J→GivesE P l J ITEMS→(∀ (i:Nat) row,items[i]?=some row→ITEMS[k0 + i]?=some row) →
  (∀ x,own x→b x)→(∀ x,b x→x<w.heap.size)→MemRel b own w μ0 (m0.map some)→Hid P w (ownOf own μ0)→args.length=vs.size →
  (∀ (i:Nat) x v,args[i]?=some x→vs[i]?=some v→AVRel w (ownOf own μ0) μ0 x v)→Firm J (some k0) b own w →
  Calls P f vs w fun e w'=>∃ t b' o' μ1,e=.returned (.bool t)∧(∀ x,o' x→b' x)∧(∀ x,b' x→x<w'.heap.size)∧MemRel b' o' w' μ1 (m0.map some)∧Firm J (if t then some (k0 + items.length) else none) b' o' w' ∧
   Stays w (ownOf own μ0) w' (ownOf o' μ1)∧∀ i,i<m0.length→μ1 i=μ0 i
def isArr:Blk→Bool
 | .arr .. | .arrP ..=>true
 | _=>false
def handed (st:St):List Nat→Option (List Blk)
 | []=>some []
 | n::ns=>match (st.m[n]?:Option (Option Blk)),handed st ns with
  | some (some b),some l=>if isArr b then some (b::l) else none
  | _,_=>none
theorem z467 {st:St}:∀ {ns:List Nat} {m0:List Blk},handed st ns=some m0→ns.length=m0.length∧∀ (i:Nat) b,m0[i]?=some b→∃ n,ns[i]?=some n∧st.m[n]?=some (some b)∧isArr b=true
 | [],m0,h=>by cases h;exact⟨rfl,fun i b h=>by simp at h⟩
 | n::ns,m0,h=>by
  unfold handed at h
  split at h
  ·rename_i b l hb hl
   split at h
   ·rename_i ha
    cases h
    obtain⟨h1,h2⟩:=z467 hl
    refine⟨by simp [h1],fun i b' hi=>?_⟩
    cases i with
    | zero=>simp at hi;subst hi;exact⟨n,rfl,hb,ha⟩
    | succ i=>simpa using h2 i b' (by simpa using hi)
   ·cases h
  ·cases h
theorem z464 {b:Blk} (h:isArr b=true) (f:Nat→Option Nat):b.mapN f=b:=by cases b <;> first | rfl | cases h
def callYK (P:Program) (l:Nat) (items:List (List DV)) (o:Oper) (k:Option Nat) (s:St) (K:Option Nat→St→Prop):Prop :=
 ∃ kk,k=some kk∧bindK (callOf o s) fun gx=>∃ (ns:List Nat) (m0:List Blk) (its:List (List DV)),ns.Nodup∧handed s ns=some m0∧YFn P gx.1 l m0 (gx.2.map (AV.mapN (inv ns))) its ∧
  (∀ (i:Nat) row,its[i]?=some row→items[kk + i]?=some row)∧K (some (kk + its.length)) (s.put o.dst (.d (.bool true)))∧K none (s.put o.dst (.d (.bool false)))
theorem z1016 (h:StRel P base out st μ tmps w) {l:Nat} {items:List (List DV)} (hG:GivesE P l J items) {B:Nat} (hO:EnvOk B J) (hB:B≤w.heap.size) {kk:Nat} (hJ:Firm J (some kk) base out w)
  {g:FuncId} {xs:List AV} (hc:callOf o st=some (g,xs)) {ns:List Nat} {m0:List Blk} {its:List (List DV)} (hnd:ns.Nodup) (hh:handed st ns=some m0) (hf:YFn P g l m0 (xs.map (AV.mapN (inv ns))) its)
  (hi:∀ (i:Nat) row,its[i]?=some row→items[kk + i]?=some row) {ds:List Deferred} {K:Act→World→Prop} {Q:Exit→Act→World→Prop}
  (hK:∀ (t:Bool) b' o' w',StRel P b' o' (st.put o.dst (.d (.bool t))) μ (putT tmps o.dst (.bool t)) w'→Firm J (if t then some (kk + its.length) else none) b' o' w'→Stays w (ownOf out μ) w' (ownOf o' μ) →
   K { tmps:=putT tmps o.dst (.bool t),defers:=ds } w'):o.wpIn (fence rd) n P { tmps:=tmps,defers:=ds } w K Q:=by
 refine⟨fun _ _=>trivial,?_⟩
 unfold callOf at hc
 split at hc
 ·rename_i f args ts ho
  obtain⟨fst,caps,hv,hl,hd⟩:=z741 h hc
  obtain⟨hln,hget⟩:=z467 hh
  obtain⟨μ0,hμ0⟩:∃ μ0:Pl,μ0=fun i=>(ns[i]?).bind μ:=⟨_,rfl⟩
  have hμ0i:∀ i n,ns[i]?=some n→μ0 i=μ n:=fun i n hi=>by rw [hμ0];simp [hi]
  have hμ0s:∀ i L,μ0 i=some L→∃ n,ns[i]?=some n∧μ n=some L:=fun i L hi=>by
   rw [hμ0] at hi
   cases hn:ns[i]? with
   | none=>simp [hn] at hi
   | some n=>simp [hn] at hi;exact⟨n,rfl,hi⟩
  obtain⟨X,hX⟩:∃ X:Own,X=fun b=>∃ n z l c,n ∉ ns∧μ n=some (.at b z l c):=⟨_,rfl⟩
  have hXm:∀ x,X x→μ.owns x:=fun x hx=>by rw [hX] at hx;obtain⟨n,z,l,c,_,h2⟩:=hx;exact⟨n,z,l,c,h2⟩
  have hXb:∀ x,X x→¬ base x∧x<w.heap.size:=fun x hx=>h.own_base x (hXm x hx)
  have hXo:∀ x,X x→¬ out x:=fun x hx hc=>(hXb x hx).1 (h.out x hc)
  have hnb:∀ i b z l c,μ0 i=some (.at b z l c)→¬ (base b∨X b):=by
   rintro i b z l c hi (hc | hc)
   ·obtain⟨n,_,hn⟩:=hμ0s i _ hi
    exact (h.mem.base n b z l c hn).1 hc
   ·rw [hX] at hc
    obtain⟨k,z',l',c',h1,h2⟩:=hc
    obtain⟨n,hn,hn2⟩:=hμ0s i _ hi
    exact h1 (h.mem.inj k n b _ _ _ _ _ _ h2 hn2 ▸ List.mem_of_getElem? hn)
  have hsub:∀ b,ownOf (fun x=>out x∨X x) μ0 b→ownOf out μ b:=by
   rintro b ((hb' | hb') | ⟨i,z,l,c,hi⟩)
   ·exact .inl hb'
   ·exact .inr (hXm b hb')
   ·obtain⟨n,_,hn⟩:=hμ0s i _ hi;exact .inr ⟨n,z,l,c,hn⟩
  have hless:Goes w (ownOf out μ) w (ownOf (fun x=>out x∨X x) μ0):=fun b o v h1 h2=>⟨fun hc=>h1 (hsub b hc),h2⟩
  have hinv:∀ n,(μ n).isSome→∀ i,inv ns n=some i→μ0 i=μ n:=fun n _ i hi=>hμ0i i n (z71 hi)
  have hM:MemRel (fun x=>base x∨X x) (fun x=>out x∨X x) w μ0 (m0.map some):=by
   refine⟨fun i b hb=>?_,fun i hi=>?_,fun a k b z l c z' l' c' h1 h2=>?_,fun i b z l c hi=>⟨hnb i b z l c hi,?_,fun hc=>hnb i b z l c hi (hc.imp (h.out b) id)⟩⟩
   ·simp only [List.getElem?_map,Option.map_eq_some_iff,Option.some.injEq] at hb
    obtain⟨b0,hb0,rfl⟩:=hb
    obtain⟨n,h1,h2,h3⟩:=hget i b0 hb0
    have:=BlkRel.mapN (n':=i) (.inl hless) (hμ0i i n h1) hinv (fun _ _ _ _ _=>rfl) (h.mem.blk n b0 h2)
    rwa [z464 h3] at this
   ·obtain⟨L,hL⟩:=Option.isSome_iff_exists.1 hi
    obtain⟨n,hn,_⟩:=hμ0s i L hL
    have:i<m0.length:=by rw [← hln];exact (List.getElem?_eq_some_iff.1 hn).1
    exact⟨m0[i],by simp [this]⟩
   ·obtain⟨n,hn,hμn⟩:=hμ0s a _ h1
    obtain⟨n',hn',hμn'⟩:=hμ0s k _ h2
    have:=h.mem.inj n n' b _ _ _ _ _ _ hμn hμn'
    subst this
    exact z132 hnd hn hn'
   ·obtain⟨n,_,hn⟩:=hμ0s i _ hi
    exact z31 h.mem hn
  have hA:∀ (i:Nat) y v,(xs.map (AV.mapN (inv ns)))[i]?=some y→(fst++(args.toList.map (val tmps)).toArray++caps)[i]?=some v→AVRel w (ownOf (fun x=>out x∨X x) μ0) μ0 y v:=by
   intro i y v hy hv
   simp only [List.getElem?_map,Option.map_eq_some_iff] at hy
   obtain⟨x,hx,rfl⟩:=hy
   exact (hd i x v hx hv).mapN (.inl hless) (fun n _ hs k hk=>hinv n hs k hk)
  have hcalls:=hf.2 (lendJ X w J) items kk w (fun x=>base x∨X x) (fun x=>out x∨X x) μ0 _ (z1187 hB (z472 hO X w)) (z258 hG X w) hi (fun x hx=>hx.imp (h.out x) id) (fun x hx=>hx.elim (h.le x) fun h=>(hXb x h).2)
   hM (h.hid.less hsub) (by simpa using hl) hA (z350 hXb (fun _ _=>rfl) h.out h.le hJ)
  have hrun:(execOp ({ tmps:=tmps,defers:=ds }:Act).eval o).run P w=.ok (.enter g (fst++(args.toList.map (val tmps)).toArray++caps)) w:=by
   unfold execOp
   rw [z22]
   have hargs:args.map (val tmps)=(args.toList.map (val tmps)).toArray:=by apply Array.toList_inj.1;simp
   simp only [val] at hv hargs
   simp only [ho,resolve,hargs,hv,Deferred.ofValue,invoke,Sem.run_bind,Sem.run_pure,Result.andThen_ok,Array.empty_append]
   exact hf.1 _ _
  rw [Oper.semAt_eq _ _ _ (by rw [ho];intro c hc;cases hc),hrun]
  simp only [Oper.uponIn_enter]
  refine⟨(fun hsome=>(by cases hsome)),?_⟩
  have hci:CallsIn (fence rd) (n - 1) P g (fst++(args.toList.map (val tmps)).toArray++caps) w _:=(callsIn_wide (n:=n - 1)).2 hcalls
  refine hci.mono ?_
  rintro e w' ⟨t,b',o',μ1,rfl,q1,q2,q3,q4,q5,q6⟩
  simp only [z78]
  obtain⟨j1,j2,_,_,j5⟩:=q4 w' (.refl _ _)
  have hpl:∀ n b z l c,μ n=some (.at b z l c)→X b∨∃ i,ns[i]?=some n∧i<m0.length∧μ1 i=some (.at b z l c):=by
   intro n b z l c hn
   by_cases hm:n ∈ ns
   ·obtain⟨i,hi⟩:=List.mem_iff_getElem?.1 hm
    have hlt:i<m0.length:=by rw [← hln];exact (List.getElem?_eq_some_iff.1 hi).1
    exact .inr ⟨i,hi,hlt,by rw [q6 i hlt,hμ0i i n hi,hn]⟩
   ·exact .inl (by rw [hX];exact⟨n,z,l,c,hm,hn⟩)
  have hstays:∀ x,x<w.heap.size→¬ ownOf out μ x→w'.heap[x]?=w.heap[x]?∧¬ ownOf (fun x=>o' x∧¬ X x) μ x:=fun x hx hno=>by
   obtain⟨p1,p2⟩:=q5.2 x hx (fun hc=>hno (hsub x hc))
   exact⟨p1,fun hc=>hc.elim (fun h=>p2 (.inl h.1)) fun h=>hno (.inr h)⟩
  have hg:Goes w (ownOf out μ) w' (ownOf (fun x=>o' x∧¬ X x) μ):=fun b o v h1 h2=>by
   obtain⟨p1,p2⟩:=hstays b h2.lt h1
   exact⟨p2,h2.heap p1⟩
  have hown1:∀ x,ownOf (fun x=>o' x∧¬ X x) μ x→ownOf o' μ1 x:=by
   rintro x (hx | ⟨n,z,l,c,hn⟩)
   ·exact .inl hx.1
   ·rcases hpl n x z l c hn with hx | ⟨i,_,_,hi⟩
    ·exact .inl (j1 x hx)
    ·exact .inr ⟨i,z,l,c,hi⟩
  have hst:StRel P (fun x=>b' x∧¬ X x) (fun x=>o' x∧¬ X x) st μ tmps w':=by
   refine⟨h.size,fun i x v h1 h2=>(h.tmp i x v h1 h2).goes hg (fun _ _ _=>rfl),⟨fun m blk hm=>?_,h.mem.dom,h.mem.inj,fun m b z l c hb=>?_⟩,h.hid.goes hg,fun x hx=>⟨q1 x hx.1,hx.2⟩,fun x hx=>q2 x hx.1⟩
   ·by_cases hmn:m ∈ ns
    ·obtain⟨i,hi⟩:=List.mem_iff_getElem?.1 hmn
     have hlt:i<m0.length:=by rw [← hln];exact (List.getElem?_eq_some_iff.1 hi).1
     obtain⟨n2,e1,e2,e3⟩:=hget i m0[i] (List.getElem?_eq_getElem hlt)
     rw [hi] at e1;cases e1
     rw [hm] at e2;cases e2
     have hb1:=q3.blk i m0[i] (by simp [hlt])
     have hμm:μ m=μ1 i:=by rw [q6 i hlt,hμ0i i m hi]
     have:=BlkRel.mapN (μ':=μ) (n':=m) (h:=fun _=>none) (.inl (fun b o v h1 h2=>⟨fun hc=>h1 (hown1 b hc),h2⟩:Goes w' (ownOf o' μ1) w' (ownOf (fun x=>o' x∧¬ X x) μ))) hμm (fun k _ j hj=>by cases hj) (fun _ _ _ _ _=>rfl) hb1
     rwa [z464 e3] at this
    ·refine (h.mem.blk m blk hm).goes hg rfl (fun _ _=>rfl) (fun b z l c hb=>?_)
     have hXx:X b:=by rw [hX];exact⟨m,z,l,c,hmn,hb⟩
     exact j2 b hXx
   ·rcases hpl m b z l c hb with hx | ⟨i,_,_,hi⟩
    ·exact⟨fun hc=>hc.2 hx,Nat.lt_of_lt_of_le (hXb b hx).2 q5.1,fun hc=>hc.2 hx⟩
    ·have:=q3.base i b z l c hi
     exact⟨fun hc=>this.1 hc.1,this.2.1,fun hc=>this.2.2 hc.1⟩
  exact hK t _ _ w' (hst.put (.d (.bool t)) o.dst) j5 ⟨q5.1,hstays⟩
 ·cases hc
end
end Go.Ab
/- Regions that hand on elements;drawn regions that do so at their end;contracts of functions that hand on elements. -/
namespace Go.Ab
open Go.RowKit
def ysB (ys:List Nat) (dst:Option Tmp):Bool:=match dst with
 | some d=>ys.contains d
 | none=>false
theorem z1118 (ys:List Nat) (d:Tmp):ysB ys (some d)=ys.contains d:=rfl
theorem z1119 (ys:List Nat):ysB ys none=false:=rfl
def stepE (P:Program) (l:Nat) (items:List (List DV)) (ys:List Nat) (o:Oper) (k:Option Nat) (s:St) (K:Option Nat→St→Prop):Prop:=match yieldOf o s with
 | some lx=>yieldKE l lx.1 items lx.2 o.dst k s K
 | none=>match ysB ys o.dst with
  | true=>callYK P l items o k s K
  | false=>stepK P o s (K k)
def guardedEY (P:Program) (l:Nat) (items:List (List DV)) (ys:List Nat) (t:AV) (want:Bool) (o:Oper) (k:Option Nat) (s:St) (K:Option Nat→St→Prop):Prop:=guardK t want (stepE P l items ys o k s K) (K k (s.put o.dst .void))
def guardRunEY (P:Program) (l:Nat) (items:List (List DV)) (ys:List Nat) (t:AV) (want:Bool) (o:Oper) (k:Option Nat) (s:St) (R:Option Nat→St→Prop):Prop:=∀ K':Option Nat→St→Prop,(∀ k s,R k s→K' k s)→guardedEY P l items ys t want o k s K'
def runE (P:Program) (l:Nat) (items:List (List DV)) (ys:List Nat) (ops:Array Oper):List Oper→Option Nat→St→(Option Nat→St→Prop)→Prop
 | [],k,s,K=>K k s
 | o::os,k,s,K=>dstOk o=true∧match guardT ops o with
  | none=>False
  | some none=>stepE P l items ys o k s fun k s=>runE P l items ys ops os k s K
  | some (some (t,want))=>guardRunEY P l items ys (s.ev (.tmp t)) want o k s fun k s=>runE P l items ys ops os k s K
section
variable {P:Program} {base:Own} {out:Own} {st st':St} {μ:Pl} {tmps:Array Value} {w w':World} {o:Oper} {ops:Array Oper} {rd:Option Nat} {n:Nat} {J:Env}
theorem z243 {l:Nat} {items:List (List DV)} {ys:List Nat} {B:Nat} (hG:GivesE P l J items) (hO:EnvOk B J) {ds:List Deferred} {Qm:Exit→Act→World→Prop}:∀ (os:List Oper) (i:Nat) (k:Option Nat) (st:St) (K:Option Nat→St→Prop) (base:Own) (out:Own) (μ:Pl) (tmps:Array Value) (w:World),
  (∀ j o,os[j]?=some o→ops[i + j]?=some o)→runE P l items ys ops os k st K→StRel P base out st μ tmps w→Firm J k base out w→B≤w.heap.size →
  (∀ k' st' base' out' μ' tmps' w',StRel P base' out' st' μ' tmps' w'→Firm J k' base' out' w'→Stays w (ownOf out μ) w' (ownOf out' μ')→Same (opDsts os) tmps tmps'→K k' st'→Qm .normal { tmps:=tmps',defers:=ds } w') →
  wpOpsIn (fence rd) n P ops Qm (List.range' i os.length) { tmps:=tmps,defers:=ds } w
 | [],i,k,st,K,base,out,μ,tmps,w,_,hr,h,hJ,_,hK=>hK k st base out μ tmps w h hJ (.refl _ _) (Same.refl _ _) hr
 | o::os,i,k,st,K,base,out,μ,tmps,w,hos,hr,h,hJ,hB,hK=>by
  rw [List.length_cons,List.range'_succ,wpOpsIn_cons]
  have ho:ops[i]?=some o:=by simpa using hos 0 o (by simp)
  have hos':∀ j o',os[j]?=some o'→ops[i + 1 + j]?=some o':=fun j o' hj=>by have:=hos (j + 1) o' (by simpa using hj);rwa [show i + 1 + j=i + (j + 1) by omega]
  have plain:∀ s',StepG P ops o st s'→dstOk o=true→runE P l items ys ops os k s' K→wpOpIn (fence rd) n P ops Qm i (wpOpsIn (fence rd) n P ops Qm (List.range' (i + 1) os.length)) { tmps:=tmps,defers:=ds } w:=fun s' h1 hd h2 =>
   z65 h ho hd h1 fun tmps' μ' w1 h3 hB1 hSa=>z243 hG hO os (i + 1) k s' K base out μ' tmps' w1 hos' h2 h3 (hJ.next hB1.keep.below) (Nat.le_trans hB hB1.keep.below.size) fun k2 st2 base2 out2 μ2 tmps2 w2 h4 hJ2 hs2 hSa2 hk2 =>
    hK k2 st2 base2 out2 μ2 tmps2 w2 h4 hJ2 (Stays.trans ⟨hB1.keep.below.size,hB1.stays⟩ hs2) (hSa.cons hSa2) hk2
  have yes:Region.wanted o (yielded ops tmps)=true→dstOk o=true→o.guard=none∨(∃ j want t,o.guard=some (j,want)∧(ops[j]?).bind (·.dst)=some t∧st.ev (.tmp t)=.d (.bool want))→stepE P l items ys o k st (fun k s=>runE P l items ys ops os k s K) →
    wpOpIn (fence rd) n P ops Qm i (wpOpsIn (fence rd) n P ops Qm (List.range' (i + 1) os.length)) { tmps:=tmps,defers:=ds } w:=by
   intro hw hd hgd hstep
   unfold stepE at hstep
   split at hstep
   ·rename_i lx hy
    obtain⟨l',xs⟩:=lx
    obtain⟨rfl,kk,row,rfl,hrow,harr,hk,ht,hf⟩:=hstep
    unfold wpOpIn
    simp only [ho,hw,if_true]
    refine z750 h hy hG hrow harr hk hJ fun b b' o' μ' w1 h3 hJ1 hs1=>?_
    refine z243 hG hO os (i + 1) (if b then some (kk + 1) else none) _ K b' o' μ' _ w1 hos' (by cases b;exact hf;exact ht) h3 hJ1 (Nat.le_trans hB hs1.1) fun k2 st2 base2 out2 μ2 tmps2 w2 h4 hJ2 hs2 hSa2 hk2 =>
     hK k2 st2 base2 out2 μ2 tmps2 w2 h4 hJ2 (hs1.trans hs2) ((z44 tmps o.dst _).cons hSa2) hk2
   ·split at hstep
    ·obtain⟨kk,rfl,⟨g,xs⟩,hc,ns,m0,its,hnd,hh,hf,hi,ht,hff⟩:=hstep
     unfold wpOpIn
     simp only [ho,hw,if_true]
     refine z1016 h hG hO hB hJ hc hnd hh hf hi fun b b' o' w1 h3 hJ1 hs1=>?_
     refine z243 hG hO os (i + 1) (if b then some (kk + its.length) else none) _ K b' o' μ _ w1 hos' (by cases b;exact hff;exact ht) h3 hJ1 (Nat.le_trans hB hs1.1) fun k2 st2 base2 out2 μ2 tmps2 w2 h4 hJ2 hs2 hSa2 hk2 =>
      hK k2 st2 base2 out2 μ2 tmps2 w2 h4 hJ2 (hs1.trans hs2) ((z44 tmps o.dst _).cons hSa2) hk2
    ·obtain⟨s1,h1,h2⟩:=z77 hstep
     refine plain s1 ?_ hd h2
     unfold StepG
     rcases hgd with hg | ⟨j,want,t,hg,ht,hev⟩
     ·rw [hg];exact h1
     ·rw [hg];exact⟨t,ht,.inl ⟨hev,h1⟩⟩
  obtain⟨hd,hr⟩:=hr
  cases hg:guardT ops o with
  | none=>rw [hg] at hr;exact hr.elim
  | some g =>
   rw [hg] at hr
   cases g with
   | none =>
    have hgp:=z93 hg
    exact yes (by simp [Region.wanted,hgp]) hd (.inl hgp) hr
   | some tw =>
    obtain⟨t,want⟩:=tw
    obtain⟨j,hj,ht⟩:=z82 hg
    have hr:guardedEY P l items ys (st.ev (.tmp t)) want o k st (fun k s=>runE P l items ys ops os k s K):=hr _ fun k s hs=>hs
    unfold guardedEY guardK at hr
    split at hr
    ·rename_i b hev
     by_cases hb:b=want
     ·subst hb
      refine yes ?_ hd (.inr ⟨j,b,t,hj,ht,hev⟩) (hr.1 rfl)
      obtain⟨v,hv,hrel⟩:=z237 h hev (by simp)
      have:=z57 hrel
      subst this
      have:yielded ops tmps j=some b:=by unfold yielded;rw [ht];simp [hv]
      simp [Region.wanted,hj,this]
     ·have hb':b=!want:=by cases b <;> cases want <;> simp_all
      exact plain _ (by unfold StepG;rw [hj];exact⟨t,ht,.inr ⟨.inl (by rw [hev,hb']),rfl⟩⟩) hd (hr.2 hb')
    ·rename_i hev
     exact plain _ (by unfold StepG;rw [hj];exact⟨t,ht,.inr ⟨.inr hev,rfl⟩⟩) hd hr
    ·exact hr.elim
theorem z571 {l:Nat} {items:List (List DV)} (hG:GivesE P l J items) (ys:List Nat) {id:Nat} {k:Option Nat} {Q:Exit→Option Nat→St→Prop} (h:runE P l items ys ops ops.toList k st (Q .normal)) :
  Walk P rd n J (.region id ops false) k st Q:=fun B base out μ tmps w ds hO hst hJ hM=>by
 refine wpIn_region ?_
 have:=z243 (n:=n) (rd:=rd) hG hO (ds:=ds) (Qm:=Ends P J B (dsts (.region id ops false)) (ownOf out μ) tmps w Q) ops.toList 0 k st (Q .normal) base out μ tmps w (fun j o hj=>by simpa using hj) h hst hJ hM.1
  (fun k' st' base' out' μ' tmps' w' h1 hJ' hs hSa hk=>⟨k',st',base',out',μ',h1,hJ',hM.stays hs,hs,hSa,hk⟩)
 rw [List.range_eq_range']
 simpa using this
theorem z141 {l:Nat} {items:List (List DV)} (hG:GivesE P l J items) (ys:List Nat) {id:Nat} {k:Option Nat} {cs:List Code} {Q:Exit→Option Nat→St→Prop}
  (h:∀ K:Option Nat→St→Prop,(∀ k s,WalkL P rd n J cs k s Q→K k s)→runE P l items ys ops ops.toList k st K):WalkL P rd n J (.region id ops false::cs) k st Q :=
 z571 hG ys (h _ fun _ _ h=>h)
theorem z561 {Q:Exit→Act→World→Prop} {ρ:Type} (ix:ρ→Nat) (I:ρ→ρ→Prop) (C:List ρ→St→St→Prop) (hCn:∀ s s',C [] s s'→s=s')
  (hCc:∀ r rs s s',C (r::rs) s s'→∃ o s1,ops[ix r]?=some o∧dstOk o=true∧StepG P ops o s s1∧C rs s1 s') (hCb:∀ r B s s' A,(∀ a ∈ A,I a r)→C (A++r::B) s s'→C (r::(A++B)) s s')
  (hback:backB ops=true) (p:Nat) (htail:∀ i j,i<p→p≤j→j<ops.size→Anc ops i j) (f:Nat) {ds:List Deferred}:∀ (fuel:Nat) (listed:Array Bool) (rs:List ρ) (st:St) (μ:Pl) (tmps:Array Value) (w:World),
  rs.length=fuel→(rs.map ix).Pairwise (·<·)→listed.size=ops.size→(∀ i,i ∈ rs.map ix↔i<p∧listed[i]?=some false)→(∀ j,p≤j→j<ops.size→listed[j]?=some false) →
  (∀ (k:Nat) o,ops[k]?=some o→listed[k]?=some true→∀ e ∈ o.after,Region.binds .any e=true→listed[e.on]?=some true) →
  rs.Pairwise (fun a b=>Anc ops (ix a) (ix b)∨I a b)→C rs st st'→StRel P base out st μ tmps w →
  (∀ listed' tmps' μ' w',listed'.size=ops.size→(∀ i,i<p→i<ops.size→listed'[i]?=some true)→(∀ j,p≤j→j<ops.size→listed'[j]?=some false)→StRel P base out st' μ' tmps' w'→KeepO base (ownOf out μ) w (ownOf out μ') w' →
   Same (opDsts ops.toList) tmps tmps'→wpAnyIn (fence rd) n P .any ops Q f listed' { tmps:=tmps',defers:=ds } w') →
  wpAnyIn (fence rd) n P .any ops Q (f + fuel) listed { tmps:=tmps,defers:=ds } w:=by
 intro fuel
 induction fuel with
 | zero =>
  intro listed rs st μ tmps w hlen hsort hsize hmem htl hclosed hpairs hchain h hK
  have hnil:rs=[]:=List.eq_nil_of_length_eq_zero hlen
  subst hnil
  obtain rfl:=hCn _ _ hchain
  refine hK listed tmps μ w hsize (fun i hi hs=>?_) htl h (KeepO.refl _ _ _) (Same.refl _ _)
  have hl:i<listed.size:=by omega
  have:=mt (hmem i).2 (by simp)
  cases hb:listed[i] with
  | true=>simp [hl,hb]
  | false=>exact absurd ⟨hi,by simp [hl,hb]⟩ this
 | succ fuel ih =>
  intro listed rs st μ tmps w hlen hsort hsize hmem htl hclosed hpairs hchain h hK
  refine⟨fun hready=>?_,fun i hi=>?_⟩
  ·cases rs with
   | nil=>simp at hlen
   | cons r rs =>
    exfalso
    obtain⟨o,s1,ho,hd,hl,ht⟩:=hCc _ _ _ _ hchain
    obtain⟨hrp,hun⟩:=(hmem (ix r)).1 (by simp)
    have:ix r ∈ Region.ready .any ops listed:=by
     refine mem_ready.2 ⟨by simp [hun],o,ho,fun e he hb=>?_⟩
     have hlt:=z138 hback ho he hb
     have hel:e.on<listed.size:=by
      rw [hsize]
      have:=(Array.getElem?_eq_some_iff.1 ho).1
      omega
     have hnot:e.on ∉ (r::rs).map ix:=by
      simp only [List.map_cons,List.mem_cons,not_or]
      refine⟨by omega,fun hc=>?_⟩
      simp only [List.map_cons,List.pairwise_cons] at hsort
      have:=hsort.1 _ hc
      omega
     have hb':listed[e.on]≠false:=fun hc=>hnot ((hmem e.on).2 ⟨by omega,by simp [hel,hc]⟩)
     simp [hel]
     simpa using hb'
    rw [hready] at this
    cases this
  ·obtain⟨h1,o,ho,hall⟩:=mem_ready.1 hi
   have hil:i<listed.size:=by rw [hsize];exact (Array.getElem?_eq_some_iff.1 ho).1
   have hun:listed[i]?=some false:=by
    simp [hil] at h1 ⊢
    exact h1
   have hanc0:∀ a b,Anc ops a b→listed[b]?=some true∨b=i→listed[a]?=some true:=by
    intro a b hab
    induction hab with
    | edge ho' he hb =>
     rintro (hk | rfl)
     ·exact hclosed _ _ ho' hk _ he hb
     ·rw [ho] at ho'
      cases ho'
      have:=hall _ he hb
      simp only [Array.getD_eq_getD_getElem?] at this
      cases hk:listed[(_:Nat)]? with
      | none=>rw [hk] at this;cases this
      | some b=>rw [hk] at this;simp at this;rw [this]
    | step h1 h2 ih1 ih2=>intro hk;exact ih1 (.inl (ih2 hk))
   have hip:i<p:=by
    refine Classical.byContradiction fun hge=>?_
    cases rs with
    | nil=>simp at hlen
    | cons r rs =>
     obtain⟨hrp,hur⟩:=(hmem (ix r)).1 (by simp)
     have:=hanc0 (ix r) i (htail (ix r) i hrp (by omega) (by omega)) (.inr rfl)
     rw [hur] at this
     cases this
   have hin:=(hmem i).2 ⟨hip,hun⟩
   simp only [List.mem_map] at hin
   obtain⟨r,hr,rfl⟩:=hin
   obtain⟨A,B,rfl⟩:=List.append_of_mem hr
   have hA:∀ a ∈ A,I a r:=by
    intro a ha
    rw [List.pairwise_append] at hpairs
    rcases hpairs.2.2 a ha r (by simp) with hc | hc
    ·exfalso
     have h2:=hanc0 _ _ hc (.inr rfl)
     have h3:=((hmem (ix a)).1 (by simp only [List.mem_map];exact⟨a,by simp [ha],rfl⟩)).2
     rw [h2] at h3
     cases h3
    ·exact hc
   obtain⟨o',s1,ho',hd,hl,ht⟩:=hCc _ _ _ _ (hCb r B st st' A hA hchain)
   rw [ho] at ho'
   cases ho'
   refine z65 h ho hd hl (fun tmps' μ' w' h2 hB hS=>?_)
   have hsub:(A++B).Sublist (A++r::B):=List.Sublist.append_left (List.sublist_cons_self r B) A
   refine ih (listed.setIfInBounds (ix r) true) (A++B) _ μ' tmps' w' (by simp at hlen ⊢;omega) (hsort.sublist (hsub.map _)) (by simp [hsize]) (fun k=>?_) (fun j hj hs=>?_) (fun k o' hk hlk e he hb=>?_) (hpairs.sublist hsub) ht h2
    (fun listed2 tmps2 μ2 w2 g1 g2 g3 h3 hB2 hS2=>hK listed2 tmps2 μ2 w2 g1 g2 g3 h3 (hB.trans hB2) (hS.within hS2 (z247 (os:=ops.toList) (by simpa using Array.mem_of_getElem? ho))))
   ·rw [Array.getElem?_setIfInBounds]
    by_cases hk:ix r=k
    ·subst hk
     simp only [if_true,hil]
     constructor
     ·intro hc
      exfalso
      rw [List.map_append,List.pairwise_append] at hsort
      simp only [List.map_append,List.mem_append] at hc
      rcases hc with hc | hc
      ·have:=hsort.2.2 _ hc (ix r) (by simp);omega
      ·have:=hsort.2.1
       simp only [List.map_cons,List.pairwise_cons] at this
       have:=this.1 _ hc;omega
     ·intro hc;cases hc.2
    ·rw [if_neg hk,← hmem k]
     simp only [List.map_append,List.map_cons,List.mem_append,List.mem_cons]
     constructor
     ·rintro (hc | hc)
      ·exact .inl hc
      ·exact .inr (.inr hc)
     ·rintro (hc | rfl | hc)
      ·exact .inl hc
      ·exact absurd rfl hk
      ·exact .inr hc
   ·rw [Array.getElem?_setIfInBounds,if_neg (by omega)]
    exact htl j hj hs
   ·have hon:listed[e.on]?=some true:=by
     rw [Array.getElem?_setIfInBounds] at hlk
     by_cases hkr:ix r=k
     ·subst hkr
      rw [ho] at hk
      cases hk
      have:=hall e he hb
      simp only [Array.getD_eq_getD_getElem?] at this
      cases hk2:listed[e.on]? with
      | none=>rw [hk2] at this;cases this
      | some b=>rw [hk2] at this;simp at this;rw [this]
     ·rw [if_neg hkr] at hlk
      exact hclosed k o' hk hlk e he hb
    rw [Array.getElem?_setIfInBounds]
    split
    ·first | rfl | (split <;> simp_all)
    ·exact hon
theorem z147:∀ {os:List Oper} (p:Nat) {i:Nat},i ∈ opDsts (os.drop p)→i ∈ opDsts os
 | [],p,i,h=>by simpa using h
 | o::os,0,i,h=>h
 | o::os,p + 1,i,h=>by
  have:=z147 (os:=os) p (by simpa using h)
  unfold opDsts
  split
  ·exact List.mem_cons_of_mem _ this
  ·exact this
theorem z301 {Q:Exit→Act→World→Prop} (hback:backB ops=true) {p:Nat} (htail:∀ i j,i<j→p≤j→j<ops.size→Anc ops i j):∀ (r q:Nat) (listed:Array Bool) (a:Act) (w:World),q + r=ops.size→p≤q→listed.size=ops.size →
  (∀ i,i<q→listed[i]?=some true)→(∀ j,q≤j→j<ops.size→listed[j]?=some false)→wpOpsIn (fence rd) n P ops Q (List.range' q r) a w→wpAnyIn (fence rd) n P .any ops Q r listed a w
 | 0,q,listed,a,w,hq,_,hs,h1,_,h=>by
  refine⟨List.eq_nil_iff_forall_not_mem.2 fun j hj=>?_,h⟩
  obtain⟨g1,o,ho,_⟩:=mem_ready.1 hj
  have hlt:=(Array.getElem?_eq_some_iff.1 ho).1
  have:=h1 j (by omega)
  simp [this] at g1
 | r + 1,q,listed,a,w,hq,hp,hs,h1,h2,h=>by
  rw [List.range'_succ,wpOpsIn_cons] at h
  have hqs:q<ops.size:=by omega
  refine⟨fun hready=>?_,fun i hi=>?_⟩
  ·exfalso
   have:q ∈ Region.ready .any ops listed:=by
    refine mem_ready.2 ⟨by simp [h2 q (Nat.le_refl _) hqs],ops[q],by simp [hqs],fun e he hb=>?_⟩
    have hlt:=z138 hback (by simp [hqs]:ops[q]?=some ops[q]) he hb
    simp [h1 e.on hlt]
   rw [hready] at this
   cases this
  ·obtain⟨g1,o,ho,hall⟩:=mem_ready.1 hi
   have his:i<ops.size:=(Array.getElem?_eq_some_iff.1 ho).1
   have hiq:q≤i:=by
    refine Classical.byContradiction fun hc=>?_
    have:=h1 i (by omega)
    simp [this] at g1
   have hei:i=q:=by
    refine Classical.byContradiction fun hc=>?_
    have hanc0:∀ a b,Anc ops a b→listed[b]?=some true∨b=i→listed[a]?=some true:=by
     intro a b hab
     induction hab with
     | edge ho' he hb =>
      rintro (hk | rfl)
      ·have hlt:=z138 hback ho' he hb
       refine h1 _ ?_
       refine Nat.lt_of_lt_of_le hlt (Nat.le_of_not_lt fun hc=>?_)
       have:=h2 _ (Nat.le_of_lt hc) (Array.getElem?_eq_some_iff.1 ho').1
       rw [this] at hk
       cases hk
      ·rw [ho] at ho'
       cases ho'
       have:=hall _ he hb
       simp only [Array.getD_eq_getD_getElem?] at this
       cases hk:listed[(_:Nat)]? with
       | none=>rw [hk] at this;cases this
       | some b=>rw [hk] at this;simp at this;rw [this]
     | step h1 h2 ih1 ih2=>intro hk;exact ih1 (.inl (ih2 hk))
    have:=hanc0 q i (htail q i (by omega) (by omega) his) (.inr rfl)
    rw [h2 q (Nat.le_refl _) hqs] at this
    cases this
   subst hei
   refine wpOpIn_mono (fun a w hk=>?_) h
   refine z301 hback htail r (i + 1) _ a w (by omega) (by omega) (by simp [hs]) (fun j hj=>?_) (fun j hj hjs=>?_) hk
   ·rw [Array.getElem?_setIfInBounds]
    by_cases hji:i=j
    ·subst hji;simp [hs,his]
    ·rw [if_neg hji];exact h1 j (by omega)
   ·rw [Array.getElem?_setIfInBounds,if_neg (by omega)]
    exact h2 j (by omega) hjs
def ancAll (mk:List Nat) (j:Nat):Nat→Bool
 | 0=>true
 | i + 1=>(mk.getD j 0).testBit i && ancAll mk j i
theorem z366 {mk:List Nat} {j:Nat}:∀ {m i:Nat},ancAll mk j m=true→i<m→(mk.getD j 0).testBit i=true
 | 0,i,_,h=>by omega
 | m + 1,i,h,hi=>by
  rw [ancAll,Bool.and_eq_true] at h
  by_cases he:i=m
  ·subst he;exact h.1
  ·exact z366 h.2 (by omega)
def tailB (ops:Array Oper) (p:Nat):Bool:=(List.range ops.size).all fun j=>decide (j<p) || ancAll (masks ops.toList []) j j
theorem z103 {p:Nat} (h:tailB ops p=true):∀ i j,i<j→p≤j→j<ops.size→Anc ops i j:=fun i j hij hp hj=>by
 simp only [tailB,List.all_eq_true,List.mem_range] at h
 have:=h j hj
 simp only [Bool.or_eq_true,decide_eq_true_eq] at this
 exact z107 ops.toList [] (fun k i hk=>by simp at hk) (fun k o hk=>by simpa using hk) j i (z366 (this.resolve_left (by omega)) hij)
theorem z754 {l:Nat} {items:List (List DV)} (hG:GivesE P l J items) (ys:List Nat) (p:Nat) {id:Nat} {k:Option Nat} {Q:Exit→Option Nat→St→Prop} (hfol:P.follows .mixedOrders=true) (hback:backB ops=true) (hp:tailB ops p=true) (hps:p≤ops.size)
  (h:runD P ops (ops.toList.take p) 0 [] st fun s=>runE P l items ys ops (ops.toList.drop p) k s (Q .normal)):Walk P rd n J (.region id ops true) k st Q:=fun B base out μ tmps w ds hO hst hJ hM=>by
 obtain⟨rs,s1,hch,hrs,hpr,hrest⟩:=z130 (ops.toList.take p) 0 [] st _ (fun j o hj=>by
  rw [List.getElem?_take] at hj
  split at hj
  ·simpa using hj
  ·cases hj) h
 have hrl:rs.map (·.i)=List.range p:=by rw [hrs,List.range_eq_range'];simp [hps]
 have hlen:rs.length=p:=by have:=congrArg List.length hrl;simpa using this
 refine wpIn_region_any hfol ?_
 have hB0:Below w.heap.size w { w with drawn:=w.drawn + 1 }:=(Below.refl _ w).drew
 have hsz:ops.size=(ops.size - p) + p:=by omega
 conv=>arg 7;rw [hsz]
 have hpairs:=z187 (fun k i=>z107 ops.toList [] (fun k i hk=>by simp at hk) (fun k o hk=>by simpa using hk) k i) (by simpa using hpr:pairsB ops (masks ops.toList []) (rs.map Rec.key)=true)
 refine z561 (·.i) (fun a b=>indepB ops a.key b.key=true) (Chain P ops) (fun _ _ h=>by cases h;rfl) (fun r rs s s' h=>by cases h with | cons ho hd hl ht=>exact⟨_,_,ho,hd,hl.1.step,ht⟩) (fun r B s s' A hA h=>z919 A s hA h)
  hback p (fun i j hi hj hs=>z103 hp i j (by omega) hj hs) (ops.size - p) p _ rs st μ tmps _ hlen (by rw [hrl];exact List.pairwise_lt_range) (by simp) (fun i=>?_) (fun j hj hs=>by simp [hs]) (fun k o ho hk=>?_) hpairs hch (hst.below hB0) (fun listed' tmps' μ' w' g1 g2 g3 h1 hB hS=>?_)
 ·rw [hrl]
  simp only [List.mem_range,Array.getElem?_replicate]
  constructor
  ·intro hi;exact⟨hi,by rw [if_pos (by omega)]⟩
  ·intro hi;exact hi.1
 ·simp only [Array.getElem?_replicate] at hk
  split at hk <;> simp at hk
 ·have hB1:=(KeepO.below (own:=ownOf out μ) hB0 hst.le).trans hB
  refine z301 hback (z103 hp) (ops.size - p) p listed' _ w' (by omega) (Nat.le_refl _) g1 (fun i hi=>g2 i hi (by omega)) g3 ?_
  have hst1:Stays w (ownOf out μ) w' (ownOf out μ'):=⟨hB1.keep.below.size,hB1.stays⟩
  have:=z243 (n:=n) (rd:=rd) hG hO (ds:=ds) (Qm:=Ends P J B (dsts (.region id ops true)) (ownOf out μ) tmps w Q) (ops.toList.drop p) p k s1 (Q .normal) base out μ' tmps' w' (fun j o hj=>by simpa [List.getElem?_drop] using hj) hrest h1 (Firm.next hJ hB1.keep.below) (Nat.le_trans hM.1 hst1.1)
   (fun k' st' base' out' μ2 tmps2 w2 h2 hJ' hs hSa hk=>⟨k',st',base',out',μ2,h2,hJ',hM.stays (hst1.trans hs),hst1.trans hs,hS.trans (hSa.mono fun i hi=>?_),hk⟩)
  ·simpa using this
  ·exact z147 p hi
theorem z64 {l:Nat} {items:List (List DV)} (hG:GivesE P l J items) (ys:List Nat) (p:Nat) {id:Nat} {k:Option Nat} {cs:List Code} {Q:Exit→Option Nat→St→Prop} (hfol:P.follows .mixedOrders=true) (hback:backB ops=true) (hp:tailB ops p=true) (hps:p≤ops.size)
  (h:∀ K:Option Nat→St→Prop,(∀ k s,WalkL P rd n J cs k s Q→K k s)→runD P ops (ops.toList.take p) 0 [] st fun s=>runE P l items ys ops (ops.toList.drop p) k s K):WalkL P rd n J (.region id ops true::cs) k st Q :=
 z754 hG ys p hfol hback hp hps (h _ fun _ _ h=>h)
end
end Go.Ab
/- Contracts of iterators of the second kind,and of functions that hand on elements;the range over such an iterator. -/
namespace Go.Ab
open Go.RowKit
section
variable {P:Program} {base:Own} {out:Own} {st st':St} {μ:Pl} {tmps:Array Value} {w w':World} {J:Env} {k:Option Nat} {B:Nat}
theorem z725 {b o:Own} (h:Firm J k b o w):Firm (Firm J) k b o w:=fun _ hb=>h.next hb
theorem z1232 {b o:Own} (h:Firm (Firm J) k b o w):Firm J k b o w:=h w (.refl _ _)
theorem z1012 (hO:EnvOk B J):EnvOk B (Firm J):=fun k b o w w' r hr hno ho hF=>by
 by_cases hrs:r<w.heap.size
 ·exact z38 hO hF hr hno hrs ho
 ·intro w2 h2
  refine hF w2 ⟨h2.os.trans ho.wrote.os,h2.tape.trans ho.wrote.tape,h2.output.trans ho.wrote.output,by rw [← ho.wrote.size];exact h2.size,fun q hq=>?_⟩
  rw [h2.block q hq]
  by_cases he:q=r
  ·subst he
   rw [Array.getElem?_eq_none (Nat.le_of_not_lt hrs),Array.getElem?_eq_none (by rw [ho.wrote.size];exact Nat.le_of_not_lt hrs)]
  ·exact ho.wrote.block q he
theorem z1008 {l:Nat} {items:List (List DV)} (hG:GivesE P l J items):GivesE P l (Firm J) items:=by
 intro m kk b o X w vals row hi ho hb hF hX hrow
 refine z267 (hG m kk b o X w vals row hi ho hb (z1232 hF) hX hrow) ?_
 rintro e w' ⟨t,b',o',rfl,q1,q2,q3,q4,q5⟩
 exact⟨t,b',o',rfl,q1,q2,z725 q3,q4,q5⟩
def IterE (P:Program) (f:FuncId) (m0:List Blk) (args:Nat→List AV) (items:List (List DV)):Prop:=Enters P f ∧
 ∀ (l:Nat) (J:Env) (w:World) (b own:Own) (μ0:Pl) (vs:Array Value),EnvOk w.heap.size J→GivesE P l J items→(∀ x,own x→b x)→(∀ x,b x→x<w.heap.size)→MemRel b own w μ0 (m0.map some)→Hid P w (ownOf own μ0)→(args l).length=vs.size →
  (∀ (i:Nat) x v,(args l)[i]?=some x→vs[i]?=some v→AVRel w (ownOf own μ0) μ0 x v)→Firm J (some 0) b own w →
  Calls P f vs w fun e w'=>∃ v b' o',e=.returned v∧(∀ x,o' x→b' x)∧(∀ x,b' x→x<w'.heap.size)∧(Firm J (some items.length) b' o' w'∨Firm J none b' o' w')
theorem z254 {f:FuncId} {fn:Func} {c:Code} {m0:List Blk} {args:Nat→List AV} {items:List (List DV)} (M:Nat) (he:∀ args w,(callFunc f args).run P w=.ok (.enter f args) w) (hf:P.funcs[f]?=some fn) (hb:fn.body=some c) (h4:fn.results=#[])
  (hw:∀ l J,GivesE P l J items→WalkL P none 0 J [c] (some 0) (St.startG m0 (args l) fn.ntmps M) (fun e k _=>endsOk e∧(k=some items.length∨k=none))):IterE P f m0 args items:=by
 refine⟨he,fun l J w b own μ0 vs hO hG hown hle hM hh hl ha hJ=>?_⟩
 have hst0:=z447 (nt:=fn.ntmps) M hown hle hM hh hl ha
 refine z119 hf hb (by rw [h4];simp) hst0 (z21 (hw l (Firm J) (z1008 hG))) (z1012 hO) (z725 hJ) fun e k s hq=>?_
 refine⟨hq.1,.tup [],by simp [resultsA,h4,allSome,retA],fun base' out' μ tmps v w' hst _ hj _ _=>⟨v,base',out',rfl,hst.out,hst.le,?_⟩⟩
 rcases hq.2 with rfl | rfl
 ·exact .inl hj
 ·exact .inr hj
def nameV:AV→Option Nat
 | .vh n _ | .vc n _=>some n
 | _=>none
def pinsY (m0:List Blk) (args:List AV) (M:Nat) (s:St):List Nat→Nat→Prop
 | [],_=>True
 | p::ps,i=>(match args[p]?,(s.t[p]?:Option AV),m0[i]?,(s.m[M + i]?:Option (Option Blk)) with
  | some x,some y,some (.arrP e z rows),some (some (.arrP e' z' rows'))=>nameV x=some i∧nameV y=some (M + i)∧e=e'∧z=z'∧rows=rows'
  | _,_,_,_=>False)∧pinsY m0 args M s ps (i + 1)
def retY (P:Program) (rs:Array ResultVar) (m0:List Blk) (args:List AV) (M:Nat) (ps:List Nat) (items:List (List DV)) (ex:Exit) (k:Option Nat) (s:St):Prop :=
 endsOk ex∧bindK (resultsA P s rs) fun x=>match x with
  | .d (.bool t)=>(k=if t then some items.length else none)∧pinsY m0 args M s ps 0
  | _=>False
end
end Go.Ab
/- A range over an iterator of the second kind. -/
namespace Go.Ab
open Go.RowKit
def rangeOf (st:St) (g:Operand):Option (FuncId × List AV × List AV):=match st.ev g with
 | .d (.fn f caps)=>some (f,[],caps.map .d)
 | .fn f caps=>some (f,[],caps)
 | .d (.bnd f first)=>some (f,first.map .d,[])
 | _=>none
def ceded (st:St) (all:List Nat):List Nat→Option (List Blk)
 | []=>some []
 | n::ns=>match (st.m[n]?:Option (Option Blk)),ceded st all ns with
  | some (some b),some l=>some (b.mapN (inv all)::l)
  | _,_=>none
def cedeM (ns:List Nat):List (Option Blk)→Nat→List (Option Blk)
 | [],_=>[]
 | b::l,i=>(if ns.contains i then none else b.map (Blk.mapN (kp ns)))::cedeM ns l (i + 1)
def St.cede (ns:List Nat) (st:St):St:=match ns with
 | []=>st
 | ns=>{ t:=st.t.map (AV.mapN (kp ns)),m:=cedeM ns st.m 0 }
section
variable {P:Program} {base:Own} {out:Own} {st st':St} {μ:Pl} {tmps:Array Value} {w w':World} {J:Env} {k:Option Nat} {B:Nat}
theorem z739 {all:List Nat}:∀ {ns:List Nat} {m0:List Blk},ceded st all ns=some m0→ns.length=m0.length∧∀ (i:Nat) b,m0[i]?=some b→∃ (n:Nat) (b':Blk),ns[i]?=some n∧st.m[n]?=some (some b')∧b=b'.mapN (inv all)
 | [],m0,h=>by cases h;exact⟨rfl,fun i b h=>by simp at h⟩
 | n::ns,m0,h=>by
  unfold ceded at h
  split at h
  ·rename_i b l hb hl
   cases h
   obtain⟨h1,h2⟩:=z739 hl
   refine⟨by simp [h1],fun i b' hi=>?_⟩
   cases i with
   | zero=>simp at hi;subst hi;exact⟨n,b,rfl,hb,rfl⟩
   | succ i=>simpa using h2 i b' (by simpa using hi)
  ·cases h
theorem z357 {ns:List Nat}:∀ {m:List (Option Blk)} {i j:Nat},(cedeM ns m i)[j]?=(m[j]?).map fun b=>if ns.contains (i + j) then none else b.map (Blk.mapN (kp ns))
 | [],i,j=>by simp [cedeM]
 | b::l,i,0=>by simp [cedeM]
 | b::l,i,j + 1=>by
  have:=z357 (ns:=ns) (m:=l) (i:=i + 1) (j:=j)
  simp only [cedeM,List.getElem?_cons_succ]
  rw [this,show i + 1 + j=i + (j + 1) by omega]
theorem z1223 {ns:List Nat} {n k:Nat} (h:kp ns n=some k):k=n∧n ∉ ns:=by
 unfold kp at h
 split at h
 ·cases h
 ·rename_i hn
  cases h
  exact⟨rfl,by simpa using hn⟩
def ownsOf (μ:Pl) (ns:List Nat):Own:=fun b=>∃ n z l c,n ∈ ns∧μ n=some (.at b z l c)
theorem z1192 (h:StRel P base out st μ tmps w) (ns:List Nat):∃ μk:Pl,StRel P (fun x=>base x∨ownsOf μ ns x) (fun x=>out x∨ownsOf μ ns x) (st.cede ns) μk tmps w∧(∀ n,n ∉ ns→μk n=μ n)∧(∀ n,n ∈ ns→μk n=none):=by
 obtain⟨μk,hμk⟩:∃ μk:Pl,μk=fun n=>if ns.contains n then none else μ n:=⟨_,rfl⟩
 have h1:∀ n,n ∉ ns→μk n=μ n:=fun n hn=>by rw [hμk];simp [hn]
 have h2:∀ n,n ∈ ns→μk n=none:=fun n hn=>by rw [hμk];simp [hn]
 have hk:∀ n L,μk n=some L→n ∉ ns∧μ n=some L:=fun n L hn=>by
  by_cases hm:n ∈ ns
  ·rw [h2 n hm] at hn;cases hn
  ·exact⟨hm,by rw [← h1 n hm];exact hn⟩
 have hown:∀ x,ownOf (fun x=>out x∨ownsOf μ ns x) μk x→ownOf out μ x:=by
  rintro x ((hx | ⟨n,z,l,c,_,hn⟩) | ⟨n,z,l,c,hn⟩)
  ·exact .inl hx
  ·exact .inr ⟨n,z,l,c,hn⟩
  ·exact .inr ⟨n,z,l,c,(hk n _ hn).2⟩
 have hg:Goes w (ownOf out μ) w (ownOf (fun x=>out x∨ownsOf μ ns x) μk):=fun b o v q1 q2=>⟨fun hc=>q1 (hown b hc),q2⟩
 have hnb:∀ n b z l c,μk n=some (.at b z l c)→¬ (base b∨ownsOf μ ns b):=by
  rintro n b z l c hn (hc | ⟨n',z',l',c',hm,hn'⟩)
  ·exact (h.mem.base n b z l c (hk n _ hn).2).1 hc
  ·have:=h.mem.inj n n' b _ _ _ _ _ _ (hk n _ hn).2 hn'
   exact (hk n _ hn).1 (this ▸ hm)
 have hout:∀ x,(out x∨ownsOf μ ns x)→base x∨ownsOf μ ns x:=fun x hx=>hx.imp (h.out x) id
 have hle:∀ x,(base x∨ownsOf μ ns x)→x<w.heap.size:=fun x hx=>hx.elim (h.le x) fun ⟨n,z,l,c,_,hn⟩=>z31 h.mem hn
 refine⟨μk,?_,h1,h2⟩
 cases ns with
 | nil =>
  have e:μk=μ:=funext fun n=>h1 n (by simp)
  subst e
  exact⟨h.size,fun i x v q1 q2=>(h.tmp i x v q1 q2).goes hg (fun _ _ _=>rfl),⟨fun m blk hm=>(h.mem.blk m blk hm).goes hg rfl (fun _ _=>rfl) (fun _ _ _ _ _=>rfl),h.mem.dom,h.mem.inj,fun m b z l c hb=>⟨hnb m b z l c hb,(h.mem.base m b z l c hb).2.1,fun hc=>hnb m b z l c hb (hout b hc)⟩⟩,h.hid.goes hg,hout,hle⟩
 | cons n0 ns0 =>
  obtain⟨ns,hns⟩:∃ ns,ns=n0::ns0:=⟨_,rfl⟩
  rw [← hns] at h1 h2 hk hown hg hnb hout hle ⊢
  have hst:st.cede ns={ t:=st.t.map (AV.mapN (kp ns)),m:=cedeM ns st.m 0 }:=by rw [hns];rfl
  rw [hst]
  have hkp:∀ n,(μ n).isSome→∀ k,kp ns n=some k→μk k=μ n:=fun n _ k hk'=>by obtain⟨rfl,hn⟩:=z1223 hk';exact h1 _ hn
  refine⟨by rw [h.size];simp,fun i x v q1 q2=>?_,⟨fun m blk hm=>?_,fun m hm=>?_,fun a k b z l c z' l' c' q1 q2=>h.mem.inj a k b _ _ _ _ _ _ (hk a _ q1).2 (hk k _ q2).2,fun m b z l c hb=>⟨hnb m b z l c hb,(h.mem.base m b z l c (hk m _ hb).2).2.1,fun hc=>hnb m b z l c hb (hout b hc)⟩⟩,h.hid.goes hg,hout,hle⟩
  ·simp only [List.getElem?_map,Option.map_eq_some_iff] at q1
   obtain⟨y,q1,rfl⟩:=q1
   exact (h.tmp i y v q1 q2).mapN (.inl hg) (fun n _ hs k hk'=>hkp n hs k hk')
  ·rw [z357] at hm
   simp only [Nat.zero_add,Option.map_eq_some_iff] at hm
   obtain⟨ob,hob,hb⟩:=hm
   split at hb
   ·cases hb
   ·rename_i hn
    simp only [Option.map_eq_some_iff] at hb
    obtain⟨b0,rfl,rfl⟩:=hb
    exact BlkRel.mapN (.inl hg) (h1 m (by simpa using hn)) hkp (fun _ _ _ _ _=>rfl) (h.mem.blk m b0 hob)
  ·obtain⟨L,hL⟩:=Option.isSome_iff_exists.1 hm
   obtain⟨hn,hL'⟩:=hk m L hL
   obtain⟨b,hb⟩:=h.mem.dom m (by rw [hL'];rfl)
   exact⟨b.mapN (kp ns),by rw [z357,hb];simp [hn]⟩
theorem z451 (h:StRel P base out st μ tmps w) {g:Operand} {f:FuncId} {pre post:List AV} (hc:rangeOf st g=some (f,pre,post)) :
  ∃ fst caps:Array Value,val tmps g=.func (.func f) fst caps∧pre.length=fst.size∧post.length=caps.size∧(∀ (i:Nat) x v,pre[i]?=some x→fst[i]?=some v→AVRel w (ownOf out μ) μ x v) ∧
   ∀ (i:Nat) x v,post[i]?=some x→caps[i]?=some v→AVRel w (ownOf out μ) μ x v:=by
 have hf:=h.ev g []
 unfold rangeOf at hc
 split at hc
 ·rename_i f' caps hev
  cases hc
  rw [hev] at hf
  obtain⟨vs,hv,hl,hd⟩:=z547 hf
  exact⟨#[],vs,hv,rfl,by simpa using hl,fun i x v q=>by simp at q,fun i x v q1 q2=>by
   simp only [List.getElem?_map,Option.map_eq_some_iff] at q1
   obtain⟨d,q1,rfl⟩:=q1
   exact .d (hd i d v q1 q2)⟩
 ·rename_i f' caps hev
  cases hc
  rw [hev] at hf
  obtain⟨vs,hv,hl,hd⟩:=z1087 hf
  exact⟨#[],vs,hv,rfl,hl,fun i x v q=>by simp at q,hd⟩
 ·rename_i f' ds hev
  cases hc
  rw [hev] at hf
  obtain⟨vs,hv,hl,hd⟩:=z1090 hf
  exact⟨vs,#[],hv,by simpa using hl,rfl,fun i x v q1 q2=>by
   simp only [List.getElem?_map,Option.map_eq_some_iff] at q1
   obtain⟨d,q1,rfl⟩:=q1
   exact .d (hd i d v q1 q2),fun i x v q=>by simp at q⟩
 ·cases hc
theorem z485 {own:Own} {xs ys:List AV} {us vs:Array Value} (hl:xs.length=us.size) (h1:∀ (i:Nat) x v,xs[i]?=some x→us[i]?=some v→AVRel w own μ x v) (h2:∀ (i:Nat) x v,ys[i]?=some x→vs[i]?=some v→AVRel w own μ x v) :
  ∀ (i:Nat) x v,(xs++ys)[i]?=some x→(us++vs)[i]?=some v→AVRel w own μ x v:=fun i x v hx hv=>by
 by_cases hi:i<xs.length
 ·rw [List.getElem?_append_left hi] at hx
  rw [Array.getElem?_append_left (by omega)] at hv
  exact h1 i x v hx hv
 ·rw [List.getElem?_append_right (by omega)] at hx
  rw [Array.getElem?_append_right (by omega),← hl] at hv
  exact h2 _ x v hx hv
set_option maxHeartbeats 4000000 in
theorem z271 {n:Nat} {α:Type} {cs:List Code} {Q:Exit→Option Nat→St→Prop} {g:Operand} {ps:Array Tmp} {assign body:Code} {f:FuncId} {pre post:List AV} {items:List (List DV)} (ns:List Nat) {m0:List Blk}
  (hg:rangeOf st g=some (f,pre,post)) (hnd:ns.Nodup) (hm0:ceded st ns ns=some m0) (hit:IterE P f m0 (fun l=>(pre++.d (.yld l)::post).map (AV.mapN (inv ns))) items) (hps:∀ row ∈ items,row.length=ps.size)
  (fs:α→St) (I:Option Nat→Nat→α→Prop) (Ix:Exit→Option Nat→α→Prop) (a0:α) (hw:Weak (st.cede ns) (fs a0)) (h0:I k 0 a0)
  (hround:∀ X W k' i a row,items[i]?=some row→I k' i a→∀ l m,WalkL P (some l) m (lendJ X W J) [assign] k' { t:=setPs ps.toList row (fs a).t,m:=(fs a).m }
   (thenA (fun k2 s=>WalkL P (some l) m (lendJ X W J) [body] k2 s fun e k3 s3=>match e with
    | .normal=>∃ a',Weak (s3.wipe (dsts (.rangeFunc g ps assign body))) (fs a')∧I k3 (i + 1) a'
    | e=>(jumpCode e).isSome∧∃ a',Weak (s3.wipe (dsts (.rangeFunc g ps assign body))) (fs a')∧Ix e k3 a') (fun _ _ _=>False)))
  (hdone:∀ k' a,I k' items.length a→WalkL P none n J cs k' (fs a) Q) (hstop:∀ e k' a,Ix e k' a→(jumpCode e).isSome→Q e k' (fs a)) :
  WalkL P none n J (.rangeFunc g ps assign body::cs) k st Q:=by
 intro B base out μ tmps w ds hO hA hJ hM
 obtain⟨fst,caps,hgv,hpl,hql,hpre,hpost⟩:=z451 hA hg
 obtain⟨μk,hAk,hk1,hk2⟩:=z1192 hA ns
 obtain⟨X0,hX0⟩:∃ X0:Own,X0=ownsOf μ ns:=⟨_,rfl⟩
 rw [← hX0] at hAk
 have hX0w:∀ x,X0 x→ownOf out μ x∧¬ base x∧x<w.heap.size:=fun x hx=>by
  rw [hX0] at hx
  obtain⟨m,z,l,c,_,hm⟩:=hx
  exact⟨.inr ⟨m,z,l,c,hm⟩,(hA.mem.base m x z l c hm).1,(hA.mem.base m x z l c hm).2.1⟩
 obtain⟨μ0,hA0,hsub0⟩:=hw P _ _ μk tmps w hAk
 have hkown:∀ x,ownOf (fun x=>out x∨X0 x) μk x→ownOf out μ x:=by
  rintro x ((hx | hx) | ⟨m,z,l,c,hm⟩)
  ·exact .inl hx
  ·exact (hX0w x hx).1
  ·by_cases hmn:m ∈ ns
   ·rw [hk2 m hmn] at hm;cases hm
   ·exact .inr ⟨m,z,l,c,by rw [← hk1 m hmn];exact hm⟩
 have hsub1:∀ x,ownOf out μ0 x→ownOf out μ x:=fun x hx=>hkown x (hsub0 x (hx.imp .inl id))
 have hX0n:∀ x,X0 x→¬ ownOf out μ0 x:=by
  rintro x hx (hc | hc)
  ·exact (hX0w x hx).2.1 (hA.out x hc)
  ·exact (hA0.own_base x hc).1 (.inr hx)
 refine wpIn_rangeFunc ?_
 intro fn hfn
 obtain⟨rec,hrec⟩:∃ rec:LoopState→Option Code→Loop,rec=fun st pe=>{ state:=st,pending:=pe,fn,tmps:=tmps,params:=ps,assign,body,defers:=w.heap.size }:=⟨_,rfl⟩
 obtain⟨W1,hW1⟩:∃ W1,(w.alloc (.deferred (some []))).alloc (.loop (rec .ready none))=W1:=⟨_,rfl⟩
 have hL1:W1.heap[w.heap.size + 1]?=some (.loop (rec .ready none)):=by
  rw [← hW1];have:=World.alloc_heap_new (w.alloc (.deferred (some []))) (.loop (rec .ready none));rwa [World.size_alloc] at this
 have hK1:W1.heap[w.heap.size]?=some (.deferred (some [])):=by
  rw [← hW1];exact (Below.heap_alloc _ _ _ (by simp)).trans (World.alloc_heap_new w _)
 have hB1:Below w.heap.size w W1:=by
  rw [← hW1];exact ((Below.refl _ w).alloc (Nat.le_refl _) _).alloc (by simp) _
 have hz1:W1.heap.size=w.heap.size + 2:=by rw [← hW1];simp
 obtain⟨JJ,hJJ⟩:∃ JJ:Env,JJ=fun ki bs os W=>∃ (e:Exit) (kk:Option Nat) (a:α) (b' o':Own) (μ':Pl) (X:Own),
   (∀ x,os x↔ownOf o' μ' x∨x=w.heap.size + 1)∧(∀ x,x<W.heap.size→bs x∨X x) ∧
   (∀ x,X x→x<W.heap.size∧¬ b' x∧¬ ownOf o' μ' x∧x≠w.heap.size∧x≠w.heap.size + 1∧(ownOf out μ x∨w.heap.size + 1<x))∧(∀ x,o' x→b' x) ∧
   StRel P (fun x=>b' x∨X x) (fun x=>o' x∨X x) (fs a) μ' tmps W∧Firm J kk b' o' W∧Stays w (ownOf out μ) W (ownOf o' μ')∧¬ ownOf o' μ' w.heap.size∧¬ ownOf o' μ' (w.heap.size + 1) ∧
   W.heap[w.heap.size]?=some (.deferred (some [])) ∧
   match ki with
   | some i=>I kk i a∧W.heap[w.heap.size + 1]?=some (.loop (rec .ready none))
   | none=>Ix e kk a∧(jumpCode e).isSome∧W.heap[w.heap.size + 1]?=some (.loop (rec .done (jumpCode e))):=⟨_,rfl⟩
 have hBw:B≤w.heap.size:=hM.1
 -- JJ abides
 have hclose:∀ ki bs os W W',JJ ki bs os W→BelowU bs W W'→JJ ki bs os W':=by
  rw [hJJ]
  rintro ki bs os W W' ⟨e,kk,a,b',o',μ',X,g1,g2,g3,g4,g5,g6,g7,g8,g9,g10,g11⟩ hB
  have hr0:w.heap.size<W.heap.size:=(Array.getElem?_eq_some_iff.1 g10).1
  have hr1:w.heap.size + 1<W.heap.size:=by
   cases ki with
   | some i=>exact (Array.getElem?_eq_some_iff.1 g11.2).1
   | none=>exact (Array.getElem?_eq_some_iff.1 g11.2.2).1
  have hlt:∀ x,(b' x∨X x)→x<W.heap.size:=g5.le
  have holt:∀ x,ownOf o' μ' x→x<W.heap.size:=fun x hx=>z32 g5 x (hx.imp .inl id)
  have hin:∀ x,x<W.heap.size→¬ X x→W'.heap[x]?=W.heap[x]?:=fun x hx hno=>hB.block x ((g2 x hx).resolve_right hno)
  have hl0:W'.heap[w.heap.size]?=some (.deferred (some [])):=by rw [hin _ hr0 (fun hc=>(g3 _ hc).2.2.2.1 rfl)];exact g10
  have hl1:W'.heap[w.heap.size + 1]?=W.heap[w.heap.size + 1]?:=hin _ hr1 (fun hc=>(g3 _ hc).2.2.2.2.1 rfl)
  refine⟨e,kk,a,b',o',μ',fun x=>X x∨(W.heap.size≤x∧x<W'.heap.size),g1,fun x hx=>?_,fun x hx=>?_,g4,?_,g6.next (hB.mono fun x hx=>(g2 x (hlt x (.inl hx))).resolve_right fun hc=>(g3 x hc).2.1 hx),⟨Nat.le_trans g7.1 hB.size,fun x hx ho=>?_⟩,g8,g9,hl0,?_⟩
  ·by_cases hlt':x<W.heap.size
   ·exact (g2 x hlt').imp id .inl
   ·exact .inr (.inr ⟨by omega,hx⟩)
  ·rcases hx with hx | hx
   ·obtain⟨q1,q2⟩:=g3 x hx
    exact⟨Nat.lt_of_lt_of_le q1 hB.size,q2⟩
   ·exact⟨hx.2,fun hc=>by have:=hlt x (.inl hc);omega,fun hc=>by have:=holt x hc;omega,by omega,by omega,.inr (by omega)⟩
  ·refine g5.next hB.size (fun x hx hno=>hin x hx fun hc=>hno (.inr hc)) (fun x hx=>hx.imp (g4 x) id) (fun x hx=>?_) (fun x hx=>?_) (fun x hx=>?_)
   ·rcases hx with hx | hx | hx
    ·exact Nat.lt_of_lt_of_le (hlt x (.inl hx)) hB.size
    ·exact Nat.lt_of_lt_of_le (hlt x (.inr hx)) hB.size
    ·exact hx.2
   ·rcases hx with hx | hx | hx
    ·exact .inl (.inl hx)
    ·exact .inl (.inr hx)
    ·exact .inr hx.1
   ·have:=g5.own_base x hx
    rintro (hc | hc | hc)
    ·exact this.1 (.inl hc)
    ·exact this.1 (.inr hc)
    ·omega
  ·obtain⟨p1,p2⟩:=g7.2 x hx ho
   have hxW:x<W.heap.size:=by omega
   exact⟨(hin x hxW fun hc=>by rcases (g3 x hc).2.2.2.2.2 with h | h;exact ho h;omega).trans p1,p2⟩
  ·cases ki with
   | some i=>exact⟨g11.1,by rw [hl1];exact g11.2⟩
   | none=>exact⟨g11.1,g11.2.1,by rw [hl1];exact g11.2.2⟩
 have hfirm:∀ ki bs os W,JJ ki bs os W→Firm JJ ki bs os W:=fun ki bs os W h W' hB=>hclose ki bs os W W' h hB
 have hOJ:EnvOk W1.heap.size JJ:=by
  rw [hJJ]
  rintro ki bs os W W' r hr hno ho ⟨e,kk,a,b',o',μ',X,g1,g2,g3,g4,g5,g6,g7,g8,g9,g10,g11⟩
  have hr1:r≠w.heap.size:=by omega
  have hr2:r≠w.heap.size + 1:=by omega
  have hnr:¬ o' r:=fun hc=>hno ((g1 r).2 (.inl (.inl hc)))
  refine⟨e,kk,a,b',o',μ',X,g1,by rw [ho.wrote.size];exact g2,by rw [ho.wrote.size];exact g3,g4,g5.other ho,z69 hO g6 (fun x hx=>g5.le x (.inl hx)) (by omega) hnr ho,⟨by rw [ho.wrote.size];exact g7.1,fun x hx hob=>?_⟩,g8,g9,
   by rw [ho.wrote.block _ (Ne.symm hr1)];exact g10,?_⟩
  ·rw [ho.wrote.block x (by omega)];exact g7.2 x hx hob
  ·cases ki with
   | some i=>exact⟨g11.1,by rw [ho.wrote.block _ (Ne.symm hr2)];exact g11.2⟩
   | none=>exact⟨g11.1,g11.2.1,by rw [ho.wrote.block _ (Ne.symm hr2)];exact g11.2.2⟩
 have hG:GivesE P (w.heap.size + 1) JJ items:=by
  intro m i bs os Xi W vals row hi hob hbs hF hXi hrow
  have hj:=hF W (.refl _ _)
  rw [hJJ] at hj
  obtain⟨_,kk,a,b',o',μ',X,g1,g2,g3,g4,g5,g6,g7,g8,g9,g10,h7,h8⟩:=hj
  have hXX:∀ x,Xi x→X x:=fun x hx=>(g2 x (hXi x hx).2).resolve_left (hXi x hx).1
  have hrl:=hps row (List.mem_of_getElem? hi)
  have hlt:w.heap.size + 1<W.heap.size:=(Array.getElem?_eq_some_iff.1 h8).1
  have hy:=run_yield (P:=P) (args:=vals) h8 (by rw [hrec];simp only;rw [← hrow.1,hrl])
  rw [hrec] at hy
  refine⟨fn,_,assign,body,hy,roundIn_of_wpIn trivial ?_⟩
  have hb0:StRel P (fun x=>b' x∨Xi x) (fun x=>o' x∨Xi x) (fs a) μ' tmps W:=by
   refine g5.next (Nat.le_refl _) (fun _ _ _=>rfl) (fun x hx=>hx.imp (g4 x) id) (fun x hx=>g5.le x (hx.imp id (hXX x))) (fun x hx=>.inl (hx.imp id (hXX x))) (fun x hx=>?_)
   have:=(g5.own_base x hx).1
   exact fun hc=>this (hc.imp id (hXX x))
  have hz:StRel P (fun x=>b' x∨Xi x) (fun x=>o' x∨Xi x) { t:=setPs ps.toList row (fs a).t,m:=(fs a).m } μ' ((ps.zip vals).foldl (fun t (p,v)=>t.setIfInBounds p v) tmps) W:=by
   have:=z488 ps.toList row vals.toList (fs a) tmps (by simpa using hrow.1) (fun i d v hd hv=>(hrow.2 i d v hd (by simpa using hv)).goes fun b o v h1 h2=>⟨fun hc=>h1 (by
    rcases hc with (hc | hc) | hc
    ·exact .inl ((g1 b).2 (.inl (.inl hc)))
    ·exact .inr hc
    ·exact .inl ((g1 b).2 (.inl (.inr hc)))),h2⟩) hb0
   rwa [← Array.toList_zip,← Array.foldl_toList] at *
  have hzs:Same ps.toList tmps ((ps.zip vals).foldl (fun t (p,v)=>t.setIfInBounds p v) tmps):=by
   have:=z209 ps.toList vals.toList tmps
   rwa [← Array.toList_zip,Array.foldl_toList] at this
  have hXb:∀ x,Xi x→¬ b' x∧x<W.heap.size:=fun x hx=>⟨(g3 x (hXX x hx)).2.1,(hXi x hx).2⟩
  have hO1:=z472 hO Xi W
  have hJ0:Firm (lendJ Xi W J) kk (fun x=>b' x∨Xi x) (fun x=>o' x∨Xi x) W:=z350 hXb (fun _ _=>rfl) g4 (fun x hx=>g5.le x (.inl hx)) g6
  have hnR1:¬ ownOf (fun x=>o' x∨Xi x) μ' (w.heap.size + 1):=by
   rintro ((hc | hc) | hc)
   ·exact g9 (.inl hc)
   ·exact (g3 _ (hXX _ hc)).2.2.2.2.1 rfl
   ·exact g9 (.inr hc)
  have hnR0:¬ ownOf (fun x=>o' x∨Xi x) μ' w.heap.size:=by
   rintro ((hc | hc) | hc)
   ·exact g8 (.inl hc)
   ·exact (g3 _ (hXX _ hc)).2.2.2.1 rfl
   ·exact g8 (.inr hc)
  have hr0:=z21 (hround Xi W kk i a row hi h7 (w.heap.size + 1) m) B _ _ μ' _ W [] hO1 hz hJ0 (.nil (by omega))
  refine wpIn_mono hr0 ?_
  rintro e a1 w1 ⟨k1,s1,b1,o1,μ1,hA1,hJ1,hM1,hst1,hsa1,hq1⟩
  cases e with
  | normal =>
   have hl1:w1.heap[w.heap.size + 1]?=some (.loop (rec .ready none)):=by rw [(hst1.2 _ hlt hnR1).1];exact h8
   have hno1:¬ ownOf o1 μ1 (w.heap.size + 1):=(hst1.2 _ hlt hnR1).2
   have hd1:w1.heap[w.heap.size]?=some (.deferred (some [])):=by rw [(hst1.2 _ (by omega) hnR0).1];exact g10
   have hnd1:¬ ownOf o1 μ1 w.heap.size:=(hst1.2 _ (by omega) hnR0).2
   have ho1:Other (w.heap.size + 1) w1 (w1.putObj (w.heap.size + 1) (.loop { rec .ready none with state:=.busy })):=z41 hl1 (fun _ _ _ e=>by cases e) (fun _ _ e=>by cases e)
   refine⟨_,run_beginRound hl1 (by rw [hrec]),?_⟩
   have hlt1:w.heap.size + 1<w1.heap.size:=(Array.getElem?_eq_some_iff.1 hl1).1
   have hM2:Marked B (ownOf o1 μ1) a1.defers (w1.putObj (w.heap.size + 1) (.loop { rec .ready none with state:=.busy })):=by
    obtain⟨q0,rs,q1,q2,q3⟩:=hM1
    refine⟨by simpa using q0,rs,q1,q2,fun r hr=>⟨(q3 r hr).1,(q3 r hr).2.1,?_⟩⟩
    rw [World.putObj_heap_other (fun e=>by subst e;have:=(q3 _ hr).2.2;rw [hl1] at this;cases this)]
    exact (q3 r hr).2.2
   have hbd:=z21 hq1 B b1 o1 μ1 a1.tmps _ a1.defers hO1 (hA1.other ho1) (z69 hO1 hJ1 hA1.le (by omega) (fun hc=>hno1 (.inl hc)) ho1) hM2
   refine wpIn_mono hbd ?_
   rintro e2 a2 w2 ⟨k2,s2,b2,o2,μ2,hA2,hJ2,hM3,hst2,hsa2,hq2⟩
   have hz2:(w1.putObj (w.heap.size + 1) (.loop { rec .ready none with state:=.busy })).heap.size=w1.heap.size:=by simp
   have hl2:w2.heap[w.heap.size + 1]?=some (.loop { rec .ready none with state:=.busy }):=by
    rw [(hst2.2 _ (by rw [hz2];exact hlt1) hno1).1];exact World.putObj_heap_same hlt1
   have hno2:¬ ownOf o2 μ2 (w.heap.size + 1):=(hst2.2 _ (by rw [hz2];exact hlt1) hno1).2
   have hd2:w2.heap[w.heap.size]?=some (.deferred (some [])):=by
    rw [(hst2.2 _ (by rw [hz2];omega) hnd1).1,World.putObj_heap_other (by omega)];exact hd1
   have hnd2:¬ ownOf o2 μ2 w.heap.size:=(hst2.2 _ (by rw [hz2];omega) hnd1).2
   obtain⟨j1,j2,j3,j4,j5⟩:=hJ2 w2 (.refl _ _)
   have hsame:Same (dsts (.rangeFunc g ps assign body)) tmps a2.tmps :=
    ((hzs.mono fun i hi=>by simp only [dsts,List.mem_append];exact .inl hi).trans (hsa1.mono fun i hi=>by simp only [dsts,List.mem_append];exact .inr (.inl hi))).trans (hsa2.mono fun i hi=>by simp only [dsts,List.mem_append];exact .inr (.inr hi))
   have hall:∀ (b:Nat),b<W.heap.size→b≠w.heap.size + 1→¬ ownOf (fun x=>o' x∨Xi x) μ' b→w2.heap[b]?=W.heap[b]?∧¬ ownOf o2 μ2 b:=by
    intro b hb hne ho
    obtain⟨p1,p2⟩:=hst1.2 b hb ho
    obtain⟨p3,p4⟩:=hst2.2 b (by rw [hz2];exact Nat.lt_of_lt_of_le hb hst1.1) p2
    exact⟨p3.trans ((World.putObj_heap_other hne).trans p1),p4⟩
   have hsz:W.heap.size≤w2.heap.size:=Nat.le_trans hst1.1 (by rw [← hz2];exact hst2.1)
   have hlt2:w.heap.size + 1<w2.heap.size:=(Array.getElem?_eq_some_iff.1 hl2).1
   have fin:∀ (pe:Option Code) (stt:LoopState) (a':α) (ki:Option Nat) (e':Exit),Weak (s2.wipe (dsts (.rangeFunc g ps assign body))) (fs a')→∀ W5,W5=w2.putObj (w.heap.size + 1) (.loop (rec stt pe)) →
     (match ki with
      | some i=>I k2 i a'∧stt=.ready∧pe=none
      | none=>Ix e' k2 a'∧(jumpCode e').isSome∧stt=.done∧pe=jumpCode e') →
     ∃ b3 o3,(∀ x,o3 x→b3 x)∧(∀ x,b3 x→x<W5.heap.size)∧Firm JJ ki b3 o3 W5∧Stays W os W5 o3∧∀ x,Xi x→¬ b3 x:=by
    rintro pe stt a' ki e' hwk W5 rfl hki
    have ho2:Other (w.heap.size + 1) w2 (w2.putObj (w.heap.size + 1) (.loop (rec stt pe))):=z41 hl2 (fun _ _ _ e=>by cases e) (fun _ _ e=>by cases e)
    obtain⟨μ5,h51,h52⟩:=hwk P b2 o2 μ2 tmps _ (z489 (hA2.other ho2) hsame)
    have hXi2:∀ x,Xi x→b2 x:=fun x hx=>j3 x (j1 x hx)
    have h5n:∀ x,Xi x→¬ μ5.owns x:=fun x hx hc=>(h51.own_base x hc).1 (hXi2 x hx)
    have hold:∀ x,ownOf (fun x=>o2 x∧¬ Xi x) μ5 x→ownOf o2 μ2 x:=fun x hx=>h52 x (hx.imp (·.1) id)
    have hWW:∀ x,x<W.heap.size→x≠w.heap.size + 1→¬ ownOf o' μ' x→(w2.putObj (w.heap.size + 1) (.loop (rec stt pe))).heap[x]?=W.heap[x]?∧¬ ownOf (fun x=>o2 x∧¬ Xi x) μ5 x:=fun x hx hne ho=>by
     rw [World.putObj_heap_other hne]
     by_cases hxi:Xi x
     ·exact⟨j2 x hxi,fun hc=>hc.elim (fun h=>h.2 hxi) (h5n x hxi)⟩
     ·obtain⟨p1,p2⟩:=hall x hx hne (fun hc=>hc.elim (fun h=>h.elim (fun h=>ho (.inl h)) hxi) fun h=>ho (.inr h))
      exact⟨p1,fun hc=>p2 (hold x hc)⟩
    have hsz5:(w2.putObj (w.heap.size + 1) (.loop (rec stt pe))).heap.size=w2.heap.size:=by simp
    have hXR:∀ x,Xi x→x≠w.heap.size + 1:=fun x hx=>(g3 x (hXX x hx)).2.2.2.2.1
    refine⟨fun x=>x<(w2.putObj (w.heap.size + 1) (.loop (rec stt pe))).heap.size∧¬ Xi x,fun x=>ownOf (fun x=>o2 x∧¬ Xi x) μ5 x∨x=w.heap.size + 1,?_,fun x hx=>hx.1,hfirm _ _ _ _ ?_,⟨by rw [hsz5];exact hsz,fun x hx hno=>?_⟩,fun x hx hc=>hc.2 hx⟩
    ·rintro x (hx | rfl)
     ·exact⟨z32 h51 x (hx.imp (·.1) id),fun hxi=>hx.elim (fun h=>h.2 hxi) (h5n x hxi)⟩
     ·exact⟨by rw [hsz5];exact hlt2,fun hxi=>hXR _ hxi rfl⟩
    ·rw [hJJ]
     refine⟨e',k2,a',fun x=>b2 x∧¬ Xi x,fun x=>o2 x∧¬ Xi x,μ5,Xi,fun x=>Iff.rfl,fun x hx=>?_,fun x hx=>⟨?_,fun hc=>hc.2 hx,fun hc=>hc.elim (fun h=>h.2 hx) (h5n x hx),(g3 x (hXX x hx)).2.2.2.1,hXR x hx,(g3 x (hXX x hx)).2.2.2.2.2⟩,fun x hx=>⟨j3 x hx.1,hx.2⟩,?_,z69 hO j5 (fun x hx=>j4 x hx.1) (by omega) (fun hc=>hno2 (.inl hc.1)) ho2,⟨?_,fun x hx ho=>?_⟩,fun hc=>hnd2 (hold _ hc),fun hc=>hno2 (hold _ hc),?_,?_⟩
     ·by_cases hxi:Xi x
      ·exact .inr hxi
      ·exact .inl ⟨hx,hxi⟩
     ·rw [hsz5];exact Nat.lt_of_lt_of_le (hXi x hx).2 hsz
     ·refine h51.next (Nat.le_refl _) (fun _ _ _=>rfl) (fun x hx=>?_) (fun x hx=>h51.le x (hx.elim (·.1) (hXi2 x))) (fun x hx=>.inl (hx.elim (·.1) (j1 x))) (fun x hx=>?_)
      ·exact hx.imp (fun h=>⟨j3 x h.1,h.2⟩) id
      ·have:=(h51.own_base x hx).1
       exact fun hc=>this (hc.elim (·.1) (hXi2 x))
     ·rw [hsz5];exact Nat.le_trans g7.1 hsz
     ·obtain⟨p1,p2⟩:=g7.2 x hx ho
      obtain⟨p3,p4⟩:=hWW x (Nat.lt_of_lt_of_le hx g7.1) (by omega) p2
      exact⟨p3.trans p1,p4⟩
     ·rw [World.putObj_heap_other (by omega)];exact hd2
     ·cases ki with
      | some i =>
       obtain⟨q1,rfl,rfl⟩:=hki
       exact⟨q1,World.putObj_heap_same hlt2⟩
      | none =>
       obtain⟨q1,q2,rfl,rfl⟩:=hki
       exact⟨q1,q2,World.putObj_heap_same hlt2⟩
    ·have hno':¬ ownOf o' μ' x∧x≠w.heap.size + 1:=⟨fun hc=>hno ((g1 x).2 (.inl hc)),fun hc=>hno ((g1 x).2 (.inr hc))⟩
     obtain⟨p1,p2⟩:=hWW x hx hno'.2 hno'.1
     exact⟨p1,fun hc=>hc.elim p2 hno'.2⟩
   have out_:∀ e3,(jumpCode e3).isSome→(∃ a',Weak (s2.wipe (dsts (.rangeFunc g ps assign body))) (fs a')∧Ix e3 k2 a')→∃ v w',(Instr.endRound (w.heap.size + 1) (jumpCode e3)).run P w2=.ok v w' ∧
     ∃ t b3 o3,Ending.returned v=.returned (.bool t)∧(∀ x,o3 x→b3 x)∧(∀ x,b3 x→x<w'.heap.size)∧Firm JJ (if t then some (i + 1) else none) b3 o3 w'∧Stays W os w' o3∧∀ x,Xi x→¬ b3 x:=by
    rintro e3 hjs ⟨a',hwk,hix⟩
    obtain⟨b3,o3,q1,q2,q3,q4,q5⟩:=fin (jumpCode e3) .done a' none e3 hwk _ rfl ⟨hix,hjs,rfl,rfl⟩
    have hen:=run_endRound (P:=P) (jumpCode e3) hl2
    have hjn:(jumpCode e3).isNone=false:=by cases hj:jumpCode e3 <;> simp_all
    rw [hjn] at hen
    refine⟨_,_,hen,false,b3,o3,rfl,q1,?_,?_,?_,q5⟩
    ·rw [hrec] at q2 ⊢;exact q2
    ·rw [hrec] at q3 ⊢;exact q3
    ·rw [hrec] at q4 ⊢;exact q4
   cases e2 with
   | normal =>
    obtain⟨a',hwk,hI'⟩:=hq2
    obtain⟨b3,o3,q1,q2,q3,q4,q5⟩:=fin none .ready a' (some (i + 1)) .normal hwk _ rfl ⟨hI',rfl,rfl⟩
    have hen:=run_endRound (P:=P) none hl2
    refine⟨_,_,hen,true,b3,o3,rfl,q1,?_,?_,?_,q5⟩
    ·rw [hrec] at q2 ⊢;exact q2
    ·rw [hrec] at q3 ⊢;exact q3
    ·rw [hrec] at q4 ⊢;exact q4
   | ret=>exact out_ .ret hq2.1 hq2.2
   | exit id=>exact out_ (.exit id) hq2.1 hq2.2
   | goto t=>exact out_ (.goto t) hq2.1 hq2.2
   | panic c=>exact absurd hq2.1 (by simp [jumpCode])
   | outgrown=>exact absurd hq2.1 (by simp [jumpCode])
  | _=>exact hq1.elim
 -- what the iterator is handed
 obtain⟨μi,hμi⟩:∃ μi:Pl,μi=fun i=>(ns[i]?).bind μ:=⟨_,rfl⟩
 have hμii:∀ i n,ns[i]?=some n→μi i=μ n:=fun i n hi=>by rw [hμi];simp [hi]
 have hμis:∀ i L,μi i=some L→∃ n,ns[i]?=some n∧μ n=some L:=fun i L hi=>by
  rw [hμi] at hi
  cases hn:ns[i]? with
  | none=>simp [hn] at hi
  | some n=>simp [hn] at hi;exact⟨n,rfl,hi⟩
 have hμX:∀ x,μi.owns x→X0 x:=by
  rintro x ⟨i,z,l,c,hi⟩
  obtain⟨m,hm,hμm⟩:=hμis i _ hi
  rw [hX0];exact⟨m,z,l,c,List.mem_of_getElem? hm,hμm⟩
 obtain⟨bs0,hbs0⟩:∃ bs0:Own,bs0=fun x=>x<W1.heap.size∧¬ X0 x:=⟨_,rfl⟩
 obtain⟨os0,hos0⟩:∃ os0:Own,os0=fun x=>ownOf out μ0 x∨x=w.heap.size + 1:=⟨_,rfl⟩
 have hlow:∀ x,ownOf out μ0 x→x<w.heap.size:=fun x hx=>z32 hA0 x (hx.imp .inl id)
 have hgi:Goes w (ownOf out μ) W1 (ownOf os0 μi):=fun b o u p1 p2=>⟨fun hc=>by
  rw [hos0] at hc
  rcases hc with (hc | rfl) | hc
  ·exact p1 (hsub1 b hc)
  ·exact absurd p2.lt (by omega)
  ·exact p1 (hX0w b (hμX b hc)).1,p2.heap (hB1.block b p2.lt)⟩
 have hinv:∀ n,(μ n).isSome→∀ i,inv ns n=some i→μi i=μ n:=fun n _ i hi=>hμii i n (z71 hi)
 obtain⟨hnl,hget⟩:=z739 hm0
 have hMi:MemRel bs0 os0 W1 μi (m0.map some):=by
  refine⟨fun i b hi=>?_,fun i hi=>?_,fun a k b z l c z' l' c' h1 h2=>?_,fun i b z l c hi=>?_⟩
  ·simp only [List.getElem?_map,Option.map_eq_some_iff,Option.some.injEq] at hi
   obtain⟨b0,hi,rfl⟩:=hi
   obtain⟨m,b',h1,h2,rfl⟩:=hget i b0 hi
   refine BlkRel.mapN (.inl hgi) (hμii i m h1) hinv (fun b z l c hb=>?_) (hA.mem.blk m b' h2)
   exact hB1.block b (z31 hA.mem hb)
  ·obtain⟨L,hL⟩:=Option.isSome_iff_exists.1 hi
   obtain⟨m,hm,_⟩:=hμis i L hL
   have:i<m0.length:=by rw [← hnl];exact (List.getElem?_eq_some_iff.1 hm).1
   exact⟨m0[i],by simp [this]⟩
  ·obtain⟨m,hm,e1⟩:=hμis a _ h1
   obtain⟨m',hm',e2⟩:=hμis k _ h2
   have:=hA.mem.inj m m' b _ _ _ _ _ _ e1 e2
   subst this
   exact z132 hnd hm hm'
  ·have hx:X0 b:=hμX b ⟨i,z,l,c,hi⟩
   have hx2:=(hX0w b hx).2.2
   refine⟨by rw [hbs0];exact fun hc=>hc.2 hx,by omega,by rw [hos0];exact fun hc=>hc.elim (hX0n b hx) (by omega)⟩
 have hJ0:JJ (some 0) bs0 os0 W1:=by
  rw [hJJ]
  refine⟨.normal,k,a0,base,out,μ0,X0,fun x=>by rw [hos0],fun x hx=>?_,fun x hx=>?_,hA.out,?_,fun w'' hb=>hJ w'' ((BelowU.of hB1 hA.le).trans hb),⟨hB1.size,fun b hb ho=>⟨hB1.block b hb,fun hc=>ho (hsub1 b hc)⟩⟩,fun hc=>by have:=hlow _ hc;omega,fun hc=>by have:=hlow _ hc;omega,hK1,h0,hL1⟩
  ·by_cases hx0:X0 x
   ·exact .inr hx0
   ·exact .inl (by rw [hbs0];exact⟨hx,hx0⟩)
  ·obtain⟨q1,q2,q3⟩:=hX0w x hx
   exact⟨by omega,q2,hX0n x hx,by omega,by omega,.inl q1⟩
  ·exact hA0.next hB1.size (fun x hx _=>hB1.block x hx) hA0.out (fun x hx=>Nat.lt_of_lt_of_le (hA0.le x hx) hB1.size) (fun x hx=>.inl hx) (fun x hx=>(hA0.own_base x hx).1)
 have hvals:∀ (i:Nat) x v,((pre++.d (.yld (w.heap.size + 1))::post).map (AV.mapN (inv ns)))[i]?=some x→(fst++(#[.func (.yield (w.heap.size + 1)) #[] #[]]++caps))[i]?=some v→AVRel W1 (ownOf os0 μi) μi x v:=by
  intro i x v hx hv
  simp only [List.getElem?_map,Option.map_eq_some_iff] at hx
  obtain⟨y,hx,rfl⟩:=hx
  have:=z485 (μ:=μ) (w:=w) (own:=ownOf out μ) hpl hpre (ys:=[AV.d (.yld (w.heap.size + 1))]++post) (vs:=(#[Value.func (.yield (w.heap.size + 1)) #[] #[]]:Array Value)++caps)
   (z485 (xs:=[AV.d (.yld (w.heap.size + 1))]) (us:=(#[Value.func (.yield (w.heap.size + 1)) #[] #[]]:Array Value)) rfl (fun i x v q1 q2=>by
    cases i with
    | zero=>simp at q1 q2;subst q1;subst q2;exact .d (.yld _)
    | succ i=>simp at q1) hpost) i y v hx hv
  exact this.mapN (.inl hgi) (fun n _ hs k hk=>hinv n hs k hk)
 have hcalls:=hit.2 (w.heap.size + 1) JJ W1 bs0 os0 μi (fst++(#[.func (.yield (w.heap.size + 1)) #[] #[]]++caps)) hOJ hG (fun x hx=>by
   rw [hos0] at hx
   rw [hbs0]
   rcases hx with hx | rfl
   ·exact⟨by have:=hlow x hx;omega,fun hc=>hX0n x hc hx⟩
   ·exact⟨by omega,fun hc=>by have:=(hX0w _ hc).2.2;omega⟩)
  (fun x hx=>by rw [hbs0] at hx;exact hx.1) hMi (hA.hid.goes hgi) (by simp [hpl,hql];omega) hvals (hfirm _ _ _ _ hJ0)
 refine⟨w.heap.size + 1,[{ target:=.collected w.heap.size,args:=#[] }],W1,{ target:=.fn (.func f) caps,args:=fst++#[.func (.yield (w.heap.size + 1)) #[] #[]] },W1,f,
  fst++(#[.func (.yield (w.heap.size + 1)) #[] #[]]++caps),W1,?_,?_,fun _ _=>trivial,?_,fun h=>(by cases h),?_⟩
 ·rw [← hW1,hrec];exact run_enterLoop_outer _ _ _ _ _
 ·simp only [resolve]
  have hgv':({ tmps:=tmps,defers:=ds }:Act).eval g=.func (.func f) fst caps:=hgv
  simp only [hgv']
  simp [Deferred.ofValue,go_sem]
 ·simp [invoke];exact hit.1 _ _
 ·refine (callsIn_wide (n:=n - 1)).2 (hcalls.mono ?_)
  rintro e W2 ⟨v,bF,oF,rfl,_,_,hj⟩
  have hMk:∀ (o':Own) (μ':Pl) (W4:World),Stays w (ownOf out μ) W4 (ownOf o' μ')→¬ ownOf o' μ' w.heap.size→W4.heap[w.heap.size]?=some (.deferred (some [])) →
    Marked B (ownOf o' μ') ([{ target:=.collected w.heap.size,args:=#[] }]++ds) W4:=by
   intro o' μ' W4 hs hno hd
   obtain⟨q0,rs,q1,q2,q3⟩:=hM
   refine⟨Nat.le_trans q0 hs.1,w.heap.size::rs,by rw [q1];rfl,?_,fun r hr=>?_⟩
   ·rw [List.nodup_cons]
    refine⟨fun hc=>?_,q2⟩
    have:=(Array.getElem?_eq_some_iff.1 (q3 _ hc).2.2).1
    omega
   ·rcases List.mem_cons.1 hr with rfl | hr
    ·exact⟨q0,hno,hd⟩
    ·obtain⟨p1,p2,p3⟩:=q3 r hr
     obtain⟨p4,p5⟩:=hs.2 r (Array.getElem?_eq_some_iff.1 p3).1 p2
     exact⟨p1,p5,p4.trans p3⟩
  rcases hj with hj | hj
  ·have hj:=hj W2 (.refl _ _)
   rw [hJJ] at hj
   obtain⟨_,kk,a,b',o',μ',X,g1,g2,g3,g4,g5,g6,g7,g8,g9,g10,h7,h8⟩:=hj
   have hel:∃ o4,(Instr.endLoop (w.heap.size + 1)).run P W2=.ok (none) (W2.putObj (w.heap.size + 1) o4):=⟨_,by
    have hel:=run_endLoop (P:=P) h8 (by rw [hrec];simp)
    have hpn:(rec .ready none).pending=none:=by rw [hrec]
    rw [hpn] at hel
    exact hel⟩
   obtain⟨o4,hel⟩:=hel
   have ho2:Other (w.heap.size + 1) W2 (W2.putObj (w.heap.size + 1) o4):=z41 h8 (fun _ _ _ e=>by cases e) (fun _ _ e=>by cases e)
   refine⟨none,_,hel,?_⟩
   have hs4:Stays w (ownOf out μ) (W2.putObj (w.heap.size + 1) o4) (ownOf o' μ') :=
    ⟨by rw [World.putObj_size];exact g7.1,fun b hb ho=>⟨(World.putObj_heap_other (by omega)).trans (g7.2 b hb ho).1,(g7.2 b hb ho).2⟩⟩
   have g5':=(g5.other ho2).next (Nat.le_refl _) (fun _ _ _=>rfl) g4 (fun x hx=>(g5.other ho2).le x (.inl hx)) (fun x hx=>.inl (.inl hx)) (fun x hx hc=>(g5.own_base x hx).1 (.inl hc))
   exact⟨kk,fs a,b',o',μ',g5',z69 hO g6 (fun x hx=>g5.le x (.inl hx)) (by omega) (fun hc=>g9 (.inl hc)) ho2,hMk o' μ' _ hs4 g8 (by rw [World.putObj_heap_other (by omega)];exact g10),hs4,Same.refl _ _,hdone kk a h7⟩
  ·have hj:=hj W2 (.refl _ _)
   rw [hJJ] at hj
   obtain⟨e,kk,a,b',o',μ',X,g1,g2,g3,g4,g5,g6,g7,g8,g9,g10,h7,hjs,h8⟩:=hj
   have hel:∃ o4,(Instr.endLoop (w.heap.size + 1)).run P W2=.ok (jumpCode e) (W2.putObj (w.heap.size + 1) o4):=⟨_,by
    have hel:=run_endLoop (P:=P) h8 (by rw [hrec];simp)
    have hpn:(rec .done (jumpCode e)).pending=jumpCode e:=by rw [hrec]
    rw [hpn] at hel
    exact hel⟩
   obtain⟨o4,hel⟩:=hel
   have ho2:Other (w.heap.size + 1) W2 (W2.putObj (w.heap.size + 1) o4):=z41 h8 (fun _ _ _ e=>by cases e) (fun _ _ e=>by cases e)
   refine⟨jumpCode e,_,hel,?_⟩
   have hs4:Stays w (ownOf out μ) (W2.putObj (w.heap.size + 1) o4) (ownOf o' μ') :=
    ⟨by rw [World.putObj_size];exact g7.1,fun b hb ho=>⟨(World.putObj_heap_other (by omega)).trans (g7.2 b hb ho).1,(g7.2 b hb ho).2⟩⟩
   have g5':=(g5.other ho2).next (Nat.le_refl _) (fun _ _ _=>rfl) g4 (fun x hx=>(g5.other ho2).le x (.inl hx)) (fun x hx=>.inl (.inl hx)) (fun x hx hc=>(g5.own_base x hx).1 (.inl hc))
   have hend:∀ Q',Q' e kk (fs a)→Ends P J B (dsts (.rangeFunc g ps assign body)) (ownOf out μ) tmps w Q' e { tmps:=tmps,defers:=[{ target:=.collected w.heap.size,args:=#[] }]++ds } (W2.putObj (w.heap.size + 1) o4):=fun Q' hq =>
    ⟨kk,fs a,b',o',μ',g5',z69 hO g6 (fun x hx=>g5.le x (.inl hx)) (by omega) (fun hc=>g9 (.inl hc)) ho2,hMk o' μ' _ hs4 g8 (by rw [World.putObj_heap_other (by omega)];exact g10),hs4,Same.refl _ _,hq⟩
   have hq:=hstop e kk a h7 hjs
   cases e with
   | ret=>exact wpIn_ret (hend _ hq)
   | exit id=>exact wpIn_exit (hend _ hq)
   | goto t=>exact wpIn_goto (hend _ hq)
   | _=>simp [jumpCode] at hjs
end
end Go.Ab
/- More on functions that hand on elements: drawn regions told by what is still to come,arrays handed down with their room,functions that name themselves;the simp set. -/
namespace Go.Ab
open Go.RowKit
def viaVh (len:Nat):AV→AV
 | .own n=>.vh n len
 | .vh n l=>.vh n l
 | _=>.undef
def St.asVh (n:Nat) (st:St):St:=match (st.m[n]?:Option (Option Blk)) with
 | some (some (.arr e z rows))=>{ t:=st.t.map (AV.sub n (viaVh rows.length)),m:=(subMem n (viaVh rows.length) st.m).set n (some (.arrP e z rows)) }
 | _=>st
def St.fewer (n k:Nat) (st:St):St:=match (st.m[n]?:Option (Option Blk)) with
 | some (some (.arrP e z rows))=>{ t:=st.t,m:=st.m.set n (some (.arrP e z (rows.take k))) }
 | _=>st
def vcOf (len:Nat):AV→AV
 | .vh n l=>if l=len then .vc n l else .undef
 | .vc n l=>.vc n l
 | _=>.undef
def St.vRoom (n:Nat) (st:St):St:=match (st.m[n]?:Option (Option Blk)) with
 | some (some (.arrP e z rows))=>{ t:=st.t.map (AV.sub n (vcOf rows.length)),m:=(subMem n (vcOf rows.length) st.m).set n (some (.arrP e z rows)) }
 | _=>st
def St.vFull (n:Nat) (st:St):St:=match (st.m[n]?:Option (Option Blk)) with
 | some (some (.arrP e z rows))=>{ t:=st.t,m:=st.m.set n (some (.arr e z rows)) }
 | _=>st
section
variable {P:Program} {base:Own} {out:Own} {st st':St} {μ:Pl} {tmps:Array Value} {w w':World} {J:Env} {k:Option Nat} {B:Nat}
def cycD (f:FuncId) (caps:List (Option DV)):Nat→DV
 | 0=>.any
 | i + 1=>.ptr [.fn f (caps.map fun c=>c.getD (cycD f caps i))] 0
def cycCaps (n:Nat):List AV→Option (List (Option DV))
 | []=>some []
 | .d d::l=>(cycCaps n l).map (some d::·)
 | .box k o::l=>if k=n∧o=0 then (cycCaps n l).map (none::·) else none
 | _::_=>none
def cycLeaf (d:DV):AV→AV
 | .box _ 0=>.d d
 | _=>.undef
def St.cyc (n depth:Nat) (st:St):St:=match (st.m[n]?:Option (Option Blk)) with
 | some (some (.box [.fn f xs]))=>match cycCaps n xs with
  | some caps=>{ t:=st.t.map (AV.sub n (cycLeaf (cycD f caps depth))),m:=subMem n (cycLeaf (cycD f caps depth)) (st.m.set n none) }
  | none=>st
 | _=>st
theorem z753 {rd:Option Nat} {n:Nat} {ops:Array Oper} {l:Nat} {items:List (List DV)} (hG:GivesE P l J items) (ys:List Nat) (p:Nat) {id:Nat} {Q:Exit→Option Nat→St→Prop} (hfol:P.follows .mixedOrders=true) (hback:backB ops=true) (hp:tailB ops p=true) (hps:p≤ops.size)
  (G:(Nat→Bool)→St) (h0:G (fun i=>decide (i<p))=st) (hs:stepsC P (ops.toList.take p) G (ops.toList.take p) 0) {s1:St} (hw:Weak (G fun _=>false) s1) (h:runE P l items ys ops (ops.toList.drop p) k s1 (Q .normal)) :
  Walk P rd n J (.region id ops true) k st Q:=fun B base out μ tmps w ds hO hst hJ hM=>by
 refine wpIn_region_any hfol ?_
 have hB0:Below w.heap.size w { w with drawn:=w.drawn + 1 }:=(Below.refl _ w).drew
 have hsz:ops.size=(ops.size - p) + p:=by omega
 conv=>arg 7;rw [hsz]
 have htk:∀ (j:Nat) (o:Oper),ops[j]?=some o→j<p→(ops.toList.take p)[j]?=some o:=fun j o ho hj=>by rw [List.getElem?_take,if_pos hj];simpa using ho
 refine z561 (st':=G fun _=>false) (fun i=>i) (fun a b=>¬ Anc ops a b) (fun rs s s'=>LeftC ops G rs s s'∧(∀ i ∈ rs,i<p)∧∀ (j:Nat) (o:Oper),j<p→ops[j]?=some o→j ∉ rs→∀ e ∈ o.after,Region.binds .any e=true→e.on ∉ rs)
  (fun s s' hc=>by rw [hc.1.now,hc.1.fin];rfl) (fun r rs s s' hc=>?_) (fun r B s s' A hA hc=>?_)
  hback p (fun i j hi hj hs=>z103 hp i j (by omega) hj hs) (ops.size - p) p _ (List.range p) st μ tmps _ (by simp) (by simpa using List.pairwise_lt_range) (by simp) (fun i=>?_) (fun j hj hs=>by simp [hs]) (fun k o ho hk=>?_) ?_ ?_ (hst.below hB0) (fun listed' tmps' μ' w' g1 g2 g3 h1 hB hS=>?_)
 ·obtain⟨⟨h1,h2,h3,h4,h5⟩,h7,h6⟩:=hc
  have hr:=h5 r (by simp)
  have hrp:=h7 r (by simp)
  obtain⟨o,ho⟩:∃ o,ops[r]?=some o:=⟨ops[r],by simp [hr]⟩
  rw [List.pairwise_cons] at h4
  rw [List.nodup_cons] at h3
  have hni:∀ e ∈ o.after,Region.binds .any e=true→e.on ∉ r::rs:=by
   intro e he hb hc
   have hlt:=z138 hback ho he hb
   have hanc:Anc ops e.on r:=.edge ho he hb
   rcases List.mem_cons.1 hc with hc | hc
   ·omega
   ·exact h4.1 _ hc hanc
  have hg:=z442 (ops.toList.take p) 0 r o hs (htk r o ho hrp) (fun i=>(r::rs).contains i) (by simp) (z558 fun e he hb=>by
   simpa using hni e (by simpa using he) hb) (z481 _ _ fun j q hq hm=>z558 fun e he hb=>by
    have hj:j ∉ r::rs:=by simpa using hm
    rw [List.getElem?_take] at hq
    split at hq
    ·rename_i hjp
     simpa using h6 j q hjp (by simpa using hq) hj e (by simpa using he) hb
    ·cases hq)
  obtain⟨hd,hgu,hk⟩:=hg
  obtain⟨s1,hs1,he⟩:=z77 hk
  refine⟨o,s1,ho,hd,by unfold StepG;rw [hgu,h1];exact hs1,?_⟩
  refine⟨⟨?_,h2,h3.2,h4.2,fun i hi=>h5 i (by simp [hi])⟩,fun i hi=>h7 i (by simp [hi]),fun j q hjp hq hj e he hb hc=>?_⟩
  ·rw [he]
   congr 1
   funext j
   unfold offM
   rw [Nat.zero_add]
   by_cases hj:j=r
   ·subst hj
    rw [if_pos rfl]
    have:¬ rs.contains j=true:=by simpa using h3.1
    simpa using this
   ·rw [if_neg hj]
    simp [hj]
  ·by_cases hjr:j=r
   ·subst hjr
    rw [hq] at ho
    cases ho
    exact hni e he hb (by simp [hc])
   ·exact h6 j q hjp hq (by simp [hjr,hj]) e he hb (by simp [hc])
 ·obtain⟨⟨h1,h2,h3,h4,h5⟩,h7,h6⟩:=hc
  have hsub:(A++B).Sublist (A++r::B):=List.Sublist.append_left (List.sublist_cons_self r B) A
  have hmem:∀ i,i ∈ r::(A++B)↔i ∈ A++r::B:=by
   intro i
   simp
   constructor
   ·rintro (h | h | h) <;> simp [h]
   ·rintro (h | h | h) <;> simp [h]
  refine⟨⟨?_,h2,?_,?_,fun i hi=>h5 i ((hmem i).1 hi)⟩,fun i hi=>h7 i ((hmem i).1 hi),fun j q hjp hq hj e he hb hc=>h6 j q hjp hq (fun h=>hj ((hmem j).2 h)) e he hb ((hmem _).1 hc)⟩
  ·rw [h1]
   congr 1
   funext j
   rw [Bool.eq_iff_iff]
   simp
   constructor
   ·rintro (h | h | h) <;> simp [h]
   ·rintro (h | h | h) <;> simp [h]
  ·rw [List.nodup_cons]
   refine⟨?_,h3.sublist hsub⟩
   rw [List.nodup_append] at h3
   intro hc
   rcases List.mem_append.1 hc with hc | hc
   ·exact h3.2.2 r hc r (by simp) rfl
   ·exact (List.nodup_cons.1 h3.2.1).1 hc
  ·rw [List.pairwise_cons]
   refine⟨fun b hb=>?_,h4.sublist hsub⟩
   rcases List.mem_append.1 hb with hb | hb
   ·exact hA b hb
   ·rw [List.pairwise_append] at h4
    exact (List.pairwise_cons.1 h4.2.1).1 b hb
 ·simp only [List.map_id',List.mem_range,Array.getElem?_replicate]
  constructor
  ·intro hi;exact⟨hi,by rw [if_pos (by omega)]⟩
  ·intro hi;exact hi.1
 ·simp only [Array.getElem?_replicate] at hk
  split at hk <;> simp at hk
 ·have hpr:(List.range p).Pairwise (·<·):=List.pairwise_lt_range
  exact hpr.imp fun {a b} _=>Classical.em _
 ·refine⟨⟨?_,rfl,List.nodup_range,?_,fun i hi=>by have:=List.mem_range.1 hi;omega⟩,fun i hi=>List.mem_range.1 hi,fun j o hjp ho hj=>absurd (List.mem_range.2 hjp) hj⟩
  ·rw [← h0]
   congr 1
   funext i
   rw [Bool.eq_iff_iff]
   simp
  ·exact List.pairwise_lt_range.imp fun {a b} hab hc=>by
    have:=z1273 hback hc
    omega
 ·have hB1:=(KeepO.below (own:=ownOf out μ) hB0 hst.le).trans hB
  refine z301 hback (z103 hp) (ops.size - p) p listed' _ w' (by omega) (Nat.le_refl _) g1 (fun i hi=>g2 i hi (by omega)) g3 ?_
  have hst1:Stays w (ownOf out μ) w' (ownOf out μ'):=⟨hB1.keep.below.size,hB1.stays⟩
  obtain⟨μ3,h3,hsub⟩:=hw P base out μ' tmps' w' h1
  have hst2:Stays w (ownOf out μ) w' (ownOf out μ3):=hst1.trans (.less hsub)
  have:=z243 (n:=n) (rd:=rd) hG hO (ds:=ds) (Qm:=Ends P J B (dsts (.region id ops true)) (ownOf out μ) tmps w Q) (ops.toList.drop p) p k s1 (Q .normal) base out μ3 tmps' w' (fun j o hj=>by simpa [List.getElem?_drop] using hj) h h3 (Firm.next hJ hB1.keep.below) (Nat.le_trans hM.1 hst1.1)
   (fun k' st' base' out' μ2 tmps2 w2 h2 hJ' hs hSa hk=>⟨k',st',base',out',μ2,h2,hJ',hM.stays (hst2.trans hs),hst2.trans hs,hS.trans (hSa.mono fun i hi=>z147 p hi),hk⟩)
  simpa using this
theorem z577 {rd:Option Nat} {n:Nat} {ops:Array Oper} {l:Nat} {items:List (List DV)} (hG:GivesE P l J items) (ys:List Nat) (p:Nat) {id:Nat} {cs:List Code} {Q:Exit→Option Nat→St→Prop} (hfol:P.follows .mixedOrders=true) (hback:backB ops=true) (hp:tailB ops p=true) (hps:p≤ops.size)
  (G:(Nat→Bool)→St) (h0:G (fun i=>decide (i<p))=st) (hs:stepsC P (ops.toList.take p) G (ops.toList.take p) 0) {s1:St} (hw:Weak (G fun _=>false) s1)
  (h:∀ K:Option Nat→St→Prop,(∀ k s,WalkL P rd n J cs k s Q→K k s)→runE P l items ys ops (ops.toList.drop p) k s1 K):WalkL P rd n J (.region id ops true::cs) k st Q :=
 z753 hG ys p hfol hback hp hps G h0 hs hw (h _ fun _ _ h=>h)
theorem z270 {n:Nat} {α:Type} {cs:List Code} {Q:Exit→Option Nat→St→Prop} {g:Operand} {ps:Array Tmp} {assign body:Code} {f:FuncId} {pre post:List AV} {items:List (List DV)} (ns:List Nat) {m0:List Blk}
  (hg:rangeOf st g=some (f,pre,post)) (hnd:ns.Nodup) (hm0:ceded st ns ns=some m0) (hit:IterE P f m0 (fun l=>(pre++.d (.yld l)::post).map (AV.mapN (inv ns))) items) (hps:∀ row ∈ items,row.length=ps.size)
  (ts:α→List (Nat × AV)) (ms:α→List (Nat × Option Blk)) (I:Nat→α→Prop) (Ix:Exit→α→Prop) (a0:α) (hw:Weak (st.cede ns) ((st.cede ns).head (dsts (.rangeFunc g ps assign body)) (ts a0) (ms a0))) (h0:I 0 a0)
  (hround:∀ X W i a row,items[i]?=some row→I i a→∀ l m,WalkL P (some l) m (lendJ X W J) [assign] k { t:=setPs ps.toList row ((st.cede ns).head (dsts (.rangeFunc g ps assign body)) (ts a) (ms a)).t,m:=((st.cede ns).head (dsts (.rangeFunc g ps assign body)) (ts a) (ms a)).m }
   (thenA (fun k2 s=>WalkL P (some l) m (lendJ X W J) [body] k2 s fun e k3 s3=>k3=k∧match e with
    | .normal=>∃ a',Weak (s3.wipe (dsts (.rangeFunc g ps assign body))) ((st.cede ns).head (dsts (.rangeFunc g ps assign body)) (ts a') (ms a'))∧I (i + 1) a'
    | e=>(jumpCode e).isSome∧∃ a',Weak (s3.wipe (dsts (.rangeFunc g ps assign body))) ((st.cede ns).head (dsts (.rangeFunc g ps assign body)) (ts a') (ms a'))∧Ix e a') (fun _ _ _=>False)))
  (hdone:∀ a,I items.length a→WalkL P none n J cs k ((st.cede ns).head (dsts (.rangeFunc g ps assign body)) (ts a) (ms a)) Q) (hstop:∀ e a,Ix e a→(jumpCode e).isSome→Q e k ((st.cede ns).head (dsts (.rangeFunc g ps assign body)) (ts a) (ms a))) :
  WalkL P none n J (.rangeFunc g ps assign body::cs) k st Q:=by
 refine z271 ns hg hnd hm0 hit hps (fun a=>(st.cede ns).head (dsts (.rangeFunc g ps assign body)) (ts a) (ms a)) (fun k' i a=>k'=k∧I i a) (fun e k' a=>k'=k∧Ix e a) a0 hw ⟨rfl,h0⟩ ?_ ?_ ?_
 ·rintro X W k' i a row hi ⟨rfl,hI⟩ l m
  refine z46 (hround X W i a row hi hI l m) fun e k2 s hq=>?_
  cases e with
  | normal =>
   refine z46 (z21 hq) fun e k3 s3 hq3=>?_
   obtain⟨rfl,h⟩:=hq3
   cases e with
   | normal=>obtain⟨a',h1,h2⟩:=h;exact⟨a',h1,rfl,h2⟩
   | _=>obtain⟨hj,a',h1,h2⟩:=h;exact⟨hj,a',h1,rfl,h2⟩
  | _=>exact hq
 ·rintro k' a ⟨rfl,hI⟩;exact hdone a hI
 ·rintro e k' a ⟨rfl,hI⟩ hj;exact hstop e a hI hj
end
theorem z889 {P:Program} {l:Nat} {items:List (List DV)} {o:Oper} {k:Option Nat} {s:St} {K K':Option Nat→St→Prop} (h:callYK P l items o k s K) (hK:∀ k s,K k s→K' k s):callYK P l items o k s K':=by
 obtain⟨kk,h1,gx,h2,ns,m0,its,a1,a2,a3,a4,a5,a6⟩:=h
 exact⟨kk,h1,gx,h2,ns,m0,its,a1,a2,a3,a4,hK _ _ a5,hK _ _ a6⟩
theorem z445 {P:Program} {l:Nat} {items:List (List DV)} {ys:List Nat} {o:Oper} {k:Option Nat} {s:St} {K K':Option Nat→St→Prop} (h:stepE P l items ys o k s K) (hK:∀ k s,K k s→K' k s):stepE P l items ys o k s K':=by
 unfold stepE at h ⊢
 split
 ·rename_i hy
  rw [hy] at h
  obtain⟨h1,kk,row,h2,h3,h4,h5,h6,h7⟩:=h
  exact⟨h1,kk,row,h2,h3,h4,h5,hK _ _ h6,hK _ _ h7⟩
 ·rename_i hy
  rw [hy] at h
  dsimp only at h ⊢
  split at h
  ·exact z889 h hK
  ·exact z241 h fun s=>hK k s
theorem z550 (P:Program) (l:Nat) (items:List (List DV)) (ys:List Nat) (o:Oper) (k:Option Nat) (s:St) (R:Option Nat→St→Prop):guardRunEY P l items ys (.d (.bool true)) true o k s R=stepE P l items ys o k s R:=by
 apply propext
 exact⟨fun h=>(h R (fun _ _ h=>h)).1 rfl,fun h K' hK=>⟨fun _=>z445 h hK,fun e=>(by cases e)⟩⟩
theorem z553 (P:Program) (l:Nat) (items:List (List DV)) (ys:List Nat) (o:Oper) (k:Option Nat) (s:St) (R:Option Nat→St→Prop):guardRunEY P l items ys (.d (.bool false)) false o k s R=stepE P l items ys o k s R:=by
 apply propext
 exact⟨fun h=>(h R (fun _ _ h=>h)).1 rfl,fun h K' hK=>⟨fun _=>z445 h hK,fun e=>(by cases e)⟩⟩
theorem z551 (P:Program) (l:Nat) (items:List (List DV)) (ys:List Nat) (o:Oper) (k:Option Nat) (s:St) (R:Option Nat→St→Prop):guardRunEY P l items ys (.d (.bool true)) false o k s R=R k (s.put o.dst .void):=by
 apply propext
 exact⟨fun h=>(h R (fun _ _ h=>h)).2 rfl,fun h K' hK=>⟨fun e=>(by cases e),fun _=>hK _ _ h⟩⟩
theorem z552 (P:Program) (l:Nat) (items:List (List DV)) (ys:List Nat) (o:Oper) (k:Option Nat) (s:St) (R:Option Nat→St→Prop):guardRunEY P l items ys (.d (.bool false)) true o k s R=R k (s.put o.dst .void):=by
 apply propext
 exact⟨fun h=>(h R (fun _ _ h=>h)).2 rfl,fun h K' hK=>⟨fun e=>(by cases e),fun _=>hK _ _ h⟩⟩
theorem z345 (P:Program) (l:Nat) (items:List (List DV)) (ys:List Nat) (want:Bool) (o:Oper) (k:Option Nat) (s:St) (R:Option Nat→St→Prop):guardRunEY P l items ys .void want o k s R=R k (s.put o.dst .void):=by
 apply propext
 exact⟨fun h=>h R (fun _ _ h=>h),fun h K' hK=>hK _ _ h⟩
theorem z1137 (P:Program) (l:Nat) (items:List (List DV)) (ys:List Nat) (ops:Array Oper) (k:Option Nat) (s:St) (K:Option Nat→St→Prop):runE P l items ys ops [] k s K=K k s:=rfl
theorem z1053 (P:Program) (l:Nat) (items:List (List DV)) (ys:List Nat) (ops:Array Oper) (o:Oper) (os:List Oper) (k:Option Nat) (x:AV) (t:List AV) (m:List (Option Blk)) (K:Option Nat→St→Prop):runE P l items ys ops (o::os) k ⟨x::t,m⟩ K=(dstOk o=true∧match guardT ops o with
  | none=>False
  | some none=>stepE P l items ys o k ⟨x::t,m⟩ fun k s=>runE P l items ys ops os k s K
  | some (some (t',want))=>guardRunEY P l items ys ((⟨x::t,m⟩:St).ev (.tmp t')) want o k ⟨x::t,m⟩ fun k s=>runE P l items ys ops os k s K):=rfl
attribute [go_sem] stepE yieldOf z550 z553 z551 z552 z345 z1137 z1053 z1118 z1119 rangeOf St.cede cedeM retY pinsY nameV viaVh St.asVh St.fewer vcOf St.vRoom St.vFull St.cyc cycCaps cycLeaf opSliceA opCopyA opCopyB List.take_succ_cons List.take_zero List.take_nil List.drop_succ_cons List.drop_zero List.drop_nil
end Go.Ab
/- Another name for a block;drawn regions of which what is told is what differs. -/
namespace Go.Ab
open Go.RowKit
def St.rename (a b:Nat) (st:St):St:=match (st.m[a]?:Option (Option Blk)),(st.m[b]?:Option (Option Blk)) with
 | some (some x),some none=>{ t:=st.t.map (AV.mapN (mv a b)),m:=(((st.m.map (Option.map (Blk.mapN (mv a b)))).set a none).set b (some (x.mapN (mv a b)))) }
 | _,_=>st
section
variable {P:Program} {base:Own} {out:Own} {st st':St} {μ:Pl} {tmps:Array Value} {w w':World}
end
attribute [go_sem] St.rename
theorem z439 {P:Program} {rd:Option Nat} {n:Nat} {J:Env} {c:Code} {cs:List Code} {k:Option Nat} {st:St} {Q:Exit→Option Nat→St→Prop} (ds:List Nat) (ts:List (Nat × AV)) (ms:List (Nat × Option Blk)) (hw:Weak st (st.head ds ts ms)) (h:WalkL P rd n J (c::cs) k (st.head ds ts ms) Q) :
  WalkL P rd n J (c::cs) k st Q:=z63 hw h
theorem z272 {P:Program} {rd:Option Nat} {n:Nat} {J:Env} {cs:List Code} {k:Option Nat} {st:St} {Q:Exit→Option Nat→St→Prop} {id:Nat} {ops:Array Oper} (ts:(Nat→Bool)→List (Nat × AV)) (ms:(Nat→Bool)→List (Nat × Option Blk)) (p:Nat) (hfol:P.follows .mixedOrders=true) (hback:backB ops=true)
  (hp:tailB ops p=true) (hps:p≤ops.size) (h0:st.head [] (ts fun i=>decide (i<p)) (ms fun i=>decide (i<p))=st) (hs:stepsC P (ops.toList.take p) (fun m=>st.head [] (ts m) (ms m)) (ops.toList.take p) 0)
  {s1:St} (hw:Weak (st.head [] (ts fun _=>false) (ms fun _=>false)) s1) (h:∀ K:Option Nat→St→Prop,(∀ k s,WalkL P rd n J cs k s Q→K k s)→runE P 0 [] [] ops (ops.toList.drop p) k s1 K):WalkL P rd n J (.region id ops true::cs) k st Q :=
 z577 (l:=0) (items:=[]) (fun _ _ _ _ _ _ _ _ h=>by simp at h) [] p hfol hback hp hps (fun m=>st.head [] (ts m) (ms m)) h0 hs hw h
inductive SeqW (P:Program) (ops:Array Oper):List Oper→St→St→Prop where
 | nil (s:St):SeqW P ops [] s s
 | cons {o:Oper} {os:List Oper} {s s1 s':St} (hd:dstOk o=true) (h:StepG P ops o s s1) (ht:SeqW P ops os s1 s'):SeqW P ops (o::os) s s'
 | weak {os:List Oper} {s s1 s':St} (hw:Weak s s1) (ht:SeqW P ops os s1 s'):SeqW P ops os s s'
theorem SeqW.of {P:Program} {ops:Array Oper} {os:List Oper} {s s':St} (h:Seq P ops os s s'):SeqW P ops os s s':=by
 induction h with
 | nil s=>exact .nil s
 | cons hd h _ ih=>exact .cons hd h ih
theorem SeqW.append {P:Program} {ops:Array Oper} {os os2:List Oper} {s s1 s2:St} (h:SeqW P ops os s s1) (h2:SeqW P ops os2 s1 s2):SeqW P ops (os++os2) s s2:=by
 induction h with
 | nil s=>exact h2
 | cons hd h _ ih=>exact .cons hd h (ih h2)
 | weak hw _ ih=>exact .weak hw (ih h2)
section
variable {P:Program} {base:Own} {out:Own} {st st':St} {ops:Array Oper} {rd:Option Nat} {n:Nat} {Q:Exit→Act→World→Prop}
end
end Go.Ab
/- What a function makes of its own,told as a deep value. -/
namespace Go.Ab
open Go.RowKit
theorem FnG.deep {P:Program} {f:FuncId} {args:List DV} {r:AV} {m1:List Blk} {d:DV} (h:FnG P f [] [] (args.map AV.d) r m1) (hr:reify (m1.map some) Ab.deep r=some d):Fn P f args d :=
 ⟨h.enters,fun w own vs hb hh hd=>(h.calls (ltU w.heap.size) w own (fun _=>none) vs hb (fun _ h=>h)
   ⟨fun n b h=>by simp at h,fun n h=>by simp at h,fun n k b z l c z' l' c' h=>by simp at h,fun n b z l c h=>by simp at h⟩
   (hh.less fun b hb=>hb.elim id fun ⟨_,_,_,_,h⟩=>by simp at h) (by simpa using hd.1) (fun i x v hx hv=>by
    simp only [List.getElem?_map,Option.map_eq_some_iff] at hx
    obtain⟨y,hy,rfl⟩:=hx
    refine .d ((hd.2 i y v hy hv).goes fun b o u h1 h2=>⟨fun hc=>h1 (hc.elim id fun ⟨_,_,_,_,h⟩=>by simp at h),h2⟩))).mono fun en w' hq=>by
  obtain⟨v,μ1,he,hv,hm,hk,_⟩:=hq
  exact⟨v,he,z39 hm own (fun b hb=>.inl hb) (fun _=>True) (fun n b z l c _ hμ=>(hm.base n b z l c hμ).2.2) Ab.deep r v d hv hr (fun _ _=>trivial) (.inl fun _ _ _ _ _ _=>trivial),hk.keep.below.to⟩⟩
end Go.Ab
/- Arrays whose cells name memory of the call's own: slice literals that keep the names,appends of such arrays. -/
namespace Go.Ab
open Go.RowKit
def rowsA (z:Nat):List AV→Option (List (List AV))
 | []=>some []
 | x::xs=>match x.cells,rowsA z xs with
  | some cs,some rs=>if cs.length=z then some (cs::rs) else none
  | _,_=>none
def opBuildSliceA (P:Program) (t:TypeId) (len:Nat) (parts:List (Nat × AV)):Option Blk:=match tslice P t with
 | some e=>match tsz P e with
  | some z=>if parts.map (·.1)=List.range len∧len≤2 ^ 24∧len * z≤2 ^ 24∧(len * z=0∨((tzero P e).map (·.cells.size))=some z) then
    (rowsA z (parts.map (·.2))).map (.arrA e z)
   else none
  | none=>none
 | none=>none
def headA (z:Nat):List (List AV)→Bool
 | []=>false
 | r::_=>r.length == z
def killN (n:Nat) (rows:List (List AV)):List (List AV):=rows.map fun r=>r.map (AV.sub n fun _=>.undef)
def opAppendA (P:Program) (st:St) (dst:Option Tmp) (t t':TypeId) (s x:AV):Option St:=if t'=t then match dst,tslice P t,x with
 | some d,some e,.own m=>match tsz P e,tbytes P e,(tzero P e).map (·.cells.size),st.m[m]? with
  | some z,some by_,some zl,some (some (.arrA _ _ xs))=>if zl=z∧0<z∧0<by_∧by_≤2 ^ 7∧headA z xs=true then (match s with
    | .nil=>match st.fresh d with
     | true=>if xs.length≤2 ^ 39 then some (st.addBlk d (.own d) (.arrA e z xs)) else none
     | _=>none
    | .own n=>match st.m[n]? with
     | some (some (.arrA e' z' rows))=>if e'=e∧z'=z∧rows.length + xs.length≤2 ^ 39 then
       some ({ (st.kill n) with m:=(st.kill n).m.set n (some (.arrA e z (killN n (rows++xs)))) }.put dst (.own n))
      else none
     | _=>none
    | _=>none) else none
  | _,_,_,_=>none
 | _,_,_=>none else none
section
variable {P:Program} {base:Own} {out:Own} {st st':St} {μ:Pl} {tmps:Array Value} {w:World} {o:Oper}
theorem z449 {z:Nat}:∀ {xs:List AV} {rows:List (List AV)},rowsA z xs=some rows→xs.length=rows.length∧∀ (i:Nat) r,rows[i]?=some r→r.length=z∧∃ x,xs[i]?=some x∧x.cells=some r
 | [],rows,h=>by simp [rowsA] at h;subst h;simp
 | x::xs,rows,h=>by
  simp only [rowsA] at h
  split at h
  ·rename_i r rs h1 h2
   split at h
   ·rename_i hz
    cases h
    obtain⟨h3,h4⟩:=z449 h2
    refine⟨by simp [h3],fun i r' hi=>?_⟩
    cases i with
    | zero =>
     simp at hi
     subst hi
     exact⟨hz,x,by simp,h1⟩
    | succ i=>simpa using h4 i r' (by simpa using hi)
   ·cases h
  ·cases h
theorem z925 (h1:StRel P base out st μ tmps w) {d:Nat} (hd:st.m[d]?=some none) {e z:Nat} {rows:List (List AV)} {cs:Array Value} {cap:Nat} {w':World}
  (hw:∃ w0,Below w.heap.size w w0∧w0.heap=w.heap∧w'=w0.alloc (.cells cs e)) (hle:rows.length≤cap) (hcm:cap≤maxLen) (hsz:cs.size=cap * z) (hz:∀ r ∈ rows,r.length=z)
  (hc:∀ (i:Nat) r (j:Nat) x,rows[i]?=some r→r[j]?=some x→∃ v,cs[i * z + j]?=some v∧v.oneCell'=true∧AVRel w (ownOf out μ) μ x v) :
  ∃ μ',StRel P base out (st.addBlk d (.own d) (.arrA e z rows)) μ' (tmps.setIfInBounds d (.slice (some ⟨w.heap.size,0,none⟩) rows.length cap)) w'∧KeepO base (ownOf out μ) w (ownOf out μ') w':=by
 obtain⟨w0,hB0,hh0,rfl⟩:=hw
 have hsz0:w0.heap.size=w.heap.size:=by rw [hh0]
 have hB:Below w.heap.size w (w0.alloc (.cells cs e)):=hB0.alloc (by omega) _
 have hnp:=z113 h1.mem hd
 have hg:Goes w (ownOf out μ) (w0.alloc (.cells cs e)) (ownOf out (μ.upd d (some (.at w.heap.size z rows.length cap)))):=fun b o v hb hc=>by
  have hlt:=hc.lt
  refine⟨?_,(z83 (ownOf out μ) hB b o v hb hc).2⟩
  rintro (h2 | ⟨n,z,l,c,h2⟩)
  ·exact hb (.inl h2)
  ·by_cases hn:n=d
   ·subst hn;rw [Pl.upd_same] at h2;cases h2;omega
   ·rw [Pl.upd_ne μ _ hn] at h2;exact hb (.inr ⟨n,z,l,c,h2⟩)
 refine⟨_,h1.add hB hd (.at w.heap.size z rows.length cap) (fun b z l c e=>by cases e;simp;omega) ?_ (.own (Pl.upd_same μ d _)),h1.keep_add hB hd _ (fun b z l c e=>by cases e;simp;omega)⟩
 refine .inr ⟨w.heap.size,cap,cs,Pl.upd_same μ d _,by rw [← hsz0];exact heap_alloc_new w0 _,hle,hcm,hsz,hz,fun i r j x hi hj=>?_⟩
 obtain⟨v,p1,p2,p3⟩:=hc i r j x hi hj
 exact⟨v,p1,p2,p3.goes hg fun n _ hn=>Pl.upd_ne μ _ (fun e=>by subst e;rw [hnp] at hn;cases hn)⟩
theorem z425 (h:StRel P base out st μ tmps w) {t:TypeId} {len:Nat} {parts:Array (Nat × Operand)} (ho:o.op=.buildSlice t len parts) {d:Nat} (hd:o.dst=some d) (hf:st.fresh d=true) {b:Blk}
  (hs:opBuildSliceA P t len (parts.toList.map fun p=>(p.1,st.ev p.2))=some b):OpOK P base out μ o (st.addBlk d (.own d) b) tmps w:=by
 unfold opBuildSliceA at hs
 split at hs
 rotate_left
 ·cases hs
 rename_i e ht
 split at hs
 rotate_left
 ·cases hs
 rename_i z hz
 split at hs
 rotate_left
 ·cases hs
 rename_i hcond
 obtain⟨hidx,hlim0,hlim,hzero⟩:=hcond
 rw [Option.map_eq_some_iff] at hs
 obtain⟨rows,hrows,rfl⟩:=hs
 have hidx':parts.toList.map (·.1)=List.range len:=by simpa [List.map_map,Function.comp_def] using hidx
 have hrows':rowsA z (parts.toList.map fun p=>st.ev p.2)=some rows:=by simpa [List.map_map,Function.comp_def] using hrows
 have hlen:parts.size=len:=by have:=congrArg List.length hidx';simpa using this
 obtain⟨hrl,hrs⟩:=z449 hrows'
 have hrlen:rows.length=len:=by rw [← hrl];simpa using hlen
 have hval:∀ (j:Nat) a v,(parts.toList.map fun p=>(p.1,val tmps p.2))[j]?=some (a,v)→a=0 + j∧v.cells.size=z∧∃ x,(parts.toList.map fun p=>st.ev p.2)[j]?=some x∧AVRel w (ownOf out μ) μ x v:=by
  intro j a v hj
  simp only [List.getElem?_map,Option.map_eq_some_iff,Prod.mk.injEq] at hj
  obtain⟨p,hp,rfl,rfl⟩:=hj
  have hjl:j<len:=by rw [← hlen];have:=(List.getElem?_eq_some_iff.1 hp).1;simpa using this
  have h2:=congrArg (fun l:List Nat=>l[j]?) hidx'
  simp only [List.getElem?_map,hp,Option.map_some,List.getElem?_range hjl,Option.some.injEq] at h2
  have hjr:j<rows.length:=by omega
  obtain⟨hr1,x,hx,hcs⟩:=hrs j rows[j] (by simp [hjr])
  simp only [List.getElem?_map,hp,Option.map_some,Option.some.injEq] at hx
  subst hx
  have hev:=h.ev p.2 []
  obtain⟨c1,_,_⟩:=z23 hev hcs
  refine⟨by omega,?_,_,by simp only [List.getElem?_map,hp,Option.map_some],hev⟩
  rw [c1,hr1]
 obtain⟨zz,hzz⟩:∃ zz:Array Value,(len * z=0∧zz=#[])∨(¬ len * z=0∧∃ zv,tzero P e=some zv∧zz=zv.cells):=by
  by_cases h0:len * z=0
  ·exact⟨#[],.inl ⟨h0,rfl⟩⟩
  ·rcases hzero with h1 | h1
   ·exact absurd h1 h0
   ·rw [Option.map_eq_some_iff] at h1
    obtain⟨zv,hzv,_⟩:=h1
    exact⟨zv.cells,.inr ⟨h0,zv,hzv,rfl⟩⟩
 obtain⟨C,hC1,hC2,_,hC4⟩:=z555 z (parts.toList.map fun p=>(p.1,val tmps p.2)) 0 ((Array.range (len * z)).map (zz[· % zz.size]!))
  (fun j a v hj=>⟨(hval j a v hj).1,(hval j a v hj).2.1⟩) (by simp [hlen])
 have hCs:C.size=len * z:=by rw [hC2];simp
 obtain⟨μ',hst,hB⟩:=z925 h (z19 hf) (e:=e) (z:=z) (rows:=rows) (cs:=C) (cap:=len) (w':=w.alloc (.cells C e)) ⟨w,Below.refl _ _,rfl,rfl⟩ (by omega)
  (by simp only [maxLen];omega) hCs
  (fun r hr=>by obtain⟨i,hi⟩:=List.mem_iff_getElem?.1 hr;exact (hrs i r hi).1)
  (fun i r j x hi hj=>by
   obtain⟨hr1,y,hy,hcs⟩:=hrs i r hi
   have hil:i<parts.size:=by rw [hlen,← hrlen];exact (List.getElem?_eq_some_iff.1 hi).1
   have hp:(parts.toList.map fun p=>(p.1,val tmps p.2))[i]?=some (parts[i].1,val tmps parts[i].2):=by simp [hil]
   obtain⟨_,hvs,y',hy',hrel⟩:=hval i _ _ hp
   rw [hy] at hy';cases hy'
   obtain⟨c1,c2,c3⟩:=z23 hrel hcs
   have hjz:j<z:=by rw [← hr1];exact (List.getElem?_eq_some_iff.1 hj).1
   have hcell:=hC4 i _ _ j hp hjz
   rw [Nat.zero_add] at hcell
   have hlt:j<(val tmps parts[i].2).cells.size:=by omega
   have hu:=c2 j x (val tmps parts[i].2).cells[j] hj (by simp [hlt])
   exact⟨_,by rw [hcell];simp [hlt],hu.oneCell (c3 x (List.mem_of_getElem? hj)),hu⟩)
 rw [hrlen] at hst
 refine⟨.value (.slice (some ⟨w.heap.size,0,none⟩) len len),_,_,μ',fun ds=>?_,.inl rfl,by rw [hd];exact hst,hB⟩
 unfold execOp
 rw [z22]
 have hnlim:¬ (len * z > 2 ^ 24):=by omega
 have hparts:((parts.map fun p=>(p.1,val tmps p.2))).toList=parts.toList.map fun p=>(p.1,val tmps p.2):=by simp
 simp only [val] at hparts hC1
 rw [← hparts] at hC1
 have hrun:(Instr.buildSlice t len (parts.map fun p=>(p.1,val tmps p.2))).run P w=.ok (.slice (some ⟨w.heap.size,0,none⟩) len len) (w.alloc (.cells C e)):=by
  unfold Instr.buildSlice
  rcases hzz with ⟨h0,rfl⟩ | ⟨h0,zv,hzv,rfl⟩
  ·simp only [val,Sem.run_bind,run_underlying (z12 ht),Result.andThen_ok,z26 hz,if_neg hnlim,if_pos h0,hC1,newRow,run_newObj,Sem.run_pure]
   rfl
  ·simp only [val,Sem.run_bind,run_underlying (z12 ht),Result.andThen_ok,z26 hz,if_neg hnlim,if_neg h0,z184 hzv,hC1,newRow,run_newObj,Sem.run_pure]
   rfl
 simp only [val] at hrun
 simp [ho,hrun]
end
end Go.Ab
/- append of arrays whose cells name memory of the call's own: soundness. -/
namespace Go.Ab
open Go.RowKit
section
variable {P:Program} {base:Own} {out:Own} {st st':St} {μ:Pl} {tmps:Array Value} {w:World} {o:Oper}
theorem z1184 {α:Type} {R:α→Value→Prop} {rows:List (List α)} {z b off:Nat} {f:Nat→Nat→Value} (hz:∀ r ∈ rows,r.length=z)
  (hf:∀ (i:Nat) r (j:Nat) d,rows[i]?=some r→r[j]?=some d→w.cell? ⟨b,off + i * z + j,none⟩=some (f i j)∧(f i j).oneCell'=true∧R d (f i j)) :
  (∀ q u,(flat rows.length z f)[q]?=some u→w.cell? ((⟨b,off,none⟩:Addr).add q)=some u)∧(∀ u ∈ flat rows.length z f,u.oneCell'=true):=by
 have key:∀ q u,(flat rows.length z f)[q]?=some u→w.cell? ⟨b,off + q,none⟩=some u∧u.oneCell'=true:=by
  intro q u hq
  obtain⟨hz0,h1,h2,rfl⟩:=z913 f hq
  have hr:rows[q / z]?=some rows[q / z]:=by simp [h1]
  have hrl:rows[q / z].length=z:=hz _ (by simp)
  have hd:(rows[q / z])[q % z]?=some (rows[q / z])[q % z]:=by simp [hrl,h2]
  obtain⟨p1,p2,_⟩:=hf _ _ _ _ hr hd
  have e:off + q / z * z + q % z=off + q:=by
   have:=Nat.div_add_mod q z
   rw [Nat.mul_comm] at this
   omega
  rw [e] at p1
  exact⟨p1,p2⟩
 refine⟨fun q u hq=>by rw [Addr.add_lit];exact (key q u hq).1,fun u hu=>?_⟩
 obtain⟨q,hq⟩:=List.mem_iff_getElem?.1 hu
 exact (key q u hq).2
theorem z1267 {α:Type} {R R':α→Value→Prop} {g:α→α} {rows xs:List (List α)} {z b off:Nat} {f:Nat→Nat→Value} {cs:List Value}
  (hz:∀ r ∈ rows,r.length=z) (hxz:∀ r ∈ xs,r.length=z) (hg:∀ x v,R x v→R' (g x) v) {cur:Array Value}
  (hold:∀ q,q<rows.length * z→cs[q]?=cur[q]?) (hnew:∀ q,q<xs.length * z→cs[rows.length * z + q]?=(flat xs.length z f)[q]?)
  (hd:∀ (i:Nat) r (j:Nat) d,rows[i]?=some r→r[j]?=some d→∃ v,cur[i * z + j]?=some v∧v.oneCell'=true∧R d v)
  (hf:∀ (i:Nat) r (j:Nat) d,xs[i]?=some r→r[j]?=some d→w.cell? ⟨b,off + i * z + j,none⟩=some (f i j)∧(f i j).oneCell'=true∧R d (f i j)) :
  ∀ (i:Nat) r (j:Nat) d,((rows++xs).map fun r=>r.map g)[i]?=some r→r[j]?=some d→∃ v,cs[i * z + j]?=some v∧v.oneCell'=true∧R' d v:=by
 intro i r' j d' hi' hj'
 rw [List.getElem?_map,Option.map_eq_some_iff] at hi'
 obtain⟨r,hi,rfl⟩:=hi'
 rw [List.getElem?_map,Option.map_eq_some_iff] at hj'
 obtain⟨d,hj,rfl⟩:=hj'
 by_cases hlt:i<rows.length
 ·rw [List.getElem?_append_left hlt] at hi
  have hjz:j<z:=by rw [← hz r (List.mem_of_getElem? hi)];exact (List.getElem?_eq_some_iff.1 hj).1
  have hq:i * z + j<rows.length * z:=by
   have:(i + 1) * z≤rows.length * z:=Nat.mul_le_mul_right z hlt
   rw [Nat.add_mul] at this
   omega
  obtain⟨v,p1,p2,p3⟩:=hd i r j d hi hj
  exact⟨v,by rw [hold _ hq];exact p1,p2,hg _ _ p3⟩
 ·rw [List.getElem?_append_right (by omega)] at hi
  have hil:i - rows.length<xs.length:=(List.getElem?_eq_some_iff.1 hi).1
  have hjz:j<z:=by rw [← hxz r (List.mem_of_getElem? hi)];exact (List.getElem?_eq_some_iff.1 hj).1
  have e:i * z + j=rows.length * z + ((i - rows.length) * z + j):=by
   have:i=rows.length + (i - rows.length):=by omega
   rw [this,Nat.add_mul]
   have:rows.length + (i - rows.length) - rows.length=i - rows.length:=by omega
   rw [this]
   omega
  have hq:(i - rows.length) * z + j<xs.length * z:=by
   have:(i - rows.length + 1) * z≤xs.length * z:=Nat.mul_le_mul_right z hil
   rw [Nat.add_mul] at this
   omega
  obtain⟨p1,p2,p3⟩:=hf _ _ _ _ hi hj
  exact⟨_,by rw [e,hnew _ hq];exact z87 f hil hjz,p2,hg _ _ p3⟩
theorem z733 (h:StRel P base out st μ tmps w) {m:Nat} {v:Value} (hx:AVRel w (ownOf out μ) μ (.own m) v) {e z':Nat} {xs:List (List AV)} (hm:st.m[m]?=some (some (.arrA e z' xs))) {z:Nat} (hz:headA z xs=true) :
  xs≠[]∧(∀ r ∈ xs,r.length=z)∧∃ b cap,v=.slice (some ⟨b,0,none⟩) xs.length cap∧xs.length≤cap∧∃ f:Nat→Nat→Value,
   ∀ (i:Nat) r (j:Nat) d,xs[i]?=some r→r[j]?=some d→w.cell? ⟨b,0 + i * z + j,none⟩=some (f i j)∧(f i j).oneCell'=true∧AVRel w (ownOf out μ) μ d (f i j):=by
 have hne:xs≠[]:=by rintro rfl;simp [headA] at hz
 have hhead:∀ z',(∀ r ∈ xs,r.length=z')→z'=z:=by
  intro z' hz'
  cases xs with
  | nil=>exact absurd rfl hne
  | cons r rs =>
   simp only [headA,beq_iff_eq] at hz
   rw [← hz]
   exact (hz' r (by simp)).symm
 rcases h.mem.arrA hm with ⟨h0,rfl⟩ | ⟨b',cap',cs,hμ',hh,hle',_,hsz,hzz,hd⟩
 ·exact absurd rfl hne
 ·have:=hhead z' hzz
  subst this
  rcases z29 hx with ⟨hμ,hv⟩ | ⟨b,z,l,c,hμ,hv⟩
  ·rw [hμ'] at hμ;cases hμ
  ·rw [hμ] at hμ';cases hμ'
   refine⟨hne,hzz,_,_,hv,hle',fun i j=>cs.getD (i * z' + j) Go.undef,fun i r j d h1 h2=>?_⟩
   obtain⟨u,p1,p2,p3⟩:=hd i r j d h1 h2
   rw [z17 hh,Nat.zero_add]
   simp only [Array.getD_eq_getD_getElem?,p1,Option.getD_some]
   exact⟨trivial,p2,p3⟩
theorem z1073 (h:StRel P base out st μ tmps w) {n:Nat} {e z:Nat} {rows rows':List (List AV)} (hn:st.m[n]?=some (some (.arrA e z rows))) {w':World} {L:Loc}
  (hB:∀ k,k<w.heap.size→(∀ z' l' c',μ n≠some (.at k z' l' c'))→w'.heap[k]?=w.heap[k]?) (hsz:w.heap.size≤w'.heap.size)
  (hL:∀ b z l c,L=.at b z l c→(∃ z' l' c',μ n=some (.at b z' l' c'))∨(w.heap.size≤b∧b<w'.heap.size))
  (hblk:Goes w (ownOf out μ) w' (ownOf out (μ.upd n (some L)))→BlkRel w' (ownOf out (μ.upd n (some L))) (μ.upd n (some L)) n (.arrA e z rows')) :
  StRel P base out { (st.kill n) with m:=(st.kill n).m.set n (some (.arrA e z rows')) } (μ.upd n (some L)) tmps w':=by
 have hown:∀ b,ownOf out (μ.upd n (some L)) b→ownOf out μ b∨w.heap.size≤b:=by
  rintro b (hb | ⟨k,z,l,c,hb⟩)
  ·exact .inl (.inl hb)
  ·by_cases hk:k=n
   ·subst hk
    rw [Pl.upd_same] at hb
    cases hb
    rcases hL _ _ _ _ rfl with ⟨z',l',c',h1⟩ | h1
    ·exact .inl (.inr ⟨k,z',l',c',h1⟩)
    ·exact .inr h1.1
   ·rw [Pl.upd_ne μ _ hk] at hb
    exact .inl (.inr ⟨k,z,l,c,hb⟩)
 have hg:Goes w (ownOf out μ) w' (ownOf out (μ.upd n (some L))):=fun b o v h1 h2=>by
  have hlt:=h2.lt
  refine⟨fun hc=>?_,?_⟩
  ·rcases hown b hc with h3 | h3
   ·exact h1 h3
   ·omega
  ·have:=hB b hlt (fun z' l' c' hc=>h1 (.inr ⟨n,z',l',c',hc⟩))
   exact h2.heap this
 have hlen:n<st.m.length:=(List.getElem?_eq_some_iff.1 hn).1
 have hml:(st.kill n).m.length=st.m.length:=by
  have:∀ (m:List (Option Blk)),(subMem n (fun _=>AV.undef) m).length=m.length:=by
   intro m
   induction m with
   | nil=>rfl
   | cons x xs ih=>cases x <;> simp [subMem,ih]
  exact this st.m
 exact h.turn (n:=n) (f:=fun _=>.undef) hg (fun k hk=>Pl.upd_ne μ _ hk) (fun y u _ _=>.undef _)
  (fun k b z l c hk hb=>hB b (z31 h.mem hb) (fun z' l' c' hc=>hk (h.mem.inj k n b _ _ _ _ _ _ hb hc))) hsz
  (fun k hk=>by rw [List.getElem?_set_ne (Ne.symm hk)];simp only [St.kill,z24])
  (fun b hb=>by rw [List.getElem?_set_self (by rw [hml];exact hlen)] at hb;cases hb;exact hblk hg)
  (fun _=>⟨_,List.getElem?_set_self (by rw [hml];exact hlen)⟩)
  (fun b z l c hb=>by
   rw [Pl.upd_same] at hb
   cases hb
   rcases hL _ _ _ _ rfl with ⟨z',l',c',h1⟩ | h1
   ·have:=h.mem.base n b _ _ _ h1
    exact⟨⟨this.1,by omega,this.2.2⟩,fun k z'' l'' c'' hk hc=>hk (h.mem.inj k n b _ _ _ _ _ _ hc h1)⟩
   ·refine⟨⟨fun hc=>by have:=h.le b hc;omega,h1.2,fun hc=>by have:=h.le b (h.out b hc);omega⟩,fun k z'' l'' c'' hk hc=>?_⟩
    have:=z31 h.mem hc
    omega)
theorem z221 (n:Nat) (rows:List (List AV)):(killN n rows).length=rows.length:=by simp [killN]
theorem z872 {n z:Nat} {rows:List (List AV)} (h:∀ r ∈ rows,r.length=z):∀ r ∈ killN n rows,r.length=z:=by
 intro r hr
 simp only [killN,List.mem_map] at hr
 obtain⟨q,hq,rfl⟩:=hr
 simpa using h q hq
theorem z1094 {n:Nat} {L:Loc} {w':World} (hg:Goes w (ownOf out μ) w' (ownOf out (μ.upd n (some L)))) {rows xs:List (List AV)} {z b off:Nat} {f:Nat→Nat→Value} {A:Array Value} {cs:List Value} (hA:A.toList=cs)
  (hz:∀ r ∈ rows,r.length=z) (hxz:∀ r ∈ xs,r.length=z) {cur:Array Value}
  (hold:∀ q,q<rows.length * z→cs[q]?=cur[q]?) (hnew:∀ q,q<xs.length * z→cs[rows.length * z + q]?=(flat xs.length z f)[q]?)
  (hd:∀ (i:Nat) r (j:Nat) d,rows[i]?=some r→r[j]?=some d→∃ v,cur[i * z + j]?=some v∧v.oneCell'=true∧AVRel w (ownOf out μ) μ d v)
  (hf:∀ (i:Nat) r (j:Nat) d,xs[i]?=some r→r[j]?=some d→w.cell? ⟨b,off + i * z + j,none⟩=some (f i j)∧(f i j).oneCell'=true∧AVRel w (ownOf out μ) μ d (f i j)) :
  ∀ (i:Nat) r (j:Nat) d,(killN n (rows++xs))[i]?=some r→r[j]?=some d→∃ v,A[i * z + j]?=some v∧v.oneCell'=true∧AVRel w' (ownOf out (μ.upd n (some L))) (μ.upd n (some L)) d v:=by
 subst hA
 have:=z1267 (w:=w) (R:=AVRel w (ownOf out μ) μ) (R':=AVRel w' (ownOf out (μ.upd n (some L))) (μ.upd n (some L))) (g:=AV.sub n fun _=>.undef) hz hxz
  (fun x v hxv=>hxv.sub (n:=n) (f:=fun _=>.undef) hg (fun k hk _=>Pl.upd_ne μ _ hk) (fun _ _ _ _=>.undef _)) hold hnew hd hf
 simpa only [Array.getElem?_toList,killN] using this
theorem z994 (h:StRel P base out st μ tmps w) {t t':TypeId} {s x:Operand} (ho:o.op=.call { callee:=.builtin .append,args:=#[s,x],argTypes:=#[t,t'] })
  (hs:opAppendA P st o.dst t t' (st.ev s) (st.ev x)=some st'):OpOK P base out μ o st' tmps w:=by
 have hsv:=h.ev s []
 have hxv:=h.ev x []
 unfold opAppendA at hs
 split at hs
 rotate_left
 ·cases hs
 rename_i htt
 subst htt
 split at hs
 rotate_left
 ·cases hs
 rename_i d e m hd ht hevx
 rw [hevx] at hxv
 split at hs
 rotate_left
 ·cases hs
 rename_i z by_ zl em zm xs hz hby hzl hm
 split at hs
 rotate_left
 ·cases hs
 rename_i hcond
 obtain⟨rfl,hz0,hb0,hb7,hhead⟩:=hcond
 rw [Option.map_eq_some_iff] at hzl
 obtain⟨zv,hzv,hzs⟩:=hzl
 obtain⟨i,hi,hiz⟩:=z127 hzv
 obtain⟨i',hi',hib⟩:=z70 hby
 rw [hi] at hi';cases hi'
 have his:=z494 hz hi
 obtain⟨hx0,hxz,bx,cap,hxval,hxcap,f,hf2⟩:=z733 h hxv hm hhead
 obtain⟨hn1,hn2⟩:=z1184 hxz hf2
 have hpos:0<xs.length:=List.length_pos_iff.2 hx0
 have h39:(2:Nat) ^ 39=549755813888:=by decide
 split at hs
 ·-- onto nil
  rename_i hev
  rw [hev] at hsv
  have hsval:=z115 hsv
  split at hs
  rotate_left
  ·cases hs
  rename_i hf
  split at hs
  rotate_left
  ·cases hs
  rename_i hxl
  cases hs
  have hby128:xs.length * i.bytes≤281474976710656:=by
   rw [hib]
   calc xs.length * by_≤2 ^ 39 * 2 ^ 7:=Nat.mul_le_mul hxl hb7
    _≤281474976710656:=by decide
  have hr:=run_append_nil (P:=P) w t' o.type e i zv (z12 ht) hi hiz ⟨bx,0,none⟩ xs.length cap (flat xs.length zl f) (by rw [z14,his]) hn1 hpos (by omega) hby128
  have hge:=grownCap_ge w xs.length 0 e
  have hcm:grownCap w xs.length 0 e≤maxLen:=grownCap_le_maxLen w xs.length 0 e (by simp only [maxLen];omega)
  obtain⟨μ',hst,hB⟩:=z925 h (z19 hf) (e:=e) (z:=zl) (rows:=xs) (cs:=(flat xs.length zl f).toArray++Builtin.zeroCells zv.cells (grownCap w xs.length 0 e - xs.length)) (cap:=grownCap w xs.length 0 e)
   (w':=w.drew.alloc (.cells ((flat xs.length zl f).toArray++Builtin.zeroCells zv.cells (grownCap w xs.length 0 e - xs.length)) e))
   ⟨w.drew,(Below.refl _ _).drew,rfl,rfl⟩ hge hcm (by rw [Array.size_append,size_zeroCells,hzs,List.size_toArray,z14,← Nat.add_mul];congr 1;omega) hxz
   (fun i r j dv hi hj=>by
    have hil:i<xs.length:=(List.getElem?_eq_some_iff.1 hi).1
    have hjz:j<zl:=by rw [← hxz r (List.mem_of_getElem? hi)];exact (List.getElem?_eq_some_iff.1 hj).1
    have hg:=z87 f hil hjz
    obtain⟨p1,p2,p3⟩:=hf2 i r j dv hi hj
    refine⟨f i j,?_,p2,p3⟩
    rw [Array.getElem?_append_left (by have:=(List.getElem?_eq_some_iff.1 hg).1;simpa using this)]
    simpa using hg)
  refine⟨.value (.slice (some ⟨w.heap.size,0,none⟩) xs.length (grownCap w xs.length 0 e)),_,_,μ',fun ds=>?_,.inl rfl,by rw [hd];exact hst,hB⟩
  unfold execOp
  rw [z22]
  have hxval3:(({ tmps:=tmps,defers:=[] }:Act).eval x)=.slice (some ⟨bx,0,none⟩) xs.length cap:=hxval
  simp [ho,resolve,invoke,builtin,hsval,hxval3,hr]
 ·-- onto an array of the call's own
  rename_i n hev
  rw [hev] at hsv
  have fin:∀ (v:Value) (w':World) (μ':Pl) (st'':St),(Builtin.append_ #[t',t'] o.type #[val tmps s,val tmps x]).run P w=.ok v w'→StRel P base out st'' μ' tmps w'→AVRel w' (ownOf out μ') μ' (.own n) v →
    KeepO base (ownOf out μ) w (ownOf out μ') w'→OpOK P base out μ o (st''.put o.dst (.own n)) tmps w:=by
   intro v w' μ' st'' hr hst hrel hB
   refine⟨.value v,v,w',μ',fun ds=>?_,.inl rfl,hst.put hrel o.dst,hB⟩
   unfold execOp
   rw [z22]
   simp only [val] at hr
   simp [ho,resolve,invoke,builtin,hr]
  split at hs
  rotate_left
  ·cases hs
  rename_i e' z' rows hn
  split at hs
  rotate_left
  ·cases hs
  rename_i hcond2
  obtain⟨rfl,rfl,hsum⟩:=hcond2
  cases hs
  rcases h.mem.arrA hn with ⟨h0,rfl⟩ | ⟨b,c,cur,hμ',hh,hle',hcm',hsz,hzz,hdd⟩
  ·-- it is nil as yet
   rcases z29 hsv with ⟨hμ,hsval⟩ | ⟨b,z,l,c,hμ,hsval⟩
   rotate_left
   ·rw [h0] at hμ;cases hμ
   simp only [List.length_nil,Nat.zero_add] at hsum
   have hby128:xs.length * i.bytes≤281474976710656:=by
    rw [hib]
    calc xs.length * by_≤2 ^ 39 * 2 ^ 7:=Nat.mul_le_mul hsum hb7
     _≤281474976710656:=by decide
   have hr:=run_append_nil (P:=P) w t' o.type e' i zv (z12 ht) hi hiz ⟨bx,0,none⟩ xs.length cap (flat xs.length z' f) (by rw [z14,his]) hn1 hpos (by omega) hby128
   have hge:=grownCap_ge w xs.length 0 e'
   have hcm:grownCap w xs.length 0 e'≤maxLen:=grownCap_le_maxLen w xs.length 0 e' (by simp only [maxLen];omega)
   have hB:Below w.heap.size w (w.drew.alloc (.cells ((flat xs.length z' f).toArray++Builtin.zeroCells zv.cells (grownCap w xs.length 0 e' - xs.length)) e')):=(Below.refl _ _).drew.alloc (Nat.le_refl _) _
   have hst:=z1073 h hn (w':=w.drew.alloc (.cells ((flat xs.length z' f).toArray++Builtin.zeroCells zv.cells (grownCap w xs.length 0 e' - xs.length)) e')) (L:=.at w.heap.size z' xs.length (grownCap w xs.length 0 e')) (rows':=killN n ([]++xs))
    (fun k hk _=>hB.block k hk) hB.size (fun b z l c e=>by cases e;exact .inr ⟨Nat.le_refl _,by simp⟩)
    (fun hg=>.inr ⟨w.heap.size,_,_,by rw [z221];simpa using Pl.upd_same μ n _,heap_alloc_new w.drew _,by rw [z221];simpa using hge,hcm,by rw [Array.size_append,size_zeroCells,hzs,List.size_toArray,z14,← Nat.add_mul];congr 1;omega,z872 (by simpa using hxz),
     z1094 hg (rows:=[]) (xs:=xs) (cur:=#[]) rfl (by simp) hxz
      (fun q hq=>by simp at hq) (fun q hq=>by
       simp only [List.length_nil,Nat.zero_mul,Nat.zero_add,Array.toList_append]
       rw [List.getElem?_append_left (by rw [z14];exact hq)]) (fun i r j d hi=>by simp at hi) hf2⟩)
   refine fin (.slice (some ⟨w.heap.size,0,none⟩) xs.length (grownCap w xs.length 0 e')) _ _ _ ?_ hst (.own (Pl.upd_same μ n _)) (z66 (z54 hB h.le) (fun k hk _=>hB.block k hk) (fun b z l c e=>by cases e;exact .inr ⟨Nat.le_refl _,by simp⟩))
   simp only [val] at hxval ⊢;rw [hsval,hxval];exact hr
  ·rcases z29 hsv with ⟨hμ,hsval⟩ | ⟨b2,zz,l2,c2,hμ,hsval⟩
   ·rw [hμ'] at hμ;cases hμ
   rw [hμ] at hμ';cases hμ'
   have hcurl:rows.length * z'≤cur.size:=by rw [hsz];exact Nat.mul_le_mul_right _ hle'
   have hall:∀ r ∈ rows++xs,r.length=z':=fun r hr=>by
    rcases List.mem_append.1 hr with h1 | h1
    ·exact hzz r h1
    ·exact hxz r h1
   by_cases hroom:rows.length + xs.length≤c
   ·-- in place
    have hfit:rows.length * i.size + (flat xs.length z' f).length≤cur.size:=by
     rw [his,z14,hsz,← Nat.add_mul];exact Nat.mul_le_mul_right _ hroom
    have hr:=run_append_room (P:=P) w t' o.type e' i (z12 ht) hi b rows.length c cur hh ⟨bx,0,none⟩ xs.length cap (flat xs.length z' f) (by rw [z14,his]) hn1 hn2 hroom hfit
    rw [his] at hr hfit
    have hW:Wrote b w (w.setRow b (cur.toList.take (rows.length * z')++flat xs.length z' f++cur.toList.drop (rows.length * z' + (flat xs.length z' f).length)).toArray):=z30
    have hmid:=z249 cur.toList (flat xs.length z' f) (rows.length * z') (by simpa using hfit)
    have hlk:(killN n (rows++xs)).length=rows.length + xs.length:=by rw [z221,List.length_append]
    have hst:=z1073 h hn (w':=w.setRow b (cur.toList.take (rows.length * z')++flat xs.length z' f++cur.toList.drop (rows.length * z' + (flat xs.length z' f).length)).toArray) (L:=.at b z' (rows.length + xs.length) c) (rows':=killN n (rows++xs))
     (fun k _ hk=>hW.block k (fun e=>hk _ _ _ (e ▸ hμ))) (Nat.le_of_eq hW.size.symm) (fun _ _ _ _ e=>by cases e;exact .inl ⟨_,_,_,hμ⟩)
     (fun hg=>.inr ⟨b,c,_,by rw [hlk];exact Pl.upd_same μ n _,setRow_heap w b cur _ e' _ hh,by rw [hlk];exact hroom,hcm',by
       simp only [List.size_toArray,List.length_append,List.length_take,List.length_drop,Array.length_toList];omega,z872 hall,z1094 hg (rows:=rows) (xs:=xs) (cur:=cur) rfl
        hzz hxz
        (fun q hq=>by rw [hmid,if_neg (by omega)];simp)
        (fun q hq=>by rw [hmid,if_pos (by rw [z14];omega)];congr 1;omega) hdd hf2⟩)
    refine fin (.slice (some ⟨b,0,none⟩) (rows.length + xs.length) c) _ _ _ ?_ hst (.own (Pl.upd_same μ n _)) (z66 (hW.keep hh (h.mem.base n b _ _ _ hμ).1) (fun k _ hk=>hW.block k (fun e=>hk _ _ _ (e ▸ hμ))) (fun _ _ _ _ e=>by cases e;exact .inl ⟨_,_,_,hμ⟩))
    simp only [val] at hxval ⊢;rw [hsval,hxval];exact hr
   ·-- z694
    have holds:∀ q u,(cur.toList.take (rows.length * z'))[q]?=some u→w.cell? ((⟨b,0,none⟩:Addr).add q)=some u:=fun q u hq=>by
     rw [Addr.add_lit,z17 hh,Nat.zero_add]
     rw [List.getElem?_take] at hq
     split at hq
     ·simpa using hq
     ·cases hq
    have hr:=run_append_grow (P:=P) w t' o.type e' i zv (z12 ht) hi hiz ⟨b,0,none⟩ rows.length c (cur.toList.take (rows.length * z')) (by rw [his];simp;omega) holds ⟨bx,0,none⟩ xs.length cap (flat xs.length z' f) (by rw [z14,his]) hn1
     (by omega) (by omega) (by rw [hib];exact z153 hsum hb7 (by omega))
    have hge:=grownCap_ge w (rows.length + xs.length) c e'
    have hcm:grownCap w (rows.length + xs.length) c e'≤maxLen:=grownCap_le_maxLen w _ c e' (by simp only [maxLen];omega)
    obtain⟨W,hW⟩:∃ W,w.drew.alloc (.cells ((cur.toList.take (rows.length * z')).toArray++(flat xs.length z' f).toArray++Builtin.zeroCells zv.cells (grownCap w (rows.length + xs.length) c e' - (rows.length + xs.length))) e')=W:=⟨_,rfl⟩
    have hB:Below w.heap.size w W:=by rw [← hW];exact (Below.refl _ _).drew.alloc (Nat.le_refl _) _
    have hnew:W.heap[w.heap.size]?=some (.cells ((cur.toList.take (rows.length * z')).toArray++(flat xs.length z' f).toArray++Builtin.zeroCells zv.cells (grownCap w (rows.length + xs.length) c e' - (rows.length + xs.length))) e' (0,0)):=by rw [← hW];exact heap_alloc_new w.drew _
    rw [hW] at hr
    have htl:(cur.toList.take (rows.length * z')).length=rows.length * z':=by simp;omega
    have hlk:(killN n (rows++xs)).length=rows.length + xs.length:=by rw [z221,List.length_append]
    have hst:=z1073 h hn (w':=W) (L:=.at w.heap.size z' (rows.length + xs.length) (grownCap w (rows.length + xs.length) c e')) (rows':=killN n (rows++xs))
     (fun k hk _=>hB.block k hk) hB.size (fun b z l c e=>by cases e;exact .inr ⟨Nat.le_refl _,(Array.getElem?_eq_some_iff.1 hnew).1⟩)
     (fun hg=>.inr ⟨w.heap.size,_,_,by rw [hlk];exact Pl.upd_same μ n _,hnew,by rw [hlk];exact hge,hcm,by
       rw [Array.size_append,Array.size_append,size_zeroCells,hzs,List.size_toArray,List.size_toArray,z14,htl,← Nat.add_mul,← Nat.add_mul];congr 1;omega,z872 hall,z1094 hg (rows:=rows) (xs:=xs) (cs:=cur.toList.take (rows.length * z')++(flat xs.length z' f++(Builtin.zeroCells zv.cells (grownCap w (rows.length + xs.length) c e' - (rows.length + xs.length))).toList)) (cur:=cur)
        (by simp [List.append_assoc]) hzz hxz
        (fun q hq=>by rw [List.getElem?_append_left (by omega),List.getElem?_take,if_pos hq];simp)
        (fun q hq=>by
         rw [List.getElem?_append_right (by omega),htl,List.getElem?_append_left (by rw [z14];omega)]
         congr 1;omega) hdd hf2⟩)
    refine fin (.slice (some ⟨w.heap.size,0,none⟩) (rows.length + xs.length) (grownCap w (rows.length + xs.length) c e')) W _ _ ?_ hst (.own (Pl.upd_same μ n _)) (z66 (z54 hB h.le) (fun k hk _=>hB.block k hk) (fun b z l c e=>by cases e;exact .inr ⟨Nat.le_refl _,(Array.getElem?_eq_some_iff.1 hnew).1⟩))
    simp only [val] at hxval ⊢;rw [hsval,hxval];exact hr
 ·cases hs
end
end Go.Ab
/- Regions within which arrays are made whose cells name memory of the call's own;arrays told the one way and the other. -/
namespace Go.Ab
open Go.RowKit
def stepX (P:Program) (o:Oper) (s:St):Option St:=match o.op with
 | .buildSlice t len parts=>match o.dst,opBuildSliceA P t len (parts.toList.map fun p=>(p.1,s.ev p.2)) with
  | some d,some b=>match s.fresh d with
   | true=>some (s.addBlk d (.own d) b)
   | false=>none
  | _,_=>none
 | .call { callee:=.builtin .append,args,argTypes }=>match args.toList,argTypes.toList with
  | [x,y],[t,t']=>opAppendA P s o.dst t t' (s.ev x) (s.ev y)
  | _,_=>none
 | _=>none
def XOk (P:Program) (o:Oper) (s s':St):Prop:=(∀ c,o.op≠.defer c)∧∀ (base out:Own) (μ:Pl) (tmps:Array Value) (w:World),StRel P base out s μ tmps w→OpOK P base out μ o s' tmps w
theorem z1127 {P:Program} {o:Oper} {s s':St} (h:stepX P o s=some s'):XOk P o s s':=by
 unfold stepX at h
 split at h
 ·rename_i t len parts ho
  refine⟨fun c hc=>(by rw [ho] at hc;cases hc),fun base out μ tmps w hst=>?_⟩
  split at h
  ·rename_i d b hd hb
   split at h
   ·rename_i hf
    cases h
    exact z425 hst ho hd hf hb
   ·cases h
  ·cases h
 ·rename_i args ts ho
  split at h
  ·rename_i x y t t' ha ht
   obtain rfl:args=#[x,y]:=by apply Array.toList_inj.1;rw [ha]
   obtain rfl:ts=#[t,t']:=by apply Array.toList_inj.1;rw [ht]
   exact⟨fun c hc=>(by rw [ho] at hc;cases hc),fun base out μ tmps w hst=>z994 hst ho h⟩
  ·cases h
 ·cases h
inductive SeqX (P:Program) (ops:Array Oper):List Oper→St→St→Prop where
 | nil (s:St):SeqX P ops [] s s
 | cons {o:Oper} {os:List Oper} {s s1 s':St} (hd:dstOk o=true) (h:StepG P ops o s s1) (ht:SeqX P ops os s1 s'):SeqX P ops (o::os) s s'
 | made {o:Oper} {os:List Oper} {s s1 s':St} (hg:o.guard=none) (h:XOk P o s s1) (ht:SeqX P ops os s1 s'):SeqX P ops (o::os) s s'
 | weak {os:List Oper} {s s1 s':St} (hw:Weak s s1) (ht:SeqX P ops os s1 s'):SeqX P ops os s s'
theorem SeqX.of {P:Program} {ops:Array Oper} {os:List Oper} {s s':St} (h:Seq P ops os s s'):SeqX P ops os s s':=by
 induction h with
 | nil s=>exact .nil s
 | cons hd h _ ih=>exact .cons hd h ih
theorem SeqX.append {P:Program} {ops:Array Oper} {os os2:List Oper} {s s1 s2:St} (h:SeqX P ops os s s1) (h2:SeqX P ops os2 s1 s2):SeqX P ops (os++os2) s s2:=by
 induction h with
 | nil s=>exact h2
 | cons hd h _ ih=>exact .cons hd h (ih h2)
 | made hg h _ ih=>exact .made hg h (ih h2)
 | weak hw _ ih=>exact .weak hw (ih h2)
section
variable {P:Program} {base:Own} {out:Own} {st st':St} {μ:Pl} {tmps:Array Value} {w:World} {o:Oper} {ops:Array Oper} {rd:Option Nat} {n:Nat} {Q:Exit→Act→World→Prop}
theorem z1078 (h:StRel P base out st μ tmps w) {i:Nat} (ho:ops[i]?=some o) (hg:o.guard=none) (hs:XOk P o st st') {ds:List Deferred} {K:Act→World→Prop}
  (hK:∀ tmps' μ' w',StRel P base out st' μ' tmps' w'→KeepO base (ownOf out μ) w (ownOf out μ') w'→Same (o.dst.toList) tmps tmps'→K { tmps:=tmps',defers:=ds } w') :
  wpOpIn (fence rd) n P ops Q i K { tmps:=tmps,defers:=ds } w:=by
 unfold wpOpIn
 simp only [ho]
 have:Region.wanted o (yielded ops tmps)=true:=by simp [Region.wanted,hg]
 simp only [this,if_true]
 refine⟨fun _ _=>trivial,?_⟩
 obtain⟨nx,v,w',μ',hr,hnx,hst,hB⟩:=hs.2 _ _ _ _ _ h
 rw [Oper.semAt_eq _ _ _ hs.1,hr ds]
 rcases hnx with rfl | ⟨rfl,rfl⟩
 ·simp only [Oper.uponIn_value,z78]
  exact hK _ μ' w' hst hB (z44 tmps o.dst v)
 ·simp only [Oper.uponIn_skip,z78]
  exact hK _ μ' w' hst hB (z44 tmps o.dst _)
theorem z1207 {os:List Oper} {st st':St} (hs:SeqX P ops os st st'):∀ (k:Nat) (μ:Pl) (tmps:Array Value) (w:World),(∀ i o,os[i]?=some o→ops[k + i]?=some o)→StRel P base out st μ tmps w→∀ {ds:List Deferred},
  (∀ tmps' μ' w',StRel P base out st' μ' tmps' w'→KeepO base (ownOf out μ) w (ownOf out μ') w'→Same (opDsts os) tmps tmps'→Q .normal { tmps:=tmps',defers:=ds } w') →
  wpOpsIn (fence rd) n P ops Q (List.range' k os.length) { tmps:=tmps,defers:=ds } w:=by
 induction hs with
 | nil s=>exact fun k μ tmps w _ h ds hK=>hK _ μ w h (KeepO.refl _ _ _) (Same.refl _ _)
 | @cons o os s s1 s' hd h1 ht ih =>
  intro k μ tmps w hos h ds hK
  rw [List.length_cons,List.range'_succ,wpOpsIn_cons]
  refine z65 h (by simpa using hos 0 o (by simp)) hd h1 (fun tmps' μ' w' h2 hB hS=>?_)
  exact ih (k + 1) μ' tmps' w' (fun i o' hi=>by have:=hos (i + 1) o' (by simpa using hi);rwa [show k + 1 + i=k + (i + 1) by omega]) h2
   (fun tmps2 μ2 w2 h3 hB2 hS2=>hK tmps2 μ2 w2 h3 (hB.trans hB2) (hS.cons hS2))
 | @made o os s s1 s' hg h1 ht ih =>
  intro k μ tmps w hos h ds hK
  rw [List.length_cons,List.range'_succ,wpOpsIn_cons]
  refine z1078 h (by simpa using hos 0 o (by simp)) hg h1 (fun tmps' μ' w' h2 hB hS=>?_)
  exact ih (k + 1) μ' tmps' w' (fun i o' hi=>by have:=hos (i + 1) o' (by simpa using hi);rwa [show k + 1 + i=k + (i + 1) by omega]) h2
   (fun tmps2 μ2 w2 h3 hB2 hS2=>hK tmps2 μ2 w2 h3 (hB.trans hB2) (hS.cons hS2))
 | weak hw ht ih =>
  intro k μ tmps w hos h ds hK
  obtain⟨μ3,h3,hsub⟩:=hw P base out μ tmps w h
  exact ih k μ3 tmps w hos h3 fun tmps2 μ2 w2 h4 hB2 hS2=>hK tmps2 μ2 w2 h4 ((KeepO.less hsub).trans hB2) hS2
end
theorem z269 {P:Program} {rd:Option Nat} {n:Nat} {J:Env} {k:Option Nat} {st s3:St} {Q:Exit→Option Nat→St→Prop} {id:Nat} {ops:Array Oper} (hs:SeqX P ops ops.toList st s3) (hq:Q .normal k s3):Walk P rd n J (.region id ops false) k st Q:=fun B base out μ tmps w ds _ hst hJ hM=>by
 refine wpIn_region ?_
 have:=z1207 (n:=n) (rd:=rd) (Q:=Ends P J B (dsts (.region id ops false)) (ownOf out μ) tmps w Q) hs 0 μ tmps w (fun i o hi=>by simpa using hi) hst (ds:=ds) (fun tmps' μ' w' h3 hk hS=>.step hJ h3 hk hS hM hq)
 rw [List.range_eq_range']
 simpa using this
def runX (P:Program) (ops:Array Oper):List Nat→List Oper→St→(St→Prop)→Prop
 | [],os,s,K=>runK P ops os s K
 | p::ps,os,s,K=>runK P ops (os.take p) s fun s=>match os.drop p with
  | o::rest=>o.guard=none∧bindK (stepX P o s) fun s1=>runX P ops ps rest s1 K
  | []=>False
theorem z903 {P:Program} {ops:Array Oper}:∀ (ps:List Nat) (os:List Oper) (s:St) (K:St→Prop),runX P ops ps os s K→∃ s',SeqX P ops os s s'∧K s'
 | [],os,s,K,h=>by
  obtain⟨s',h1,h2⟩:=z95 os s K h
  exact⟨s',.of h1,h2⟩
 | p::ps,os,s,K,h=>by
  obtain⟨s1,h1,h2⟩:=z95 _ _ _ h
  split at h2
  ·rename_i o rest hd
   obtain⟨hg,s2,h3,h4⟩:=h2
   obtain⟨s',h5,h6⟩:=z903 ps rest s2 K h4
   refine⟨s',?_,h6⟩
   have:=(SeqX.of h1).append (.made hg (z1127 h3) h5)
   rwa [← hd,List.take_append_drop] at this
  ·exact h2.elim
theorem z492 {P:Program} {rd:Option Nat} {n:Nat} {J:Env} {cs:List Code} {k:Option Nat} {st:St} {Q:Exit→Option Nat→St→Prop} {id:Nat} {ops:Array Oper} (ps:List Nat)
  (h:∀ K:St→Prop,(∀ s,WalkL P rd n J cs k s Q→K s)→runX P ops ps ops.toList st K):WalkL P rd n J (.region id ops false::cs) k st Q:=by
 obtain⟨s1,h1,h2⟩:=z903 ps _ _ _ (h _ fun _ h=>h)
 exact z269 h1 h2
def lift (rows:List (List DV)):List (List AV):=rows.map fun r=>r.map .d
def St.toA (n:Nat) (st:St):St:=match (st.m[n]?:Option (Option Blk)) with
 | some (some (.arr e z rows))=>{ st with m:=st.m.set n (some (.arrA e z (lift rows))) }
 | _=>st
section
variable {P:Program} {base:Own} {out:Own} {st st':St} {μ:Pl} {tmps:Array Value} {w:World}
theorem StRel.retell (h:StRel P base out st μ tmps w) {n:Nat} {b b':Blk} (hb:st.m[n]?=some (some b)) (hr:BlkRel w (ownOf out μ) μ n b→BlkRel w (ownOf out μ) μ n b') :
  StRel P base out { st with m:=st.m.set n (some b') } μ tmps w:=by
 have hl:n<st.m.length:=(List.getElem?_eq_some_iff.1 hb).1
 refine⟨h.size,h.tmp,⟨fun k x hk=>?_,fun k hk=>?_,h.mem.inj,h.mem.base⟩,h.hid,h.out,h.le⟩
 ·dsimp only at hk
  rw [List.getElem?_set] at hk
  split at hk
  ·rename_i e
   subst e
   simp only [Option.some.injEq] at hk
   cases hk
   exact hr (h.mem.blk _ _ hb)
  ·exact h.mem.blk k x hk
 ·obtain⟨x,hx⟩:=h.mem.dom k hk
  dsimp only
  rw [List.getElem?_set]
  split
  ·rename_i e
   exact⟨b',by simp [hl]⟩
  ·exact⟨x,hx⟩
theorem z1171 {rows:List (List DV)} {i j:Nat} {r:List AV} {x:AV} (h1:(lift rows)[i]?=some r) (h2:r[j]?=some x):∃ r0 d,rows[i]?=some r0∧r0[j]?=some d∧x=.d d:=by
 simp only [lift,List.getElem?_map,Option.map_eq_some_iff] at h1
 obtain⟨r0,h1,rfl⟩:=h1
 simp only [List.getElem?_map,Option.map_eq_some_iff] at h2
 obtain⟨d,h2,rfl⟩:=h2
 exact⟨r0,d,h1,h2,rfl⟩
theorem z1121 (n:Nat) (st:St):Weak st (st.toA n):=by
 intro P base out μ tmps w h
 unfold St.toA
 split
 ·rename_i e z rows hn
  refine⟨μ,h.retell hn fun hr=>?_,fun _ hb=>hb⟩
  rcases hr with ⟨h0,rfl⟩ | ⟨b,cap,cs,h1,h2,h3,h4,h5,h6,h7⟩
  ·exact .inl ⟨h0,rfl⟩
  ·refine .inr ⟨b,cap,cs,by simpa [lift] using h1,h2,by simpa [lift] using h3,h4,h5,fun r hr=>?_,fun i r j x hi hj=>?_⟩
   ·simp only [lift,List.mem_map] at hr
    obtain⟨q,hq,rfl⟩:=hr
    simpa using h6 q hq
   ·obtain⟨r0,d,q1,q2,rfl⟩:=z1171 hi hj
    obtain⟨v,p1,p2,p3⟩:=h7 i r0 j d q1 q2
    exact⟨v,p1,p2,.d p3⟩
 ·exact⟨μ,h,fun _ hb=>hb⟩
end
theorem z1030 {P:Program} {rd:Option Nat} {n:Nat} {J:Env} {c:Code} {cs:List Code} {k:Option Nat} {st:St} {Q:Exit→Option Nat→St→Prop} (a:Nat) (h:WalkL P rd n J (c::cs) k (st.toA a) Q):WalkL P rd n J (c::cs) k st Q :=
 z63 (z1121 a st) h
theorem z1170:lift []=[]:=rfl
theorem z1082 (n:Nat):killN n []=[]:=rfl
theorem z699 (n:Nat) (a b:List (List AV)):killN n (a++b)=killN n a++killN n b:=by simp [killN]
theorem z1002 (n:Nat) (r:List AV) (b:List (List AV)):killN n (r::b)=(r.map (AV.sub n fun _=>.undef))::killN n b:=rfl
attribute [go_sem] rowsA opBuildSliceA headA opAppendA stepX St.toA z1170 z1082 z699 z1002 lenA
end Go.Ab
/- Arrays of arrays: names in a row behind all other names. -/
namespace Go.Ab
open Go.RowKit
def nm (L k:Nat):List (List AV):=(List.range k).map fun j=>[.own (j + L)]
def arrs (e z:Nat) (rs:List (List (List DV))):List (Option Blk):=rs.map fun r=>some (.arr e z r)
theorem z195 (L k:Nat):(nm L k).length=k:=by simp [nm]
theorem z1215 (L:Nat):nm L 0=[]:=rfl
theorem z1216 (L k:Nat):nm L k++[[.own (k + L)]]=nm L (k + 1):=by simp [nm,List.range_succ]
theorem z691 {L k i:Nat} (h:i<k):(nm L k)[i]?=some [.own (i + L)]:=by simp [nm,h]
theorem z1069 {n L:Nat} (h:n<L) (k:Nat) (f:AV→AV):((nm L k).map fun r=>r.map (AV.sub n f))=nm L k:=by
 simp only [nm,List.map_map]
 refine List.map_congr_left fun j _=>?_
 simp only [Function.comp_apply,List.map_cons,List.map_nil,AV.sub]
 rw [if_neg (by omega)]
theorem z1173 {n L:Nat} (h:n<L) (k:Nat):killN n (nm L k)=nm L k:=z1069 h k _
theorem z1217 {L L' k:Nat} {h:Nat→Option Nat} (hh:∀ j,j<k→h (j + L)=some (j + L')):((nm L k).map fun r=>r.map (AV.mapN h))=nm L' k:=by
 simp only [nm,List.map_map]
 refine List.map_congr_left fun j hj=>?_
 simp only [Function.comp_apply,List.map_cons,List.map_nil,AV.mapN]
 rw [hh j (by simpa using hj)]
theorem z1310 {a L:Nat} (h:a<L) (b k:Nat):((nm L k).map fun r=>r.map (AV.mapN (mv a b)))=nm L k:=z1217 fun j _=>by unfold mv;rw [if_neg (by omega)]
theorem z45 (e z:Nat) (rs:List (List (List DV))):(arrs e z rs).length=rs.length:=by simp [arrs]
theorem z98 (e z:Nat) (rs:List (List (List DV))):(arrs e z rs).all Option.isSome=true:=by simp [arrs]
theorem z1198 (e z:Nat):arrs e z []=[]:=rfl
theorem z1113 (e z:Nat) (rs:List (List (List DV))) (r:List (List DV)):arrs e z rs++[some (.arr e z r)]=arrs e z (rs++[r]):=by simp [arrs]
theorem z299 {e z i:Nat} {rs:List (List (List DV))} {r:List (List DV)} (h:rs[i]?=some r):(arrs e z rs)[i]?=some (some (.arr e z r)):=by simp [arrs,h]
theorem z921 (e z i:Nat) (rs:List (List (List DV))) (r:List (List DV)):(arrs e z rs).set i (some (.arr e z r))=arrs e z (rs.set i r):=by simp [arrs,List.map_set]
theorem z1114 (e z:Nat) (h:Nat→Option Nat) (rs:List (List (List DV))):(arrs e z rs).map (Option.map (Blk.mapN h))=arrs e z rs:=by
 simp only [arrs,List.map_map]
 exact List.map_congr_left fun _ _=>rfl
theorem z321 (n:Nat) (f:AV→AV) (e z:Nat):∀ rs:List (List (List DV)),subMem n f (arrs e z rs)=arrs e z rs
 | []=>rfl
 | r::rs=>by
  change some ((Blk.arr e z r).sub n f)::subMem n f (arrs e z rs)=_
  rw [z321 n f e z rs]
  rfl
theorem z456 {news:List Nat}:∀ {l:List (Option Blk)} {i:Nat},(∀ n,i≤n→n ∉ news)→lessM news i l l
 | [],_,_=>trivial
 | x::l,i,h=>by
  refine⟨?_,z456 fun n hn=>h n (by omega)⟩
  have hx:=h i (Nat.le_refl _)
  rcases x with _ | b
  ·exact .inl hx
  ·cases b with
   | box r =>
    refine⟨hx,?_⟩
    have:∀ r:List AV,lessT news r r:=by
     intro r
     induction r with
     | nil=>trivial
     | cons y ys ih=>exact⟨.inr (.inl rfl),ih⟩
    exact this r
   | arr=>exact⟨hx,rfl,rfl,rfl⟩
   | arrP=>exact⟨hx,rfl,rfl,rfl⟩
   | arrA=>exact⟨hx,rfl,rfl,rfl⟩
   | mp=>exact⟨hx,rfl,rfl,rfl⟩
theorem z53 (i e z:Nat) (rs:List (List (List DV))):lessM [] i (arrs e z rs) (arrs e z rs):=z456 (by simp)
theorem z34 {m:List (Option Blk)} (e z:Nat):∀ rs:List (List (List DV)),liveM m (arrs e z rs)=true
 | []=>rfl
 | r::rs=>by
  change liveM m (arrs e z rs)=true
  exact z34 e z rs
theorem z149 {m:List (Option Blk)} {L k:Nat} (h1:k≤(m.drop L).length) (h2:(m.drop L).all Option.isSome=true):((nm L k).all fun r=>r.all (liveB m))=true:=by
 rw [List.all_eq_true]
 intro r hr
 obtain⟨j,hj,rfl⟩:=List.mem_map.1 hr
 have hj:j<k:=by simpa using hj
 simp only [List.all_cons,List.all_nil,Bool.and_true,liveB,AV.refs]
 obtain⟨x,hx⟩:∃ x,(m.drop L)[j]?=some x:=⟨_,List.getElem?_eq_getElem (by omega)⟩
 have h3:=List.all_eq_true.1 h2 x (List.mem_of_getElem? hx)
 rw [List.getElem?_drop,Nat.add_comm] at hx
 rw [hx]
 cases x with
 | none=>cases h3
 | some b=>rfl
def rowN (L k:Nat):List Nat:=(List.range k).map (· + L)
end Go.Ab
/- An array of arrays of the call's own,as an array of deep values: its elements are given up. -/
namespace Go.Ab
open Go.RowKit
def ltN (L n:Nat):Option Nat:=if n<L then some n else none
def flatRows (rs:List (List (List DV))):List (List DV):=rs.map fun r=>[.sl r]
theorem z724 {rs:List (List (List DV))} {i j:Nat} {r:List DV} {x:DV} (h1:(flatRows rs)[i]?=some r) (h2:r[j]?=some x):∃ q,rs[i]?=some q∧j=0∧x=.sl q:=by
 simp only [flatRows,List.getElem?_map,Option.map_eq_some_iff] at h1
 obtain⟨q,h1,rfl⟩:=h1
 cases j with
 | zero=>cases h2;exact⟨q,h1,rfl,rfl⟩
 | succ j=>simp at h2
theorem z1026 {st:St} {L d e e1 z1:Nat} {rs:List (List (List DV))} (hL:d<L) (hl:L≤st.m.length) (hd:st.m[d]?=some (some (.arrA e 1 (nm L rs.length)))) (hr:∀ j r,rs[j]?=some r→st.m[j + L]?=some (some (.arr e1 z1 r))) :
  Weak st { t:=st.t.map (AV.mapN (ltN L)),m:=((st.m.take L).map (Option.map (Blk.mapN (ltN L)))).set d (some (.arr e 1 (flatRows rs))) }:=by
 intro P base out μ tmps w h
 obtain⟨μ',hμ'⟩:∃ μ':Pl,μ'=fun k=>if k<L then μ k else none:=⟨_,rfl⟩
 have hs:∀ k L',μ' k=some L'→k<L∧μ k=some L':=by
  intro k L' hk
  rw [hμ'] at hk
  dsimp only at hk
  split at hk
  ·rename_i e;exact⟨e,hk⟩
  ·cases hk
 have hsub:∀ b,ownOf out μ' b→ownOf out μ b:=by
  rintro b (h | ⟨n,z,l,c,h⟩)
  ·exact .inl h
  ·exact .inr ⟨n,z,l,c,(hs n _ h).2⟩
 have hg:Goes w (ownOf out μ) w (ownOf out μ'):=fun b o v h1 h2=>⟨fun hc=>h1 (hsub b hc),h2⟩
 have hmv:∀ n,(μ n).isSome→∀ k,ltN L n=some k→μ' k=μ n:=by
  intro n _ k hk
  unfold ltN at hk
  split at hk
  ·rename_i e;cases hk;rw [hμ'];simp only;rw [if_pos e]
  ·cases hk
 have hlen:((st.m.take L).map (Option.map (Blk.mapN (ltN L)))).length=L:=by simp;omega
 refine⟨μ',⟨by rw [h.size];simp,fun i x v hx hv=>?_,⟨fun k b' hk=>?_,fun k hk=>?_,fun k1 k2 b' z l c z' l' c' h1 h2=>h.mem.inj k1 k2 b' _ _ _ _ _ _ (hs _ _ h1).2 (hs _ _ h2).2,fun k b' z l c hk=>h.mem.base k b' z l c (hs _ _ hk).2⟩,h.hid.less hsub,h.out,h.le⟩,hsub⟩
 ·simp only [List.getElem?_map,Option.map_eq_some_iff] at hx
  obtain⟨y,hx,rfl⟩:=hx
  exact (h.tmp i y v hx hv).mapN (.inl hg) (fun n _ hn k hk=>hmv n hn k hk)
 ·dsimp only at hk
  rw [List.getElem?_set] at hk
  split at hk
  ·rename_i hdk
   subst hdk
   simp only [hlen,hL,if_true,Option.some.injEq] at hk
   subst hk
   have hμd:μ' d=μ d:=by rw [hμ'];simp only;rw [if_pos hL]
   rcases h.mem.arrA hd with ⟨h0,h1⟩ | ⟨b,cap,cs,q1,q2,q3,q4,q5,q6,q7⟩
   ·refine .inl ⟨hμd.trans h0,?_⟩
    have:rs.length=0:=by rw [← z195 L rs.length,h1];rfl
    rw [List.eq_nil_of_length_eq_zero this];rfl
   ·rw [z195] at q1 q3
    refine .inr ⟨b,cap,cs,by rw [hμd];simpa [flatRows] using q1,q2,by simpa [flatRows] using q3,q4,q5,fun r hr=>?_,fun i r j x hi hj=>?_⟩
    ·simp only [flatRows,List.mem_map] at hr
     obtain⟨q,_,rfl⟩:=hr
     rfl
    ·obtain⟨q,hq,rfl,rfl⟩:=z724 hi hj
     have hil:=(List.getElem?_eq_some_iff.1 hq).1
     obtain⟨v,p1,p2,p3⟩:=q7 i _ 0 _ (z691 hil) rfl
     refine⟨v,p1,p2,?_⟩
     have hno:∀ b z l c,μ (i + L)=some (.at b z l c)→¬ ownOf out μ' b:=by
      rintro b z l c hb (ho | ⟨n,z',l',c',hn⟩)
      ·exact (h.mem.base _ _ _ _ _ hb).2.2 ho
      ·obtain⟨hn1,hn2⟩:=hs _ _ hn
       have:=h.mem.inj _ _ _ _ _ _ _ _ _ hb hn2
       omega
     rcases h.mem.arr (hr i q hq) with ⟨g0,rfl⟩ | ⟨b',cap',cs',g1,g2,g3,g4,g5,g6,g7⟩
     ·rcases z29 p3 with ⟨_,rfl⟩ | ⟨b2,z2,l2,c2,g1,_⟩
      ·exact .slNil
      ·rw [g0] at g1;cases g1
     ·rcases z29 p3 with ⟨g0,_⟩ | ⟨b2,z2,l2,c2,k1,rfl⟩
      ·rw [g1] at g0;cases g0
      ·rw [g1] at k1;cases k1
       have:=z232 (own':=ownOf out μ') (e:=e1) (z:=z1) (hno _ _ _ _ g1) hsub g2 g7
       refine .sl q b' 0 z1 cap' (fun i j=>cs'.getD (i * z1 + j) Go.undef) g3 g6 (fun i r j d h1 h2=>?_) (fun i r j d h1 h2=>(this i r j d h1 h2).2)
       rw [Nat.zero_add]
       exact (this i r j d h1 h2).1
  ·rename_i hdk
   simp only [List.getElem?_map,Option.map_eq_some_iff,List.getElem?_take] at hk
   obtain⟨ob,hob,b0,rfl,rfl⟩:=hk
   split at hob
   ·rename_i hkL
    exact BlkRel.mapN (.inl hg) (by rw [hμ'];simp only;rw [if_pos hkL]) hmv (fun _ _ _ _ _=>rfl) (h.mem.blk k b0 hob)
   ·cases hob
 ·obtain⟨L',hL'⟩:=Option.isSome_iff_exists.1 hk
  obtain⟨hkL,hk'⟩:=hs k L' hL'
  obtain⟨b',hb'⟩:=h.mem.dom k (by simp [hk'])
  dsimp only
  by_cases hkd:d=k
  ·subst hkd
   exact⟨_,List.getElem?_set_self (by omega)⟩
  ·refine⟨b'.mapN (ltN L),?_⟩
   rw [List.getElem?_set_ne hkd]
   simp [List.getElem?_take,hkL,hb']
theorem z931 {P:Program} {rd:Option Nat} {n:Nat} {J:Env} {c:Code} {cs:List Code} {k:Option Nat} {st:St} {Q:Exit→Option Nat→St→Prop} {L d e e1 z1:Nat} (rs:List (List (List DV))) (hL:d<L) (hl:L≤st.m.length) (hd:st.m[d]?=some (some (.arrA e 1 (nm L rs.length)))) (hr:∀ j r,rs[j]?=some r→st.m[j + L]?=some (some (.arr e1 z1 r)))
  (h:WalkL P rd n J (c::cs) k { t:=st.t.map (AV.mapN (ltN L)),m:=((st.m.take L).map (Option.map (Blk.mapN (ltN L)))).set d (some (.arr e 1 (flatRows rs))) } Q):WalkL P rd n J (c::cs) k st Q :=
 z63 (z1026 hL hl hd hr) h
attribute [go_sem] ltN
end Go.Ab
/- Calls of functions that make an array of arrays. -/
namespace Go.Ab
open Go.RowKit
end Go.Ab
/- An array of structs that hold arrays of the call's own,as an array of deep values. -/
namespace Go.Ab
open Go.RowKit
def upCell (L:Nat) (rs:List (List (List DV))) (x:AV) (d:DV):Prop:=x=.d d∨∃ q r,x=.own (q + L)∧rs[q]?=some r∧d=.sl r
def upRows (L:Nat) (rs:List (List (List DV))) (rows:List (List AV)) (res:List (List DV)):Prop :=
 res.length=rows.length∧∀ (i:Nat) r',res[i]?=some r'→∃ r,rows[i]?=some r∧r'.length=r.length∧∀ (j:Nat) d,r'[j]?=some d→∃ x,r[j]?=some x∧upCell L rs x d
end Go.Ab
/- Calls to which values are lent that hold arrays of structs with own arrays. -/
namespace Go.Ab
open Go.RowKit
def Up (P:Program) (st:St) (x:AV) (d:DV):Prop:=∀ (base out:Own) (μ:Pl) (tmps:Array Value) (w:World) (v:Value),StRel P base out st μ tmps w→AVRel w (ownOf out μ) μ x v→DRel w out d v
def Ups (P:Program) (st:St):List AV→List DV→Prop
 | [],[]=>True
 | x::xs,d::ds=>Up P st x d∧Ups P st xs ds
 | _,_=>False
theorem Ups.get {P:Program} {st:St}:∀ {xs:List AV} {ds:List DV},Ups P st xs ds→xs.length=ds.length∧∀ (i:Nat) x d,xs[i]?=some x→ds[i]?=some d→Up P st x d
 | [],[],_=>⟨rfl,fun i x d h=>by simp at h⟩
 | x::xs,d::ds,h=>by
  obtain⟨h1,h2⟩:=h.2.get
  refine⟨by simp [h1],fun i y e hy he=>?_⟩
  cases i with
  | zero=>simp at hy he;subst hy he;exact h.1
  | succ i=>exact h2 i y e (by simpa using hy) (by simpa using he)
 | [],_::_,h=>h.elim
 | _::_,[],h=>h.elim
end Go.Ab
/- Calls of functions that make a block that names a row of arrays. -/
namespace Go.Ab
open Go.RowKit
end Go.Ab
/- Iterators that read,through an address,what their caller goes on writing beside: some cells of a block stand as they are told. -/
namespace Go.Ab
open Go.RowKit
def Pin (w:World) (own:Own) (b:Nat) (row:List (Option DV)):Prop :=
 ∃ cs ty,w.heap[b]?=some (.cells cs ty (0,0))∧∀ (j:Nat) d,row[j]?=some (some d)→∃ v,cs[j]?=some v∧v.oneCell'=true∧DRel w own d v
def IterB (P:Program) (f:FuncId) (caps:Nat→List DV) (row:List (Option DV)) (items:List (List DV)):Prop:=Enters P f ∧
 ∀ (l:Nat) (J:Seen) (w:World) (own:Own) (vs:Array Value) (b:Nat),SeenOk w.heap.size J→Gives P l J items→(∀ b,own b→b<w.heap.size)→Hid P w own→(∀ k o w',J k o w'→Pin w' o b row)→DRels w own (caps b) vs→J (some 0) own w →
  Calls P f (#[.func (.yield l) #[] #[]]++vs) w fun e w'=>∃ v o',e=.returned v∧(J (some items.length) o' w'∨J none o' w')
def loadRaw (o:Oper) (s:St):Option (TypeId × Nat × Nat):=match o.op with
 | .load t (.tmp a)=>match s.ev (.tmp a) with
  | .d (.raw b off)=>some (t,b,off)
  | _=>none
 | _=>none
def pinAt (P:Program) (t:TypeId) (off:Nat) (row:List (Option DV)):Option DV:=match tagg P t with
 | some false=>row.getD off none
 | _=>none
def noMem:List (Option Blk)→Bool
 | []=>true
 | none::l=>noMem l
 | some _::_=>false
def stepZ (P:Program) (pb:Nat) (prow:List (Option DV)) (l:Nat) (items:List (List DV)) (o:Oper) (k:Option Nat) (s:St) (K:Option Nat→St→Prop):Prop:=match loadRaw o s with
 | some (t,b,off)=>b=pb∧noMem s.m=true∧bindK (pinAt P t off prow) fun d=>K k (s.put o.dst (.d d))
 | none=>stepY P l items o k s K
def guardedZ (P:Program) (pb:Nat) (prow:List (Option DV)) (l:Nat) (items:List (List DV)) (t:AV) (want:Bool) (o:Oper) (k:Option Nat) (s:St) (K:Option Nat→St→Prop):Prop:=guardK t want (stepZ P pb prow l items o k s K) (K k (s.put o.dst .void))
def guardRunZ (P:Program) (pb:Nat) (prow:List (Option DV)) (l:Nat) (items:List (List DV)) (t:AV) (want:Bool) (o:Oper) (k:Option Nat) (s:St) (R:Option Nat→St→Prop):Prop:=∀ K':Option Nat→St→Prop,(∀ k s,R k s→K' k s)→guardedZ P pb prow l items t want o k s K'
def runZ (P:Program) (pb:Nat) (prow:List (Option DV)) (l:Nat) (items:List (List DV)) (ops:Array Oper):List Oper→Option Nat→St→(Option Nat→St→Prop)→Prop
 | [],k,s,K=>K k s
 | o::os,k,s,K=>dstOk o=true∧match guardT ops o with
  | none=>False
  | some none=>stepZ P pb prow l items o k s fun k s=>runZ P pb prow l items ops os k s K
  | some (some (t,want))=>guardRunZ P pb prow l items (s.ev (.tmp t)) want o k s fun k s=>runZ P pb prow l items ops os k s K
section
variable {P:Program} {base:Own} {out:Own} {st st':St} {μ:Pl} {tmps:Array Value} {w w':World} {o:Oper} {ops:Array Oper} {n:Nat}
theorem z177:∀ {m:List (Option Blk)} {i:Nat} {b:Blk},noMem m=true→m[i]?≠some (some b)
 | [],i,b,_,h=>by simp at h
 | none::l,i,b,hn,h=>by
  cases i with
  | zero=>simp at h
  | succ i=>simp only [List.getElem?_cons_succ] at h;exact z177 (m:=l) (by simpa [noMem] using hn) h
 | some _::l,i,b,hn,h=>by simp [noMem] at hn
theorem z1145 (h:StRel P base out st μ tmps w) {t:TypeId} {b off:Nat} (hl:loadRaw o st=some (t,b,off)) (hm:noMem st.m=true) {row:List (Option DV)} (hp:Pin w out b row) {d:DV} (hd:pinAt P t off row=some d) {ds:List Deferred} {K:Act→World→Prop} {Q:Exit→Act→World→Prop}
  (hK:∀ v,StRel P base out (st.put o.dst (.d d)) μ (putT tmps o.dst v) w→K { tmps:=putT tmps o.dst v,defers:=ds } w):o.wpIn (fence none) n P { tmps:=tmps,defers:=ds } w K Q:=by
 unfold loadRaw at hl
 split at hl
 ·rename_i t' a ho
  split at hl
  ·rename_i b' off' hev
   cases hl
   unfold pinAt at hd
   split at hd
   ·rename_i hg
    obtain⟨cs,ty,hh,hc⟩:=hp
    have hrow:row[off]?=some (some d):=by
     rw [List.getD_eq_getElem?_getD] at hd
     cases hr:row[off]? with
     | none=>simp [hr] at hd
     | some x=>simp [hr] at hd;rw [hd]
    obtain⟨v,hv,h1,hrel⟩:=hc off d hrow
    have hown:∀ k,ownOf out μ k→out k:=by
     rintro k (hk | ⟨m,z,l,c,hk⟩)
     ·exact hk
     ·obtain⟨b2,hb2⟩:=h.mem.dom m (by simp [hk])
      exact absurd hb2 (z177 hm)
    have hx:=h.ev (.tmp a) []
    rw [hev] at hx
    have hpv:=z255 hx
    have hcell:w.cell? ⟨b,off,none⟩=some v:=by rw [z17 hh];exact hv
    refine⟨fun _ _=>trivial,?_⟩
    have hrun:(execOp ({ tmps:=tmps,defers:=ds }:Act).eval o).run P w=.ok (.value v) w:=by
     unfold execOp
     rw [z22]
     simp only [val] at hpv ⊢
     simp [ho,hpv,Instr.loadAt,Instr.sureAddr,z171 hg hcell]
    rw [Oper.semAt_eq _ _ _ (by rw [ho];intro c hc;cases hc),hrun]
    simp only [Oper.uponIn_value,z78]
    refine hK v (StRel.put h (.d (hrel.goes fun k q u h1 h2=>⟨fun hc=>h1 (hown k hc),h2⟩)) o.dst)
   ·cases hd
  ·cases hl
 ·cases hl
theorem z325 {pb:Nat} {prow:List (Option DV)} {l:Nat} {items:List (List DV)} {J:Seen} {B:Nat} (hS:SeenOk B J) (hG:Gives P l J items) (hP:∀ k o w',J k o w'→Pin w' o pb prow) {ds:List Deferred} {Qm:Exit→Act→World→Prop}:∀ (os:List Oper) (i:Nat) (k:Option Nat) (st:St) (K:Option Nat→St→Prop) (base:Own) (out:Own) (μ:Pl) (tmps:Array Value) (w:World),
  (∀ j o,os[j]?=some o→ops[i + j]?=some o)→runZ P pb prow l items ops os k st K→StRel P base out st μ tmps w→(∀ w',BelowU base w w'→J k out w') →
  (∀ k' st' base' out' μ' tmps' w',StRel P base' out' st' μ' tmps' w'→(∀ w'',BelowU base' w' w''→J k' out' w'')→Stays w (ownOf out μ) w' (ownOf out' μ')→Same (opDsts os) tmps tmps'→K k' st'→Qm .normal { tmps:=tmps',defers:=ds } w') →
  wpOpsIn (fence none) n P ops Qm (List.range' i os.length) { tmps:=tmps,defers:=ds } w
 | [],i,k,st,K,base,out,μ,tmps,w,_,hr,h,hJ,hK=>hK k st base out μ tmps w h hJ (.refl _ _) (Same.refl _ _) hr
 | o::os,i,k,st,K,base,out,μ,tmps,w,hos,hr,h,hJ,hK=>by
  rw [List.length_cons,List.range'_succ,wpOpsIn_cons]
  have ho:ops[i]?=some o:=by simpa using hos 0 o (by simp)
  have hos':∀ j o',os[j]?=some o'→ops[i + 1 + j]?=some o':=fun j o' hj=>by have:=hos (j + 1) o' (by simpa using hj);rwa [show i + 1 + j=i + (j + 1) by omega]
  have plain:∀ s',StepG P ops o st s'→dstOk o=true→runZ P pb prow l items ops os k s' K→wpOpIn (fence none) n P ops Qm i (wpOpsIn (fence none) n P ops Qm (List.range' (i + 1) os.length)) { tmps:=tmps,defers:=ds } w:=fun s' h1 hd h2 =>
   z65 h ho hd h1 fun tmps' μ' w1 h3 hB hSa=>z325 hS hG hP os (i + 1) k s' K base out μ' tmps' w1 hos' h2 h3 (fun w'' hb=>hJ w'' (hB.keep.below.trans hb)) fun k2 st2 base2 out2 μ2 tmps2 w2 h4 hJ2 hs2 hSa2 hk2 =>
    hK k2 st2 base2 out2 μ2 tmps2 w2 h4 hJ2 (Stays.trans ⟨hB.keep.below.size,hB.stays⟩ hs2) (hSa.cons hSa2) hk2
  have yes:Region.wanted o (yielded ops tmps)=true→∀ lx,yieldOf o st=some lx→yieldK l lx.1 items lx.2 o.dst k st (fun k s=>runZ P pb prow l items ops os k s K) →
    wpOpIn (fence none) n P ops Qm i (wpOpsIn (fence none) n P ops Qm (List.range' (i + 1) os.length)) { tmps:=tmps,defers:=ds } w:=by
   rintro hw ⟨l',xs⟩ hy ⟨rfl,kk,row,rfl,hrow,hk,ht,hf⟩
   unfold wpOpIn
   simp only [ho,hw,if_true]
   refine z433 h hy hS hG hrow hk (hJ w (.refl _ _)) fun b o' w1 h3 hJ1 hs1=>?_
   refine z325 hS hG hP os (i + 1) (if b then some (kk + 1) else none) (st.drop.put o.dst (.d (.bool b))) K (ltU w1.heap.size) o' _ _ w1 hos' (by cases b;exact hf;exact ht) h3 (fun w'' hb=>hS.below _ _ _ _ hJ1 hb.to) fun k2 st2 base2 out2 μ2 tmps2 w2 h4 hJ2 hs2 hSa2 hk2 =>
    hK k2 st2 base2 out2 μ2 tmps2 w2 h4 hJ2 (hs1.trans hs2) ((z44 tmps o.dst _).cons hSa2) hk2
  have step:Region.wanted o (yielded ops tmps)=true→(∀ s',StepR P o st s'→StepG P ops o st s')→dstOk o=true→stepZ P pb prow l items o k st (fun k s=>runZ P pb prow l items ops os k s K) →
    wpOpIn (fence none) n P ops Qm i (wpOpsIn (fence none) n P ops Qm (List.range' (i + 1) os.length)) { tmps:=tmps,defers:=ds } w:=by
   intro hw hgs hd hr
   unfold stepZ at hr
   split at hr
   ·rename_i t b off hl
    obtain⟨rfl,hm,hb⟩:=hr
    obtain⟨d,hp,hb⟩:=hb
    ·unfold wpOpIn
     simp only [ho,hw,if_true]
     exact z1145 h hl hm (hP _ _ _ (hJ w (.refl _ _))) hp fun v h3=>z325 hS hG hP os (i + 1) k _ K base out μ _ w hos' hb h3 hJ fun k2 st2 base2 out2 μ2 tmps2 w2 h4 hJ2 hs2 hSa2 hk2 =>
      hK k2 st2 base2 out2 μ2 tmps2 w2 h4 hJ2 hs2 ((z44 tmps o.dst _).cons hSa2) hk2
   ·unfold stepY at hr
    split at hr
    ·rename_i lx hy
     exact yes hw lx hy hr
    ·obtain⟨s1,h1,h2⟩:=z77 hr
     exact plain s1 (hgs s1 h1) hd h2
  obtain⟨hd,hr⟩:=hr
  cases hg:guardT ops o with
  | none=>rw [hg] at hr;exact hr.elim
  | some g =>
   rw [hg] at hr
   cases g with
   | none =>
    have hgp:=z93 hg
    exact step (by simp [Region.wanted,hgp]) (fun s' h1=>by unfold StepG;rw [hgp];exact h1) hd hr
   | some tw =>
    obtain⟨t,want⟩:=tw
    obtain⟨j,hj,ht⟩:=z82 hg
    have hr:guardedZ P pb prow l items (st.ev (.tmp t)) want o k st (fun k s=>runZ P pb prow l items ops os k s K):=hr _ fun k s hs=>hs
    unfold guardedZ guardK at hr
    split at hr
    ·rename_i b hev
     by_cases hb:b=want
     ·have hr:=hr.1 hb
      refine step ?_ (fun s1 h1=>by unfold StepG;rw [hj];exact⟨t,ht,.inl ⟨by rw [hev,hb],h1⟩⟩) hd hr
      obtain⟨v,hv,hrel⟩:=z237 h hev (by simp)
      have:=z57 hrel
      subst this
      have:yielded ops tmps j=some b:=by unfold yielded;rw [ht];simp [hv]
      simp [Region.wanted,hj,this,hb]
     ·have hb':b=!want:=by cases b <;> cases want <;> simp_all
      exact plain _ (by unfold StepG;rw [hj];exact⟨t,ht,.inr ⟨.inl (by rw [hev,hb']),rfl⟩⟩) hd (hr.2 hb')
    ·rename_i hev
     exact plain _ (by unfold StepG;rw [hj];exact⟨t,ht,.inr ⟨.inr hev,rfl⟩⟩) hd hr
    ·exact hr.elim
theorem z568 {pb:Nat} {prow:List (Option DV)} {l:Nat} {items:List (List DV)} {J:Seen} {B0:Nat} (hS:SeenOk B0 J) (hG:Gives P l J items) (hP:∀ k o w',J k o w'→Pin w' o pb prow) {id:Nat} {k:Option Nat} {Q:Exit→Option Nat→St→Prop} (h:runZ P pb prow l items ops ops.toList k st (Q .normal)) :
  Walk P none n (fun k _ o w=>J k o w) (.region id ops false) k st Q:=fun B base out μ tmps w ds _ hst hJ hM=>by
 refine wpIn_region ?_
 have:=z325 (n:=n) hS hG hP (ds:=ds) (Qm:=Ends P (fun k _ o w=>J k o w) B (dsts (.region id ops false)) (ownOf out μ) tmps w Q) ops.toList 0 k st (Q .normal) base out μ tmps w (fun j o hj=>by simpa using hj) h hst hJ
  (fun k' st' base' out' μ' tmps' w' h1 hJ' hs hSa hk=>⟨k',st',base',out',μ',h1,hJ',hM.stays hs,hs,hSa,hk⟩)
 rw [List.range_eq_range']
 simpa using this
theorem z140 {pb:Nat} {prow:List (Option DV)} {l:Nat} {items:List (List DV)} {J:Seen} {B0:Nat} (hS:SeenOk B0 J) (hG:Gives P l J items) (hP:∀ k o w',J k o w'→Pin w' o pb prow) {id:Nat} {k:Option Nat} {cs:List Code} {Q:Exit→Option Nat→St→Prop}
  (h:∀ K:Option Nat→St→Prop,(∀ k s,WalkL P none n (fun k _ o w=>J k o w) cs k s Q→K k s)→runZ P pb prow l items ops ops.toList k st K) :
  WalkL P none n (fun k _ o w=>J k o w) (.region id ops false::cs) k st Q :=
 z568 hS hG hP (h _ fun _ _ h=>h)
theorem z463 {f:FuncId} {fn:Func} {c:Code} {caps:Nat→List DV} {prow:List (Option DV)} {items:List (List DV)} (M:Nat) (he:∀ args w,(callFunc f args).run P w=.ok (.enter f args) w) (hf:P.funcs[f]?=some fn) (hb:fn.body=some c) (h4:fn.results=#[])
  (hw:∀ l J B pb,SeenOk B J→Gives P l J items→(∀ k o w',J k o w'→Pin w' o pb prow)→WalkL P none 0 (fun k _ o w=>J k o w) [c] (some 0) (St.start (.yld l::caps pb) fn.ntmps M) (fun e k _=>endsOk e∧(k=some items.length∨k=none))):IterB P f caps prow items:=by
 refine⟨he,fun l J w own vs pb hS hG hown hh hP hd h0=>?_⟩
 have hwk:=z21 (hw l J w.heap.size pb hS hG hP)
 have hD:DRels w own (.yld l::caps pb) (#[.func (.yield l) #[] #[]]++vs):=?_
 ·have hO:EnvOk w.heap.size (fun k _ o w=>J k o w):=fun k b o w1 w2 r hr hno ho hj=>hS.other k o w1 w2 r hr hno ho hj
  refine z125 M hf hb (by rw [h4];simp) hwk hown hh hD hO (fun w' hB=>hS.below _ _ _ _ h0 hB) fun e k s hq=>?_
  refine⟨hq.1,.tup [],by simp [resultsA,h4,allSome,retA],fun base' out' μ tmps v w' _ _ hj=>⟨v,out',rfl,?_⟩⟩
  rcases hq.2 with rfl | rfl
  ·exact .inl hj
  ·exact .inr hj
 refine⟨by rw [Array.size_append,← hd.1,List.length_cons,Nat.add_comm];rfl,fun i d v hi hv=>?_⟩
 ·cases i with
  | zero =>
   rw [Array.getElem?_append_left (by simp)] at hv
   simp at hi hv
   subst hi;subst hv
   exact .yld l
  | succ i =>
   simp only [List.getElem?_cons_succ] at hi
   refine hd.2 i d v hi ?_
   rw [Array.getElem?_append_right (by simp)] at hv
   simpa using hv
end
theorem z443 {P:Program} {pb:Nat} {prow:List (Option DV)} {l:Nat} {items:List (List DV)} {o:Oper} {k:Option Nat} {s:St} {K K':Option Nat→St→Prop} (h:stepZ P pb prow l items o k s K) (hK:∀ k s,K k s→K' k s):stepZ P pb prow l items o k s K':=by
 unfold stepZ at h ⊢
 split
 ·rename_i t b off hl
  rw [hl] at h
  obtain⟨h1,h2,h3⟩:=h
  refine⟨h1,h2,?_⟩
  obtain⟨d,h3,h4⟩:=h3
  exact⟨d,h3,hK _ _ h4⟩
 ·rename_i hl
  rw [hl] at h
  exact z240 h hK
section
variable (P:Program) (pb:Nat) (prow:List (Option DV)) (l:Nat) (items:List (List DV)) (o:Oper) (k:Option Nat) (s:St) (R:Option Nat→St→Prop)
theorem z707:guardRunZ P pb prow l items (.d (.bool true)) true o k s R=stepZ P pb prow l items o k s R:=by
 apply propext
 exact⟨fun h=>(h R (fun _ _ h=>h)).1 rfl,fun h K' hK=>⟨fun _=>z443 h hK,fun e=>(by cases e)⟩⟩
theorem z710:guardRunZ P pb prow l items (.d (.bool false)) false o k s R=stepZ P pb prow l items o k s R:=by
 apply propext
 exact⟨fun h=>(h R (fun _ _ h=>h)).1 rfl,fun h K' hK=>⟨fun _=>z443 h hK,fun e=>(by cases e)⟩⟩
theorem z708:guardRunZ P pb prow l items (.d (.bool true)) false o k s R=R k (s.put o.dst .void):=by
 apply propext
 exact⟨fun h=>(h R (fun _ _ h=>h)).2 rfl,fun h K' hK=>⟨fun e=>(by cases e),fun _=>hK _ _ h⟩⟩
theorem z709:guardRunZ P pb prow l items (.d (.bool false)) true o k s R=R k (s.put o.dst .void):=by
 apply propext
 exact⟨fun h=>(h R (fun _ _ h=>h)).2 rfl,fun h K' hK=>⟨fun e=>(by cases e),fun _=>hK _ _ h⟩⟩
theorem z426 (want:Bool):guardRunZ P pb prow l items .void want o k s R=R k (s.put o.dst .void):=by
 apply propext
 exact⟨fun h=>h R (fun _ _ h=>h),fun h K' hK=>hK _ _ h⟩
end
theorem z1134 (P:Program) (pb:Nat) (prow:List (Option DV)) (l:Nat) (items:List (List DV)) (ops:Array Oper) (k:Option Nat) (s:St) (K:Option Nat→St→Prop):runZ P pb prow l items ops [] k s K=K k s:=rfl
theorem z1050 (P:Program) (pb:Nat) (prow:List (Option DV)) (l:Nat) (items:List (List DV)) (ops:Array Oper) (o:Oper) (os:List Oper) (k:Option Nat) (x:AV) (t:List AV) (m:List (Option Blk)) (K:Option Nat→St→Prop):runZ P pb prow l items ops (o::os) k ⟨x::t,m⟩ K=(dstOk o=true∧match guardT ops o with
  | none=>False
  | some none=>stepZ P pb prow l items o k ⟨x::t,m⟩ fun k s=>runZ P pb prow l items ops os k s K
  | some (some (t',want))=>guardRunZ P pb prow l items ((⟨x::t,m⟩:St).ev (.tmp t')) want o k ⟨x::t,m⟩ fun k s=>runZ P pb prow l items ops os k s K):=rfl
attribute [go_sem] stepZ loadRaw pinAt noMem z707 z710 z708 z709 z426 z1134 z1050
end Go.Ab
/- A range over an iterator that reads what the loop's body goes on writing beside;loops within rounds. -/
namespace Go.Ab
open Go.RowKit
def InLoop (l:Nat) (J:Env):Prop:=∀ k b o w,J k b o w→∃ r,w.heap[l]?=some (.loop r)
def roundJ (l:Nat) (r:Loop) (J:Env):Env:=fun k b o w=>∃ b0 o0:Own,(∀ x,b x↔b0 x∨x=l)∧(∀ x,o x↔o0 x∨x=l)∧¬ o0 l∧w.heap[l]?=some (.loop r)∧(∀ x,o0 x→b0 x)∧(∀ x,b0 x→x<w.heap.size)∧Firm J k b0 o0 w
def rawOf (nb b:Nat):AV→Option DV
 | .box m off=>if m=nb then some (.raw b off) else none
 | x=>reify [] deep x
def rawV (st:St) (rs:List Nat) (nb b:Nat):AV→Option DV
 | .box m off=>if rs.contains m then (match (st.m[m]?:Option (Option Blk)) with
  | some (some (.box row))=>(allSome (row.map (rawOf nb b))).map fun ds=>.ptr ds off
  | _=>none) else rawOf nb b (.box m off)
 | x=>rawOf nb b x
def pinRow:List (Option DV)→List AV→Prop
 | [],_=>True
 | none::p,_::row=>pinRow p row
 | some d::p,x::row=>x=.d d∧pinRow p row
 | _::_,[]=>False
def pinned (nb p:Nat) (prow:List (Option DV)) (s:St):Prop:=s.t[p]?=some (.box nb 0)∧match (s.m[nb]?:Option (Option Blk)) with
 | some (some (.box row))=>pinRow prow row
 | _=>False
theorem z245:∀ {p:List (Option DV)} {row:List AV} {j:Nat} {d:DV},pinRow p row→p[j]?=some (some d)→row[j]?=some (.d d)
 | [],_,j,d,_,h=>by simp at h
 | q::p,[],j,d,hp,_=>by cases q <;> simp [pinRow] at hp
 | none::p,x::row,j,d,hp,h=>by
  cases j with
  | zero=>simp at h
  | succ j=>simp only [List.getElem?_cons_succ] at h ⊢;exact z245 (by simpa [pinRow] using hp) h
 | some e::p,x::row,j,d,hp,h=>by
  simp only [pinRow] at hp
  cases j with
  | zero=>simp at h;subst h;simp [hp.1]
  | succ j=>simp only [List.getElem?_cons_succ] at h ⊢;exact z245 hp.2 h
section
variable {P:Program} {base:Own} {out:Own} {st st':St} {μ:Pl} {tmps:Array Value} {w w':World} {J:Env} {k:Option Nat} {B:Nat}
theorem z1056 {l:Nat} {r:Loop}:InLoop l (roundJ l r J):=fun k b o w ⟨_,_,_,_,_,h,_⟩=>⟨r,h⟩
theorem z858 {l:Nat} {r:Loop} {b o:Own} (h:roundJ l r J k b o w):Firm (roundJ l r J) k b o w:=fun w' hB=>by
 obtain⟨b0,o0,h1,h2,h3,h4,h5,h6,h7⟩:=h
 exact⟨b0,o0,h1,h2,h3,by rw [hB.block l ((h1 l).2 (.inr rfl))];exact h4,h5,fun x hx=>Nat.lt_of_lt_of_le (h6 x hx) hB.size,h7.next (hB.mono fun x hx=>(h1 x).2 (.inl hx))⟩
theorem z984 {l:Nat} {r:Loop} (hO:EnvOk B J):EnvOk B (roundJ l r J):=fun k b o w w' q hq hno ho ⟨b0,o0,h1,h2,h3,h4,h5,h6,h7⟩ =>
 ⟨b0,o0,h1,h2,h3,by rw [ho.wrote.block l (fun e=>hno ((h2 q).2 (.inr e.symm)))];exact h4,h5,fun x hx=>by rw [ho.wrote.size];exact h6 x hx,z69 hO h7 h6 hq (fun hc=>hno ((h2 q).2 (.inl hc))) ho⟩
theorem z988 (h:StRel P base out st μ tmps w) {nb p:Nat} {prow:List (Option DV)} (hp:pinned nb p prow st) {pb:Nat} (hb:tmps[p]?=some (.pointer (some ⟨pb,0,none⟩))):Pin w (ownOf out μ) pb prow:=by
 obtain⟨h1,h2⟩:=hp
 split at h2
 ·rename_i row hn
  obtain⟨b,cs,ty,hμ,hh,hl,hc⟩:=h.mem.box hn
  obtain⟨b',z,l,c,hμ',hv⟩:=z72 (h.tmp p _ _ h1 hb)
  rw [hμ] at hμ';cases hμ'
  simp only [Value.pointer.injEq,Option.some.injEq,Addr.mk.injEq] at hv
  obtain⟨rfl,_⟩:=hv
  refine⟨cs,ty,hh,fun j d hj=>?_⟩
  have hr:=z245 h2 hj
  have hlt:j<cs.size:=Nat.lt_of_lt_of_le (List.getElem?_eq_some_iff.1 hr).1 hl
  obtain⟨e1,e2⟩:=hc j _ cs[j] hr (by simp [hlt])
  exact⟨cs[j],by simp [hlt],e1,e2.d_inv⟩
 ·exact h2.elim
theorem z866 (h:StRel P base out st μ tmps w) {nb p:Nat} {prow:List (Option DV)} (hp:pinned nb p prow st):∃ pb z l c,μ nb=some (.at pb z l c)∧tmps[p]?=some (.pointer (some ⟨pb,0,none⟩)):=by
 have hlt:p<tmps.size:=by rw [h.size];exact (List.getElem?_eq_some_iff.1 hp.1).1
 obtain⟨b',z,l,c,hμ',hv⟩:=z72 (h.tmp p _ tmps[p] hp.1 (by simp [hlt]))
 exact⟨b',z,l,c,hμ',by rw [Array.getElem?_eq_getElem hlt,hv]⟩
theorem z864 (h:StRel P base out st μ tmps w) {nb pb z l c:Nat} (hμ:μ nb=some (.at pb z l c)) {own1:Own} (hsub:∀ b,own1 b→ownOf out μ b) {x:AV} {d:DV} (hr:rawOf nb pb x=some d) {v:Value} (hrel:AVRel w (ownOf out μ) μ x v):DRel w own1 d v:=by
 unfold rawOf at hr
 split at hr
 ·rename_i m off
  split at hr
  ·rename_i hm
   cases hr
   subst hm
   obtain⟨b',z',l',c',hμ',rfl⟩:=z72 hrel
   rw [hμ] at hμ';cases hμ'
   exact .raw _ _
  ·cases hr
 ·exact (z90 deep _ _ d hrel hr).goes fun b o u h1 h2=>⟨fun hc=>h1 (hsub b hc),h2⟩
theorem z1146 (h:StRel P base out st μ tmps w) {rs:List Nat} {μ1:Pl} (h3:∀ k,(μ1 k).isSome→μ1 k=μ k) (h4:∀ b,ownOf out μ1 b→ownOf out μ b) (h5:∀ k,k ∈ rs→(∃ b,st.m[k]?=some (some b))→μ1 k=none)
  {post:List AV} {nb pb z l c:Nat} {cs:List DV} (hμ:μ nb=some (.at pb z l c)) (hc:allSome (post.map (rawV st rs nb pb))=some cs) {vs:Array Value} (hl:post.length=vs.size)
  (hv:∀ (i:Nat) x v,post[i]?=some x→vs[i]?=some v→AVRel w (ownOf out μ) μ x v):DRels w (ownOf out μ1) cs vs:=by
 obtain⟨h1,h2⟩:=z15 hc
 refine⟨by rw [← h1,List.length_map,hl],fun i d v hd hvi=>?_⟩
 have h6:=h2 i d hd
 simp only [List.getElem?_map,Option.map_eq_some_iff] at h6
 obtain⟨x,hx,hr⟩:=h6
 have hrel:=hv i x v hx hvi
 unfold rawV at hr
 split at hr
 ·rename_i m off
  split at hr
  ·rename_i hm
   have hm:m ∈ rs:=by simpa using hm
   split at hr
   ·rename_i row hn
    simp only [Option.map_eq_some_iff] at hr
    obtain⟨ds,hds,rfl⟩:=hr
    obtain⟨bm,cs',ty,hμm,hh,hle,hcell⟩:=h.mem.box hn
    obtain⟨b',z',l',c',hμ',rfl⟩:=z72 hrel
    rw [hμm] at hμ';cases hμ'
    have hno:¬ ownOf out μ1 bm:=by
     rintro (hc | ⟨n,z2,l2,c2,hc⟩)
     ·exact (h.mem.base m bm _ _ _ hμm).2.2 hc
     ·have e:=h3 n (by simp [hc])
      rw [hc] at e
      have hnm:=h.mem.inj n m bm _ _ _ _ _ _ e.symm hμm
      subst hnm
      rw [h5 n hm ⟨_,hn⟩] at hc
      cases hc
    obtain⟨a1,a2⟩:=z15 hds
    have hlen:ds.length=row.length:=by rw [← a1];simp
    have key:=DRel.ptr (w:=w) (own:=ownOf out μ1) ds off bm 0 (fun j=>cs'.getD j Go.undef)
     (fun j d hj=>by
      have hlt':j<row.length:=by rw [← hlen];exact (List.getElem?_eq_some_iff.1 hj).1
      have hlt:j<cs'.size:=Nat.lt_of_lt_of_le hlt' hle
      have hg:cs'[j]?=some (cs'.getD j Go.undef):=by simp [hlt]
      exact⟨hno,by rw [z17 hh];simpa using hg,(hcell j row[j] _ (by simp [hlt']) hg).1⟩)
     (fun j d hj=>by
      have hlt':j<row.length:=by rw [← hlen];exact (List.getElem?_eq_some_iff.1 hj).1
      have hlt:j<cs'.size:=Nat.lt_of_lt_of_le hlt' hle
      have hg:cs'[j]?=some (cs'.getD j Go.undef):=by simp [hlt]
      have h7:=a2 j d hj
      simp only [List.getElem?_map,List.getElem?_eq_getElem hlt',Option.map_some,Option.some.injEq] at h7
      exact z864 h hμ h4 h7 (hcell j row[j] _ (by simp [hlt']) hg).2)
    simpa using key
   ·cases hr
  ·exact z864 h hμ h4 hr hrel
 ·exact z864 h hμ h4 hr hrel
set_option maxHeartbeats 4000000 in
theorem z574 {rd:Option Nat} {n:Nat} {α:Type} {cs:List Code} {Q:Exit→Option Nat→St→Prop} {g:Operand} {ps:Array Tmp} {assign body:Code} {f:FuncId} {post:List AV} {caps:Nat→List DV} {items:List (List DV)}
  (hrd:∀ l0,rd=some l0→InLoop l0 J) (nb p:Nat) (prow:List (Option DV))
  (rs:List Nat) (hg:rangeOf st g=some (f,[],post)) (hcaps:∀ b,allSome (post.map (rawV st rs nb b))=some (caps b)) (hit:IterB P f caps prow items) (hps:∀ row ∈ items,row.length=ps.size)
  (fs:α→St) (I:Option Nat→Nat→α→Prop) (Ix:Exit→Option Nat→α→Prop) (a0:α) (hp0:pinned nb p prow st) (hw:Weak (releaseAll rs st) (fs a0)) (h0:I k 0 a0)
  (hpI:∀ k i a,I k i a→pinned nb p prow (fs a)) (hpX:∀ e k a,Ix e k a→pinned nb p prow (fs a))
  (hround:∀ k' i a row,items[i]?=some row→I k' i a→∀ l m,WalkL P (some l) m J [assign] k' { t:=setPs ps.toList row (fs a).t,m:=(fs a).m }
   (thenA (fun k2 s=>∀ J2,InLoop l J2→WalkL P (some l) m J2 [body] k2 s fun e k3 s3=>match e with
    | .normal=>∃ a',Weak (s3.wipe (dsts (.rangeFunc g ps assign body))) (fs a')∧I k3 (i + 1) a'
    | e=>(jumpCode e).isSome∧∃ a',Weak (s3.wipe (dsts (.rangeFunc g ps assign body))) (fs a')∧Ix e k3 a') (fun _ _ _=>False)))
  (hdone:∀ k' a,I k' items.length a→WalkL P rd n J cs k' (fs a) Q) (hstop:∀ e k' a,Ix e k' a→(jumpCode e).isSome→Q e k' (fs a)) :
  WalkL P rd n J (.rangeFunc g ps assign body::cs) k st Q:=by
 intro B base out μ tmps w ds hO hA hJ hM
 obtain⟨fst,vs,hgv,hfst,hpl,_,hpost⟩:=z451 hA hg
 obtain rfl:fst=#[]:=by apply Array.eq_empty_of_size_eq_zero;simpa using hfst.symm
 obtain⟨pb,z0,l0,c0,hμb,htb⟩:=z866 hA hp0
 obtain⟨μr,hAr,_,hr3,hr4,hr5⟩:=z40 rs st μ hA
 have hcv:DRels w (ownOf out μr) (caps pb) vs:=z1146 hA hr3 hr4 hr5 hμb (hcaps pb) hpl hpost
 obtain⟨μ0,hA0,hsub00⟩:=hw P base out μr tmps w hAr
 have hsub0:∀ b,ownOf out μ0 b→ownOf out μ b:=fun b hb=>hr4 b (hsub00 b hb)
 have hgoes0:Goes w (ownOf out μr) w (ownOf out μ0):=fun b o v h1 h2=>⟨fun hc=>h1 (hsub00 b hc),h2⟩
 refine wpIn_rangeFunc ?_
 intro fn hfn
 have hent:∃ (l:Nat) (rec:LoopState→Option Code→Loop) (rsN:List Nat) (W1:World),(Instr.enterLoop fn tmps ps assign body rd).run P w=.ok (l,rsN.map fun r=>{ target:=.collected r,args:=#[] }) W1 ∧
   (∃ dd,rec=fun st pe=>{ state:=st,pending:=pe,fn,tmps:=tmps,params:=ps,assign,body,defers:=dd })∧W1.heap[l]?=some (.loop (rec .ready none))∧Below w.heap.size w W1∧w.heap.size≤l∧rsN.Nodup∧(∀ r ∈ rsN,w.heap.size≤r∧r<l∧W1.heap[r]?=some (.deferred (some [])))∧l + 1=W1.heap.size:=by
  cases rd with
  | none =>
   refine⟨w.heap.size + 1,fun st pe=>{ state:=st,pending:=pe,fn,tmps:=tmps,params:=ps,assign,body,defers:=w.heap.size },[w.heap.size],(w.alloc (.deferred (some []))).alloc (.loop { state:=.ready,pending:=none,fn,tmps:=tmps,params:=ps,assign,body,defers:=w.heap.size }),run_enterLoop_outer _ _ _ _ _,⟨_,rfl⟩,?_,((Below.refl _ w).alloc (Nat.le_refl _) _).alloc (by simp) _,by omega,by simp,fun r hr=>?_,by simp⟩
   ·have:=World.alloc_heap_new (w.alloc (.deferred (some []))) (.loop { state:=.ready,pending:=none,fn,tmps:=tmps,params:=ps,assign,body,defers:=w.heap.size });rwa [World.size_alloc] at this
   ·simp only [List.mem_singleton] at hr
    subst hr
    exact⟨Nat.le_refl _,by omega,(Below.heap_alloc _ _ _ (by simp)).trans (World.alloc_heap_new w _)⟩
  | some l0 =>
   obtain⟨r0,hr0⟩:=hrd l0 rfl _ _ _ _ (hJ w (.refl _ _))
   exact⟨w.heap.size,fun st pe=>{ state:=st,pending:=pe,fn,tmps:=tmps,params:=ps,assign,body,defers:=r0.defers },[],w.alloc (.loop { state:=.ready,pending:=none,fn,tmps:=tmps,params:=ps,assign,body,defers:=r0.defers }),run_enterLoop_inner hr0 _ _ _ _ _,⟨_,rfl⟩,World.alloc_heap_new w _,(Below.refl _ w).alloc (Nat.le_refl _) _,Nat.le_refl _,.nil,fun r hr=>by simp at hr,by simp⟩
 obtain⟨l,rec,rsN,W1,hent,⟨dd,hrec⟩,hL1,hB1,hwl,hnd,hrsN,hz1⟩:=hent
 obtain⟨JJ,hJJ⟩:∃ JJ:Seen,JJ=fun ki o W=>∃ (e:Exit) (kk:Option Nat) (a:α) (b':Own) (o':Own) (μ':Pl),o=(fun b=>ownOf o' μ' b∨b=l)∧StRel P b' o' (fs a) μ' tmps W∧(∀ w'',BelowU b' W w''→J kk b' o' w'') ∧
   Stays w (ownOf out μ0) W (ownOf o' μ')∧(∀ r ∈ rsN,¬ ownOf o' μ' r∧W.heap[r]?=some (.deferred (some [])))∧¬ ownOf o' μ' l∧pinned nb p prow (fs a) ∧
   match ki with
   | some i=>I kk i a∧W.heap[l]?=some (.loop (rec .ready none))
   | none=>Ix e kk a∧(jumpCode e).isSome∧W.heap[l]?=some (.loop (rec .done (jumpCode e))):=⟨_,rfl⟩
 have hBw:B≤w.heap.size:=hM.1
 have hP:∀ ki o W,JJ ki o W→Pin W o pb prow:=by
  rw [hJJ]
  rintro ki o W ⟨e,kk,a,b',o',μ',rfl,h1,h2,h3,h4,h5,h6,h7⟩
  obtain⟨cs,ty,hh,hc⟩:=z988 h1 h6 htb
  have hlp:∃ r,W.heap[l]?=some (.loop r):=by
   cases ki with
   | some i=>exact⟨_,h7.2⟩
   | none=>exact⟨_,h7.2.2⟩
  obtain⟨r,hlp⟩:=hlp
  refine⟨cs,ty,hh,fun j d hj=>?_⟩
  obtain⟨v,q1,q2,q3⟩:=hc j d hj
  refine⟨v,q1,q2,q3.goes fun b o u g1 g2=>⟨fun hc=>?_,g2⟩⟩
  rcases hc with hc | rfl
  ·exact g1 hc
  ·rcases g2.block with ⟨_,_,_,e⟩ | ⟨_,_,e⟩ <;> (rw [hlp] at e;cases e)
 have hS:SeenOk W1.heap.size JJ:=by
  subst hJJ
  refine⟨?_,?_,?_⟩
  ·rintro ki o W W' ⟨e,kk,a,b',o',μ',rfl,h1,h2,h3,h4,h5,h6,h7⟩ hB
   refine⟨e,kk,a,b',o',μ',rfl,h1.below hB,fun w'' hb=>h2 w'' ((BelowU.of hB h1.le).trans hb),h3.trans ⟨hB.size,fun b hb ho=>⟨hB.block b hb,ho⟩⟩,fun r hr=>⟨(h4 r hr).1,by rw [hB.block _ (Array.getElem?_eq_some_iff.1 (h4 r hr).2).1];exact (h4 r hr).2⟩,h5,h6,?_⟩
   cases ki with
   | some i=>exact⟨h7.1,by rw [hB.block _ (Array.getElem?_eq_some_iff.1 h7.2).1];exact h7.2⟩
   | none=>exact⟨h7.1,h7.2.1,by rw [hB.block _ (Array.getElem?_eq_some_iff.1 h7.2.2).1];exact h7.2.2⟩
  ·rintro ki o W W' r hr hno ho ⟨e,kk,a,b',o',μ',rfl,h1,h2,h3,h4,h5,h6,h7⟩
   have hr2:r≠l:=by omega
   have hnr:¬ o' r:=fun hc=>hno (.inl (.inl hc))
   have hbelow:∀ w2,BelowU b' W' w2→J kk b' o' w2:=by
    by_cases hrs:r<W.heap.size
    ·exact z38 hO h2 (by omega) hnr hrs ho
    ·intro w2 hb
     refine h2 w2 ⟨hb.os.trans ho.wrote.os,hb.tape.trans ho.wrote.tape,hb.output.trans ho.wrote.output,by rw [← ho.wrote.size];exact hb.size,fun q hq=>?_⟩
     rw [hb.block q hq]
     exact ho.wrote.block q (fun e=>by have:=h1.le q hq;omega)
   refine⟨e,kk,a,b',o',μ',rfl,h1.other ho,hbelow,⟨by rw [ho.wrote.size];exact h3.1,fun b hb hob=>?_⟩,fun q hq=>⟨(h4 q hq).1,by rw [ho.wrote.block _ (by have:=(hrsN q hq).2.1;omega)];exact (h4 q hq).2⟩,h5,h6,?_⟩
   ·rw [ho.wrote.block b (by omega)];exact h3.2 b hb hob
   ·cases ki with
    | some i=>exact⟨h7.1,by rw [ho.wrote.block _ (Ne.symm hr2)];exact h7.2⟩
    | none=>exact⟨h7.1,h7.2.1,by rw [ho.wrote.block _ (Ne.symm hr2)];exact h7.2.2⟩
  ·rintro ki o W ⟨e,kk,a,b',o',μ',rfl,h1,h2,h3,h4,h5,h6,h7⟩ b (hb | rfl)
   ·exact z32 h1 b hb
   ·cases ki with
    | some i=>exact (Array.getElem?_eq_some_iff.1 h7.2).1
    | none=>exact (Array.getElem?_eq_some_iff.1 h7.2.2).1
 have hG:Gives P l JJ items:=by
  intro m i o W vals row hi hj hrow
  rw [hJJ] at hj
  obtain⟨_,kk,a,b',o',μ',rfl,h1,h2,h3,h4,h5,h6,h7,h8⟩:=hj
  have hrl:=hps row (List.mem_of_getElem? hi)
  have hlt:l<W.heap.size:=(Array.getElem?_eq_some_iff.1 h8).1
  have hy:=run_yield (P:=P) (args:=vals) h8 (by rw [hrec];simp only;rw [← hrow.1,hrl])
  rw [hrec] at hy
  refine⟨fn,_,assign,body,hy,roundIn_of_wpIn trivial ?_⟩
  have hz:StRel P b' o' { t:=setPs ps.toList row (fs a).t,m:=(fs a).m } μ' ((ps.zip vals).foldl (fun t (p,v)=>t.setIfInBounds p v) tmps) W:=by
   have:=z488 ps.toList row vals.toList (fs a) tmps (by simpa using hrow.1) (fun i d v hd hv=>(hrow.2 i d v hd (by simpa using hv)).goes fun b o v h1 h2=>⟨fun hc=>h1 (.inl hc),h2⟩) h1
   rwa [← Array.toList_zip,← Array.foldl_toList] at *
  have hzs:Same ps.toList tmps ((ps.zip vals).foldl (fun t (p,v)=>t.setIfInBounds p v) tmps):=by
   have:=z209 ps.toList vals.toList tmps
   rwa [← Array.toList_zip,Array.foldl_toList] at this
  have hr0:=z21 (hround kk i a row hi h7 l m) B b' o' μ' _ W [] hO hz h2 (.nil (by omega))
  refine wpIn_mono hr0 ?_
  rintro e a1 w1 ⟨k1,s1,b1,o1,μ1,hA1,hJ1,hM1,hst1,hsa1,hq1⟩
  cases e with
  | normal =>
   have hl1:w1.heap[l]?=some (.loop (rec .ready none)):=by rw [(hst1.2 _ hlt h5).1];exact h8
   have hno1:¬ ownOf o1 μ1 l:=(hst1.2 _ hlt h5).2
   have hd1:∀ r ∈ rsN,¬ ownOf o1 μ1 r∧w1.heap[r]?=some (.deferred (some [])):=fun r hr=>by
    have:=hst1.2 r (Array.getElem?_eq_some_iff.1 (h4 r hr).2).1 (h4 r hr).1
    exact⟨this.2,this.1.trans (h4 r hr).2⟩
   have ho1:Other l w1 (w1.putObj l (.loop { rec .ready none with state:=.busy })):=z41 hl1 (fun _ _ _ e=>by cases e) (fun _ _ e=>by cases e)
   refine⟨_,run_beginRound hl1 (by rw [hrec]),?_⟩
   have hlt1:l<w1.heap.size:=(Array.getElem?_eq_some_iff.1 hl1).1
   have hown1:∀ x,ownOf (fun x=>o1 x∨x=l) μ1 x↔ownOf o1 μ1 x∨x=l:=fun x=>by
    constructor
    ·rintro ((h | h) | h)
     ·exact .inl (.inl h)
     ·exact .inr h
     ·exact .inl (.inr h)
    ·rintro ((h | h) | h)
     ·exact .inl (.inl h)
     ·exact .inr h
     ·exact .inl (.inr h)
   have hM2:Marked B (ownOf (fun x=>o1 x∨x=l) μ1) a1.defers (w1.putObj l (.loop { rec .ready none with state:=.busy })):=by
    obtain⟨q0,rs,q1,q2,q3⟩:=hM1
    have hne:∀ r ∈ rs,r≠l:=fun r hr e=>by subst e;have:=(q3 _ hr).2.2;rw [hl1] at this;cases this
    refine⟨by simpa using q0,rs,q1,q2,fun r hr=>⟨(q3 r hr).1,fun hc=>?_,?_⟩⟩
    ·rcases (hown1 r).1 hc with hc | hc
     ·exact (q3 r hr).2.1 hc
     ·exact hne r hr hc
    ·rw [World.putObj_heap_other (hne r hr)]
     exact (q3 r hr).2.2
   obtain⟨J2,hJ2d⟩:∃ J2,J2=roundJ l { rec .ready none with state:=.busy } J:=⟨_,rfl⟩
   have hAr:StRel P (fun x=>b1 x∨x=l) (fun x=>o1 x∨x=l) s1 μ1 a1.tmps (w1.putObj l (.loop { rec .ready none with state:=.busy })):=by
    have hx:=hA1.other ho1
    have hgx:Goes (w1.putObj l (.loop { rec .ready none with state:=.busy })) (ownOf o1 μ1) (w1.putObj l (.loop { rec .ready none with state:=.busy })) (ownOf (fun x=>o1 x∨x=l) μ1):=fun b o v g1 g2=>⟨fun hc=>by
     rcases (hown1 b).1 hc with hc | rfl
     ·exact g1 hc
     ·rcases g2.block with ⟨_,_,_,e⟩ | ⟨_,_,e⟩ <;> (rw [World.putObj_heap_same hlt1] at e;cases e),g2⟩
    refine⟨hx.size,fun i x v q1 q2=>(hx.tmp i x v q1 q2).goes hgx (fun _ _ _=>rfl),⟨fun m blk hm=>(hx.mem.blk m blk hm).goes hgx rfl (fun _ _=>rfl) (fun _ _ _ _ _=>rfl),hx.mem.dom,hx.mem.inj,fun m b z l' c hm=>?_⟩,hx.hid.goes hgx,fun x hc=>hc.imp (hx.out x) id,fun x hc=>by
     rcases hc with hc | rfl
     ·exact hx.le x hc
     ·simpa using hlt1⟩
    have:=hx.mem.base m b z l' c hm
    refine⟨fun hc=>?_,this.2.1,fun hc=>?_⟩
    ·rcases hc with hc | rfl
     ·exact this.1 hc
     ·exact hno1 (.inr ⟨m,z,l',c,hm⟩)
    ·rcases hc with hc | rfl
     ·exact this.2.2 hc
     ·exact hno1 (.inr ⟨m,z,l',c,hm⟩)
   have hJr:roundJ l { rec .ready none with state:=.busy } J k1 (fun x=>b1 x∨x=l) (fun x=>o1 x∨x=l) (w1.putObj l (.loop { rec .ready none with state:=.busy })) :=
    ⟨b1,o1,fun _=>.rfl,fun _=>.rfl,fun hc=>hno1 (.inl hc),World.putObj_heap_same hlt1,hA1.out,fun x hx=>by simpa using hA1.le x hx,z38 hO hJ1 (by omega) (fun hc=>hno1 (.inl hc)) hlt1 ho1⟩
   have hb0:=z21 (hq1 J2 (by rw [hJ2d];exact z1056)) B (fun x=>b1 x∨x=l) (fun x=>o1 x∨x=l) μ1 a1.tmps _ a1.defers (by rw [hJ2d];exact z984 hO) hAr (by rw [hJ2d];exact z858 hJr) hM2
   refine wpIn_mono hb0 ?_
   rintro e2 a2 w2 ⟨k2,s2,b2',o2',μ2,hA2',hJ2',hM3,hst2,hsa2,hq2⟩
   rw [hJ2d] at hJ2'
   obtain⟨b2,o2,g1,g2,g3,hl2,g5,g6,hJ2⟩:=hJ2' w2 (.refl _ _)
   have hz2:(w1.putObj l (.loop { rec .ready none with state:=.busy })).heap.size=w1.heap.size:=by simp
   have hno2:¬ ownOf o2 μ2 l:=by
    rintro (hc | ⟨m,z,l',c,hm⟩)
    ·exact g3 hc
    ·exact (hA2'.mem.base m _ z l' c hm).1 ((g1 l).2 (.inr rfl))
   have hsub2:∀ x,ownOf o2 μ2 x→ownOf o2' μ2 x:=fun x hx=>hx.imp (fun h=>(g2 x).2 (.inl h)) id
   have hA2:StRel P b2 o2 s2 μ2 a2.tmps w2:=by
    refine hA2'.next (Nat.le_refl _) (fun _ _ _=>rfl) g5 g6 (fun x hx=>.inl ((g2 x).2 (.inl hx))) (fun x hx hc=>?_)
    exact (hA2'.own_base x hx).1 ((g1 x).2 (.inl hc))
   have hd2:∀ r ∈ rsN,¬ ownOf o2 μ2 r∧w2.heap[r]?=some (.deferred (some [])):=fun r hr=>by
    have hrl:r≠l:=by have:=(hrsN r hr).2.1;omega
    obtain⟨q1,q2⟩:=hd1 r hr
    have:=hst2.2 r (by rw [hz2];exact (Array.getElem?_eq_some_iff.1 q2).1) (fun hc=>by rcases (hown1 r).1 hc with hc | hc;exact q1 hc;exact hrl hc)
    exact⟨fun hc=>this.2 (hsub2 r hc),this.1.trans ((World.putObj_heap_other hrl).trans q2)⟩
   have hsame:Same (dsts (.rangeFunc g ps assign body)) tmps a2.tmps :=
    ((hzs.mono fun i hi=>by simp only [dsts,List.mem_append];exact .inl hi).trans (hsa1.mono fun i hi=>by simp only [dsts,List.mem_append];exact .inr (.inl hi))).trans (hsa2.mono fun i hi=>by simp only [dsts,List.mem_append];exact .inr (.inr hi))
   have hall:∀ (b:Nat),b<W.heap.size→b≠l→¬ ownOf o' μ' b→w2.heap[b]?=W.heap[b]?∧¬ ownOf o2 μ2 b:=by
    intro b hb hne ho
    obtain⟨p1,p2⟩:=hst1.2 b hb ho
    obtain⟨p3,p4⟩:=hst2.2 b (by rw [hz2];exact Nat.lt_of_lt_of_le hb hst1.1) (fun hc=>by rcases (hown1 b).1 hc with hc | hc;exact p2 hc;exact hne hc)
    exact⟨p3.trans ((World.putObj_heap_other hne).trans p1),fun hc=>p4 (hsub2 b hc)⟩
   have hsz:W.heap.size≤w2.heap.size:=Nat.le_trans hst1.1 (by rw [← hz2];exact hst2.1)
   have hlt2:l<w2.heap.size:=(Array.getElem?_eq_some_iff.1 hl2).1
   have fin:∀ (pe:Option Code) (stt:LoopState) (a':α),Weak (s2.wipe (dsts (.rangeFunc g ps assign body))) (fs a')→∀ W5,W5=w2.putObj l (.loop (rec stt pe)) →
     ∃ μ5,StRel P b2 o2 (fs a') μ5 tmps W5∧(∀ w'',BelowU b2 W5 w''→J k2 b2 o2 w'')∧Stays w (ownOf out μ0) W5 (ownOf o2 μ5)∧(∀ r ∈ rsN,¬ ownOf o2 μ5 r∧W5.heap[r]?=some (.deferred (some [])))∧¬ ownOf o2 μ5 l ∧
      W5.heap[l]?=some (.loop (rec stt pe))∧Stays W (fun b=>ownOf o' μ' b∨b=l) W5 (fun b=>ownOf o2 μ5 b∨b=l):=by
    rintro pe stt a' hwk W5 rfl
    have ho2:Other l w2 (w2.putObj l (.loop (rec stt pe))):=z41 hl2 (fun _ _ _ e=>by cases e) (fun _ _ e=>by cases e)
    obtain⟨μ5,h51,h52⟩:=hwk P b2 o2 μ2 tmps _ (z489 (hA2.other ho2) hsame)
    refine⟨μ5,h51,z38 hO hJ2 (by omega) (fun hc=>hno2 (.inl hc)) hlt2 ho2,⟨by rw [World.putObj_size];exact Nat.le_trans h3.1 hsz,fun b hb ho=>?_⟩,fun r hr=>⟨fun hc=>(hd2 r hr).1 (h52 _ hc),by rw [World.putObj_heap_other (by have:=(hrsN r hr).2.1;omega)];exact (hd2 r hr).2⟩,fun hc=>hno2 (h52 _ hc),World.putObj_heap_same hlt2,⟨by rw [World.putObj_size];exact hsz,fun b hb ho=>?_⟩⟩
    ·obtain⟨p1,p2⟩:=h3.2 b hb ho
     obtain⟨p3,p4⟩:=hall b (Nat.lt_of_lt_of_le hb h3.1) (by omega) p2
     exact⟨(World.putObj_heap_other (by omega)).trans (p3.trans p1),fun hc=>p4 (h52 _ hc)⟩
    ·have hne:b≠l:=fun e=>ho (.inr e)
     obtain⟨p3,p4⟩:=hall b hb hne (fun hc=>ho (.inl hc))
     exact⟨(World.putObj_heap_other hne).trans p3,fun hc=>by rcases hc with hc | hc;exact p4 (h52 _ hc);exact hne hc⟩
   have hl2':w2.heap[l]?=some (.loop { rec .ready none with state:=.busy }):=hl2
   have out_:∀ e3,(jumpCode e3).isSome→(∃ a',Weak (s2.wipe (dsts (.rangeFunc g ps assign body))) (fs a')∧Ix e3 k2 a')→∃ v w',(Instr.endRound l (jumpCode e3)).run P w2=.ok v w' ∧
     ∃ b o5,Ending.returned v=.returned (.bool b)∧JJ (if b then some (i + 1) else none) o5 w'∧Stays W (fun b=>ownOf o' μ' b∨b=l) w' o5:=by
    rintro e3 hjs ⟨a',hwk,hix⟩
    obtain⟨μ5,q1,q2,q3,q4,q5,q7,q8⟩:=fin (jumpCode e3) .done a' hwk _ rfl
    have hen:=run_endRound (P:=P) (jumpCode e3) hl2'
    have hjn:(jumpCode e3).isNone=false:=by cases hj:jumpCode e3 <;> simp_all
    rw [hjn] at hen
    refine⟨_,_,hen,false,(fun b=>ownOf o2 μ5 b∨b=l),rfl,?_,?_⟩
    ·rw [hJJ]
     refine⟨e3,k2,a',b2,o2,μ5,rfl,?_,?_,?_,?_,q5,hpX _ _ _ hix,hix,hjs,?_⟩
     ·rw [hrec] at q1 ⊢;exact q1
     ·rw [hrec] at q2 ⊢;exact q2
     ·rw [hrec] at q3 ⊢;exact q3
     ·rw [hrec] at q4 ⊢;exact q4
     ·rw [hrec] at q7 ⊢;exact q7
    ·rw [hrec] at q8 ⊢;exact q8
   cases e2 with
   | normal =>
    obtain⟨a',hwk,hI'⟩:=hq2
    obtain⟨μ5,q1,q2,q3,q4,q5,q7,q8⟩:=fin none .ready a' hwk _ rfl
    have hen:=run_endRound (P:=P) none hl2'
    refine⟨_,_,hen,true,(fun b=>ownOf o2 μ5 b∨b=l),rfl,?_,?_⟩
    ·rw [hJJ]
     refine⟨.normal,k2,a',b2,o2,μ5,rfl,?_,?_,?_,?_,q5,hpI _ _ _ hI',hI',?_⟩
     ·rw [hrec] at q1 ⊢;exact q1
     ·rw [hrec] at q2 ⊢;exact q2
     ·rw [hrec] at q3 ⊢;exact q3
     ·rw [hrec] at q4 ⊢;exact q4
     ·rw [hrec] at q7 ⊢;exact q7
    ·rw [hrec] at q8 ⊢;exact q8
   | ret=>exact out_ .ret hq2.1 hq2.2
   | exit id=>exact out_ (.exit id) hq2.1 hq2.2
   | goto t=>exact out_ (.goto t) hq2.1 hq2.2
   | panic c=>exact absurd hq2.1 (by simp [jumpCode])
   | outgrown=>exact absurd hq2.1 (by simp [jumpCode])
  | _=>exact hq1.elim
 have hJ0:JJ (some 0) (fun b=>ownOf out μ0 b∨b=l) W1:=by
  rw [hJJ]
  have hlow:∀ b,ownOf out μ0 b→b<w.heap.size:=z32 hA0
  exact⟨.normal,k,a0,base,out,μ0,rfl,hA0.below hB1,fun w'' hb=>hJ w'' ((BelowU.of hB1 hA.le).trans hb),⟨hB1.size,fun b hb ho=>⟨hB1.block b hb,ho⟩⟩,
   fun r hr=>⟨fun hc=>by have:=hlow _ hc;have:=(hrsN r hr).1;omega,(hrsN r hr).2.2⟩,fun hc=>by have:=hlow _ hc;omega,hpI _ _ _ h0,h0,hL1⟩
 have hgoes2:Goes w (ownOf out μ0) W1 (fun b=>ownOf out μ0 b∨b=l):=fun b o u p1 p2=>⟨fun hc=>by rcases hc with hc | rfl;exact p1 hc;exact absurd p2.lt (by omega),p2.heap (hB1.block b p2.lt)⟩
 have hcalls:=hit.2 l JJ W1 (fun b=>ownOf out μ0 b∨b=l) vs pb (by exact hS) hG (fun b hb=>hS.lt _ _ _ hJ0 b hb) (hA0.hid.goes hgoes2) hP
  ⟨hcv.1,fun i d v h1 h2=>((hcv.2 i d v h1 h2).goes hgoes0).goes hgoes2⟩ hJ0
 refine⟨l,rsN.map fun r=>{ target:=.collected r,args:=#[] },W1,{ target:=.fn (.func f) vs,args:=#[.func (.yield l) #[] #[]] },W1,f,
  #[.func (.yield l) #[] #[]]++vs,W1,hent,?_,fun _ _=>trivial,?_,fun h=>(by cases h),?_⟩
 ·simp only [resolve]
  have hgv':({ tmps:=tmps,defers:=ds }:Act).eval g=.func (.func f) #[] vs:=hgv
  simp only [hgv']
  simp [Deferred.ofValue,go_sem]
 ·simp [invoke];exact hit.1 _ _
 ·refine (callsIn_wide (n:=n - 1)).2 (hcalls.mono ?_)
  rintro e W2 ⟨v,o,rfl,hj⟩
  have hMk:∀ (o':Own) (μ':Pl) (W4:World),Stays w (ownOf out μ0) W4 (ownOf o' μ')→(∀ r ∈ rsN,¬ ownOf o' μ' r∧W4.heap[r]?=some (.deferred (some []))) →
    Marked B (ownOf o' μ') ((rsN.map fun r=>{ target:=.collected r,args:=#[] })++ds) W4:=by
   intro o' μ' W4 hs hd
   obtain⟨q0,rs,q1,q2,q3⟩:=hM
   refine⟨Nat.le_trans q0 hs.1,rsN++rs,by rw [q1,List.map_append],?_,fun r hr=>?_⟩
   ·rw [List.nodup_append]
    refine⟨hnd,q2,fun x hx y hy e=>?_⟩
    subst e
    have:=(Array.getElem?_eq_some_iff.1 (q3 _ hy).2.2).1
    have:=(hrsN x hx).1
    omega
   ·rcases List.mem_append.1 hr with hr | hr
    ·exact⟨Nat.le_trans q0 (hrsN r hr).1,(hd r hr).1,(hd r hr).2⟩
    ·obtain⟨p1,p2,p3⟩:=q3 r hr
     obtain⟨p4,p5⟩:=hs.2 r (Array.getElem?_eq_some_iff.1 p3).1 (fun hc=>p2 (hsub0 r hc))
     exact⟨p1,p5,p4.trans p3⟩
  rcases hj with hj | hj
  ·rw [hJJ] at hj
   obtain⟨_,kk,a,b',o',μ',rfl,h1,h2,h3,h4,h5,h6,h7,h8⟩:=hj
   have hel:∃ o4,(Instr.endLoop l).run P W2=.ok (none) (W2.putObj l o4):=⟨_,by
    have hel:=run_endLoop (P:=P) h8 (by rw [hrec];simp)
    have hpn:(rec .ready none).pending=none:=by rw [hrec]
    rw [hpn] at hel
    exact hel⟩
   obtain⟨o4,hel⟩:=hel
   have ho2:Other l W2 (W2.putObj l o4):=z41 h8 (fun _ _ _ e=>by cases e) (fun _ _ e=>by cases e)
   refine⟨none,_,hel,?_⟩
   have hlt:l<W2.heap.size:=(Array.getElem?_eq_some_iff.1 h8).1
   have hs4:Stays w (ownOf out μ0) (W2.putObj l o4) (ownOf o' μ') :=
    ⟨by rw [World.putObj_size];exact h3.1,fun b hb ho=>⟨(World.putObj_heap_other (by omega)).trans (h3.2 b hb ho).1,(h3.2 b hb ho).2⟩⟩
   exact⟨kk,fs a,b',o',μ',h1.other ho2,z38 hO h2 (by omega) (fun hc=>h5 (.inl hc)) hlt ho2,hMk o' μ' _ hs4 (fun r hr=>⟨(h4 r hr).1,by rw [World.putObj_heap_other (by have:=(hrsN r hr).2.1;omega)];exact (h4 r hr).2⟩),(Stays.less hsub0).trans hs4,Same.refl _ _,hdone kk a h7⟩
  ·rw [hJJ] at hj
   obtain⟨e,kk,a,b',o',μ',rfl,h1,h2,h3,h4,h5,h6,h7,hjs,h8⟩:=hj
   have hel:∃ o4,(Instr.endLoop l).run P W2=.ok (jumpCode e) (W2.putObj l o4):=⟨_,by
    have hel:=run_endLoop (P:=P) h8 (by rw [hrec];simp)
    have hpn:(rec .done (jumpCode e)).pending=jumpCode e:=by rw [hrec]
    rw [hpn] at hel
    exact hel⟩
   obtain⟨o4,hel⟩:=hel
   have ho2:Other l W2 (W2.putObj l o4):=z41 h8 (fun _ _ _ e=>by cases e) (fun _ _ e=>by cases e)
   refine⟨jumpCode e,_,hel,?_⟩
   have hlt:l<W2.heap.size:=(Array.getElem?_eq_some_iff.1 h8).1
   have hs4:Stays w (ownOf out μ0) (W2.putObj l o4) (ownOf o' μ') :=
    ⟨by rw [World.putObj_size];exact h3.1,fun b hb ho=>⟨(World.putObj_heap_other (by omega)).trans (h3.2 b hb ho).1,(h3.2 b hb ho).2⟩⟩
   have hend:∀ Q',Q' e kk (fs a)→Ends P J B (dsts (.rangeFunc g ps assign body)) (ownOf out μ) tmps w Q' e { tmps:=tmps,defers:=(rsN.map fun r=>{ target:=.collected r,args:=#[] })++ds } (W2.putObj l o4):=fun Q' hq =>
    ⟨kk,fs a,b',o',μ',h1.other ho2,z38 hO h2 (by omega) (fun hc=>h5 (.inl hc)) hlt ho2,hMk o' μ' _ hs4 (fun r hr=>⟨(h4 r hr).1,by rw [World.putObj_heap_other (by have:=(hrsN r hr).2.1;omega)];exact (h4 r hr).2⟩),(Stays.less hsub0).trans hs4,Same.refl _ _,hq⟩
   have hq:=hstop e kk a h7 hjs
   cases e with
   | ret=>exact wpIn_ret (hend _ hq)
   | exit id=>exact wpIn_exit (hend _ hq)
   | goto t=>exact wpIn_goto (hend _ hq)
   | _=>simp [jumpCode] at hjs
end
end Go.Ab
/- A range over a map that is read;drawn regions with an end of one order. -/
namespace Go.Ab
open Go.RowKit
open Go.ChangeMaps (setBlock)
theorem z167 {P:Program} {rd:Option Nat} {n:Nat} {J:Env} {k:Option Nat} {cs:List Code} {st:St} {Q:Exit→Option Nat→St→Prop} (p:Nat) {id:Nat} {ops:Array Oper} (hfol:P.follows .mixedOrders=true) (hback:backB ops=true) (hp:tailB ops p=true) (hps:p≤ops.size)
  (h:∀ K:Option Nat→St→Prop,(∀ k s,WalkL P rd n J cs k s Q→K k s)→runD P ops (ops.toList.take p) 0 [] st fun s=>runE P 0 [] [] ops (ops.toList.drop p) k s K) :
  WalkL P rd n J (.region id ops true::cs) k st Q :=
 z64 (l:=0) (items:=[]) (fun _ _ _ _ _ _ _ _ h=>by simp at h) [] p hfol hback hp hps h
def IterAt (P:Program) (r:Nat) (kd vd:DV) (J:Env):Prop:=∀ k b o w,J k b o w→∃ kv vv,(Instr.entry (.pointer (some ⟨r,0,none⟩))).run P w=.ok (.tuple #[kv,vv]) w∧DRel w (fun _=>True) kd kv∧DRel w (fun _=>True) vd vv
def keepJ (r:Nat) (ob:Obj) (bm:Nat) (mb:Obj) (J:Env):Env:=fun k b o w=>∃ b0 o0:Own,(∀ x,b x↔b0 x∨x=r∨x=bm)∧(∀ x,o x↔o0 x∨x=r)∧¬ o0 r∧w.heap[r]?=some ob∧w.heap[bm]?=some mb∧(∀ x,o0 x→b0 x)∧(∀ x,b0 x→x<w.heap.size)∧Firm J k b0 o0 w
def keyD:MK→DV
 | .i n=>.i n
 | .s l=>.agg (l.map fun p=>DV.int p.1 p.2)
section
variable {P:Program} {base:Own} {out:Own} {st st':St} {μ:Pl} {tmps:Array Value} {w w':World} {J:Env} {k:Option Nat} {B:Nat}
theorem z1005 {r bm:Nat} {ob mb:Obj} {b o:Own} (h:keepJ r ob bm mb J k b o w):Firm (keepJ r ob bm mb J) k b o w:=fun w' hB=>by
 obtain⟨b0,o0,h1,h2,h3,h4,h5,h6,h7,h8⟩:=h
 exact⟨b0,o0,h1,h2,h3,by rw [hB.block r ((h1 r).2 (.inr (.inl rfl)))];exact h4,by rw [hB.block bm ((h1 bm).2 (.inr (.inr rfl)))];exact h5,h6,fun x hx=>Nat.lt_of_lt_of_le (h7 x hx) hB.size,h8.next (hB.mono fun x hx=>(h1 x).2 (.inl hx))⟩
theorem z1083 {r bm:Nat} {ob:Obj} {es:Array MapEntry} {c:Nat} (hO:EnvOk B J):EnvOk B (keepJ r ob bm (.map es c) J):=fun k b o w w' q hq hno ho ⟨b0,o0,h1,h2,h3,h4,h5,h6,h7,h8⟩ =>
 ⟨b0,o0,h1,h2,h3,by rw [ho.wrote.block r (fun e=>hno ((h2 q).2 (.inr e.symm)))];exact h4,by rw [ho.wrote.block bm (fun e=>ho.noM es c (e ▸ h5))];exact h5,h6,fun x hx=>by rw [ho.wrote.size];exact h7 x hx,z69 hO h8 h7 hq (fun hc=>hno ((h2 q).2 (.inl hc))) ho⟩
theorem z1175 (k:MK) (w:World) (own:Own):DRel w own (keyD k) k.val:=by
 cases k with
 | i n=>exact .int _ _
 | s l =>
  refine .agg _ _ (by simp) fun i d v h1 h2=>?_
  simp only [List.getElem?_map,Option.map_eq_some_iff,List.getElem?_toArray] at h1 h2
  obtain⟨p,hp,rfl⟩:=h1
  obtain⟨q,hq,rfl⟩:=h2
  rw [hp] at hq;cases hq
  exact .int _ _
theorem z448 {rd:Option Nat} {n:Nat} {ops:Array Oper} {Q:Exit→Act→World→Prop} {rest:List Nat}:∀ (os:List Oper) (k:Nat) (st:St) (μ:Pl) (tmps:Array Value) (w:World),(∀ i o,os[i]?=some o→ops[k + i]?=some o)→Seq P ops os st st'→StRel P base out st μ tmps w→∀ {ds:List Deferred},
  (∀ tmps' μ' w',StRel P base out st' μ' tmps' w'→KeepO base (ownOf out μ) w (ownOf out μ') w'→Same (opDsts os) tmps tmps'→wpOpsIn (fence rd) n P ops Q rest { tmps:=tmps',defers:=ds } w') →
  wpOpsIn (fence rd) n P ops Q (List.range' k os.length++rest) { tmps:=tmps,defers:=ds } w
 | [],k,st,μ,tmps,w,_,hs,h,ds,hK=>by
  cases hs
  exact hK _ μ w h (KeepO.refl _ _ _) (Same.refl _ _)
 | o::os,k,st,μ,tmps,w,hos,hs,h,ds,hK=>by
  cases hs with
  | cons hd h1 ht =>
  rw [List.length_cons,List.range'_succ,List.cons_append,wpOpsIn_cons]
  refine z65 h (by simpa using hos 0 o (by simp)) hd h1 (fun tmps' μ' w' h2 hB hS=>?_)
  exact z448 os (k + 1) _ μ' tmps' w' (fun i o' hi=>by have:=hos (i + 1) o' (by simpa using hi);rwa [show k + 1 + i=k + (i + 1) by omega]) ht h2
   (fun tmps2 μ2 w2 h3 hB2 hS2=>hK tmps2 μ2 w2 h3 (hB.trans hB2) (hS.cons hS2))
theorem z101 {rd:Option Nat} {n:Nat} {o:Oper} {v:Value} {ds:List Deferred} {K:Act→World→Prop} {Q:Exit→Act→World→Prop} (hnd:∀ c,o.op≠.defer c)
  (hrun:(execOp ({ tmps:=tmps,defers:=ds }:Act).eval o).run P w=.ok (.value v) w') (hK:K { tmps:=putT tmps o.dst v,defers:=ds } w'):o.wpIn (fence rd) n P { tmps:=tmps,defers:=ds } w K Q:=by
 refine⟨fun _ _=>trivial,?_⟩
 rw [Oper.semAt_eq _ _ _ hnd,hrun]
 simp only [Oper.uponIn_value,z78]
 exact hK
theorem z570 {rd:Option Nat} {n:Nat} {Q:Exit→Option Nat→St→Prop} {r:Nat} {kd vd:DV} (hI:IterAt P r kd vd J) (hfk:kd.flat=true) (hfv:vd.flat=true) {id:Nat} {ops:Array Oper} {o:Oper} {os:List Oper} {t:Tmp}
  (hops:ops.toList=o::os) (ho:o.op=.entry (.tmp t)) (hg:o.guard=none) (hr:st.ev (.tmp t)=.d (.raw r 0)) (h:runK P ops os (st.put o.dst (.d (.tup [kd,vd]))) (Q .normal k)):Walk P rd n J (.region id ops false) k st Q :=
 fun B base out μ tmps w ds _ hst hJ hM=>by
 obtain⟨s',h1,h2⟩:=z95 _ _ _ h
 obtain⟨kv,vv,hrun,hkr,hvr⟩:=hI _ _ _ _ (hJ w (.refl _ _))
 have hx:=hst.ev (.tmp t) []
 rw [hr] at hx
 have hpv:=z255 hx
 refine wpIn_region ?_
 have hsz:ops.size=(o::os).length:=by rw [← hops];simp
 have hget:∀ i q,(o::os)[i]?=some q→ops[i]?=some q:=fun i q hq=>by rw [← hops,Array.getElem?_toList] at hq;exact hq
 have ho0:=hget 0 o rfl
 rw [List.range_eq_range',hsz,List.length_cons,List.range'_succ,wpOpsIn_cons]
 unfold wpOpIn
 simp only [ho0,Region.wanted,hg,if_true]
 refine z101 (v:=.tuple #[kv,vv]) (w':=w) (by rw [ho];intro c hc;cases hc) ?_ ?_
 ·unfold execOp
  simp only [ho]
  have:({ tmps:=tmps,defers:=ds }:Act).eval (.tmp t)=.pointer (some ⟨r,0,none⟩):=hpv
  simp [this,hrun]
 ·have hput:=hst.put (x:=.d (.tup [kd,vd])) (v:=.tuple #[kv,vv]) (.d (.tup _ _ rfl (fun i d u q1 q2=>by
   match i,q1,q2 with
   | 0,q1,q2=>simp at q1 q2;subst q1;subst q2;exact hkr.of_flat hfk
   | 1,q1,q2=>simp at q1 q2;subst q1;subst q2;exact hvr.of_flat hfv))) o.dst
  have:=z1047 (n:=n) (rd:=rd) (Q:=Ends P J B (dsts (.region id ops false)) (ownOf out μ) tmps w Q) os 1 _ μ _ w (fun i q hi=>by rw [Nat.add_comm];exact hget (i + 1) q (by simpa using hi)) h1 hput (ds:=ds)
   (fun tmps' μ' w' h3 hk hS=>Ends.step hJ h3 hk (by
    have hsm:=(z44 tmps o.dst (.tuple #[kv,vv])).cons hS
    simpa [dsts,hops] using hsm) hM h2)
  simpa using this
theorem z493 {rd:Option Nat} {n:Nat} {Q:Exit→Option Nat→St→Prop} {r:Nat} {kd vd:DV} (hI:IterAt P r kd vd J) (hfk:kd.flat=true) (hfv:vd.flat=true) {id:Nat} {ops:Array Oper} {o:Oper} {os:List Oper} {t:Tmp} {cs:List Code}
  (hops:ops.toList=o::os) (ho:o.op=.entry (.tmp t)) (hg:o.guard=none) (hr:st.ev (.tmp t)=.d (.raw r 0)) (h:∀ K:St→Prop,(∀ s,WalkL P rd n J cs k s Q→K s)→runK P ops os (st.put o.dst (.d (.tup [kd,vd]))) K) :
  WalkL P rd n J (.region id ops false::cs) k st Q:=z570 hI hfk hfv hops ho hg hr (h _ fun _ h=>h)
theorem StRel.tellT (h:StRel P base out st μ tmps w) {i:Nat} {x:AV} {v:Value} (hv:tmps[i]?=some v) (hx:AVRel w (ownOf out μ) μ x v):StRel P base out (st.put (some i) x) μ tmps w:=by
 have:=h.put hx (some i)
 have e:putT tmps (some i) v=tmps:=by
  simp only [putT]
  apply Array.ext_getElem?
  intro j
  rw [Array.getElem?_setIfInBounds]
  by_cases hj:i=j
  ·subst hj;simp [hv];exact (Array.getElem?_eq_some_iff.1 hv).1
  ·simp [hj]
 rwa [e] at this
theorem StRel.forgetT (h:StRel P base out st μ tmps w) (i:Nat):StRel P base out (st.put (some i) .undef) μ tmps w:=by
 refine⟨by simp [St.put,h.size],fun j x v hx hv=>?_,h.mem,h.hid,h.out,h.le⟩
 simp only [St.put] at hx
 rw [List.getElem?_set] at hx
 split at hx
 ·split at hx
  ·cases hx;exact .undef v
  ·cases hx
 ·exact h.tmp j x v hx hv
end
end Go.Ab
/- A range over a map that is read. -/
namespace Go.Ab
open Go.RowKit
open Go.ChangeMaps (setBlock)
section
variable {P:Program} {base:Own} {out:Own} {st st':St} {μ:Pl} {tmps:Array Value} {w w':World} {J:Env} {k:Option Nat} {B:Nat}
theorem z990 {r:Nat} {m:Option Nat} {s:Nat} {seen:Array Nat} {c:Nat} (h:w.heap[r]?=some (.mapIter m s seen c)) (o:Obj):Other r w (setBlock w r o) :=
 ⟨⟨rfl,rfl,rfl,by simp [setBlock],fun k hk=>by simp [setBlock,Ne.symm hk]⟩,fun cs ty x e=>(by rw [h] at e;cases e),fun es c e=>(by rw [h] at e;cases e)⟩
theorem z248:∀ (a b:List Oper),opDsts (a++b)=opDsts a++opDsts b
 | [],b=>rfl
 | x::a,b=>by
  simp only [List.cons_append,opDsts]
  rw [z248 a b]
  cases x.dst <;> simp
set_option maxHeartbeats 4000000 in
theorem z368 {rd:Option Nat} {n:Nat} {α:Type} {cs:List Code} {Q:Exit→Option Nat→St→Prop} {id8 id9 b2:Nat} {ops8:Array Oper} {pre:List Oper} {oR oN oX:Oper} {tI dN dE:Nat} {mt kt et:TypeId} {m:Operand} {bc:Code}
  (h8:ops8.toList=pre++[oR]) (hoR:oR.op=.range mt m) (hgR:oR.guard=none) (hdR:oR.dst=some tI)
  (hoN:oN.op=.next (.tmp tI) false) (hgN:oN.guard=none) (hdN:oN.dst=some dN) (hoX:oX.op=.extract (.tmp dN) 0) (hgX:oX.guard=none) (hdX:oX.dst=some dE)
  (hmt:P.underlying mt=some (.map kt et)) (htI:(dsts bc).contains tI=false) (hNI:dN≠tI) (hEI:dE≠tI) (hNE:dN≠dE)
  (kk:KK) (keys:List (MK × Nat)) (vals:List DV) (clock:Nat) (hcl:∀ (i:Nat) (p:MK × Nat),keys[i]?=some p→p.2<clock) (hnd:(keys.map (·.2)).Nodup) (hfl:∀ (i:Nat) (d:DV),vals[i]?=some d→d.flat=true)
  (fs:α→St) (I:List Nat→α→Prop)
  (hpre:∀ K:St→Prop,(∀ s,(s.ev m=.d (.mp kk keys vals clock)∧∃ a0,Weak (s.put (some tI) .undef) (fs a0)∧I [] a0)→K s)→runK P ops8 pre st K)
  (hlen:∀ seen a,I seen a→dN<(fs a).t.length∧dE<(fs a).t.length∧tI<(fs a).t.length)
  (hround:∀ seen a i key val,I seen a→keys[i]?=some key→vals[i]?=some val→i ∉ seen→∀ r J2,IterAt P r (keyD key.1) val J2 →
   WalkL P rd n J2 [bc] k ((((fs a).put (some dN) .undef).put (some dE) (.d (.bool true))).put (some tI) (.d (.raw r 0))) (fun e k' s=>e=.normal∧k'=k∧∃ a',Weak (s.put (some tI) .undef) (fs a')∧I (seen++[i]) a'))
  (hdone:∀ seen a,I seen a→(∀ i,i<keys.length→i ∈ seen)→seen.Nodup→WalkL P rd n J cs k (((fs a).put (some dN) .undef).put (some dE) (.d (.bool false))) Q) :
  WalkL P rd n J (.seq (.region id8 ops8 false) (.block b2 (.loop (.seq (.region id9 #[oN,oX] false) (.seq (.cond (.tmp dE) .skip (.exit b2)) bc))))::cs) k st Q:=by
 intro B base out μ tmps w ds hO hA hJ hM
 obtain⟨s1,hseq,hev1,a0,hw0,hI0⟩:=z95 _ _ _ (hpre _ fun _ h=>h)
 obtain⟨D,hD⟩:∃ D,D=dsts (.seq (.region id8 ops8 false) (.block b2 (.loop (.seq (.region id9 #[oN,oX] false) (.seq (.cond (.tmp dE) .skip (.exit b2)) bc))))):=⟨_,rfl⟩
 rw [← hD]
 have hDN:dN ∈ D:=by rw [hD];simp [dsts,opDsts,hdN]
 have hDE:dE ∈ D:=by rw [hD];simp [dsts,opDsts,hdN,hdX]
 have hDb:∀ i,i ∈ dsts bc→i ∈ D:=fun i hi=>by rw [hD];simp [dsts,hi]
 have hDp:∀ i,i ∈ opDsts pre→i ∈ D:=fun i hi=>by
  have:i ∈ opDsts ops8.toList:=by
   rw [h8]
   rw [z248];simp [hi]
  rw [hD];simp only [dsts,List.mem_append];exact .inl this
 have hDI:tI ∈ D:=by
  have:tI ∈ opDsts ops8.toList:=by
   rw [h8]
   rw [z248];simp [opDsts,hdR]
  rw [hD];simp only [dsts,List.mem_append];exact .inl this
 refine wpIn_seq (wpIn_region ?_)
 have hsz:ops8.size=pre.length + 1:=by have:=congrArg List.length h8;simpa using this
 have hget:∀ i q,(pre++[oR])[i]?=some q→ops8[i]?=some q:=fun i q hq=>by rw [← h8,Array.getElem?_toList] at hq;exact hq
 rw [List.range_eq_range',hsz,List.range'_concat,Nat.one_mul,Nat.zero_add]
 refine z448 pre 0 st μ tmps w (fun i q hi=>by
  rw [Nat.zero_add]
  exact hget i q (by rw [List.getElem?_append_left (List.getElem?_eq_some_iff.1 hi).1];exact hi)) hseq hA fun tmps1 μ1 w1 hA1 hK1 hS1=>?_
 have hoR8:ops8[pre.length]?=some oR:=hget _ _ (by simp)
 rw [wpOpsIn_cons]
 unfold wpOpIn
 simp only [hoR8,Region.wanted,hgR,if_true]
 -- the map
 have hxm:=hA1.ev m ds
 rw [hev1] at hxm
 obtain⟨bm,mes,hmv,hbo,hbh,hkl,hvl,hkm,hvm⟩:=z1088 hxm
 have hrunR:=run_range_map (P:=P) w1 mt kt et bm mes clock hmt hbh
 refine z101 (v:=.pointer (some ⟨w1.heap.size,0,none⟩)) (w':=w1.alloc (.mapIter (some bm) clock #[] clock)) (by rw [hoR];intro c hc;cases hc) ?_ ?_
 ·unfold execOp
  simp only [hoR,hmv]
  simp [hrunR]
 obtain⟨r,hr⟩:∃ r,r=w1.heap.size:=⟨_,rfl⟩
 rw [← hr]
 simp only [wpOpsIn,Exit.then]
 have hBr:B≤r:=by rw [hr];exact Nat.le_trans hM.1 hK1.keep.below.size
 have hbmlt:bm<w1.heap.size:=(Array.getElem?_eq_some_iff.1 hbh).1
 have hB1:Below w1.heap.size w1 (w1.alloc (.mapIter (some bm) clock #[] clock)):=(Below.refl _ _).alloc (Nat.le_refl _) _
 have hA2:=(hA1.below hB1).put (x:=.undef) (v:=.pointer (some ⟨r,0,none⟩)) (.undef _) oR.dst
 rw [hdR] at hA2 ⊢
 obtain⟨μ2,hA3,hsub3⟩:=hw0 P base out μ1 _ _ hA2
 have hentry:∀ (i:Nat) key val,keys[i]?=some key→vals[i]?=some val→∀ e,mes[i]?=some e→e.key=key.1.val∧e.born=key.2∧∀ w own,DRel w own val e.val:=fun i key val h1 h2 e h3 =>
  ⟨(hkm i key e h1 h3).1.1,(hkm i key e h1 h3).2,fun w' own'=>(hvm i val e h2 h3).of_flat (hfl i val h2)⟩
 have hold:∀ x ∈ mes.toList,x.born<clock:=fun x hx=>by
  obtain⟨i,hi⟩:=List.mem_iff_getElem?.1 hx
  rw [Array.getElem?_toList] at hi
  have hlt:i<keys.length:=by rw [hkl];exact (Array.getElem?_eq_some_iff.1 hi).1
  have:=(hkm i keys[i] x (by simp [hlt]) hi).2
  rw [this]
  exact hcl i _ (by simp [hlt])
 have hborn:mes.toList.map (·.born)=keys.map (·.2):=by
  apply List.ext_getElem?
  intro i
  simp only [List.getElem?_map,Array.getElem?_toList]
  by_cases hi:i<mes.size
  ·have hik:i<keys.length:=by omega
   rw [Array.getElem?_eq_getElem hi,List.getElem?_eq_getElem hik]
   simp only [Option.map_some,Option.some.injEq]
   exact (hkm i keys[i] mes[i] (by simp [hik]) (by simp [hi])).2
  ·rw [Array.getElem?_eq_none (by omega),List.getElem?_eq_none (by omega)]
   rfl
 have hndb:(mes.toList.map (·.born)).Nodup:=by rw [hborn];exact hnd
 refine wpIn_block (wpIn_loop (fun a W=>∃ (seen:List Nat) (al:α) (b' o':Own) (μ':Pl),StRel P b' o' (fs al) μ' a.tmps W∧(∀ w'',BelowU b' W w''→J k b' o' w'')∧Marked B (ownOf o' μ') a.defers W∧Stays w (ownOf out μ) W (ownOf o' μ')∧Same D tmps a.tmps ∧
   I seen al∧seen.Nodup∧(∀ i ∈ seen,i<keys.length)∧W.heap[r]?=some (.mapIter (some bm) clock (seen.map fun i=>((keys[i]?).map (·.2)).getD 0).toArray clock)∧W.heap[bm]?=some (.map mes clock)∧¬ ownOf o' μ' r∧¬ ownOf o' μ' bm∧a.tmps[tI]?=some (.pointer (some ⟨r,0,none⟩)))
  (fun _ W=>keys.length - match W.heap[r]? with | some (.mapIter _ _ s _)=>s.size | _=>0) ?_ ?_)
 ·refine⟨[],a0,base,out,μ2,hA3,fun w'' hb=>hJ w'' (hK1.keep.below.trans ((BelowU.of hB1 hA1.le).trans hb)),?_,?_,?_,hI0,.nil,fun i hi=>by simp at hi,?_,?_,?_,fun hc=>hbo (hsub3 _ hc),?_⟩
  ·refine (hM.stays ⟨hK1.keep.below.size,hK1.stays⟩).stays ⟨hB1.size,fun b hb ho=>⟨hB1.block b hb,fun hc=>ho (hsub3 _ hc)⟩⟩
  ·exact Stays.trans ⟨hK1.keep.below.size,hK1.stays⟩ ⟨hB1.size,fun b hb ho=>⟨hB1.block b hb,fun hc=>ho (hsub3 _ hc)⟩⟩
  ·exact (hS1.mono hDp).trans ((z44 tmps1 (some tI) _).mono fun i hi=>by simp at hi;rw [hi];exact hDI)
  ·rw [hr];exact World.alloc_heap_new w1 _
  ·rw [hB1.block bm hbmlt];exact hbh
  ·intro hc
   have:=z32 hA1 r (hsub3 _ hc)
   omega
  ·have hlt:tI<tmps1.size:=by
    have h1:=(hlen [] a0 hI0).2.2
    have h2:=hA3.size
    simp [putT] at h2
    omega
   simp [putT,hlt]
 ·rintro a W ⟨seen,al,b',o',μ',g1,g2,g3,g4,g5,g6,g7,g8,g9,g10,g11,g12,g13⟩
  have hrlt:r<W.heap.size:=(Array.getElem?_eq_some_iff.1 g9).1
  obtain⟨hl1,hl2,hl3⟩:=hlen seen al g6
  have hsz':=g1.size
  refine wpIn_seq (wpIn_region ?_)
  rw [show (#[oN,oX]:Array Oper).size=2 from rfl,show List.range 2=[0,1] from rfl,wpOpsIn_cons]
  unfold wpOpIn
  simp only [show (#[oN,oX]:Array Oper)[0]?=some oN from rfl,Region.wanted,hgN,if_true]
  have hev:∀ ds,({ tmps:=a.tmps,defers:=ds }:Act).eval (.tmp tI)=.pointer (some ⟨r,0,none⟩):=fun ds=>by
   show a.tmps.getD tI Go.undef=_
   rw [Array.getD_eq_getD_getElem?,g13];rfl
  have hexec:∀ (v:Value) (W':World),(Instr.next (.pointer (some ⟨r,0,none⟩)) false oN.type).run P W=.ok v W'→(execOp ({ tmps:=a.tmps,defers:=a.defers }:Act).eval oN).run P W=.ok (.value v) W':=fun v W' h=>by
   unfold execOp
   simp only [hoN,hev]
   simp [h]
  -- behind the extract
  have hext:∀ (b:Bool) (rest:Array Value) (W':World),(execOp ({ tmps:=putT a.tmps oN.dst (.tuple (#[.bool b]++rest)),defers:=a.defers }:Act).eval oX).run P W'=.ok (.value (.bool b)) W':=fun b rest W'=>by
   have he:({ tmps:=putT a.tmps oN.dst (.tuple (#[.bool b]++rest)),defers:=a.defers }:Act).eval (.tmp dN)=.tuple (#[.bool b]++rest):=by
    show (putT a.tmps oN.dst _).getD dN Go.undef=_
    rw [hdN,Array.getD_eq_getD_getElem?]
    simp [putT,show dN<a.tmps.size by omega]
   unfold execOp
   simp only [hoX,he]
   have h0:(#[Value.bool b]++rest)[0]?=some (.bool b):=by rw [Array.getElem?_append_left (by simp)];rfl
   simp [Instr.extract,h0]
  have hcond:∀ (b:Bool) (v:Value),({ tmps:=putT (putT a.tmps oN.dst v) oX.dst (.bool b),defers:=a.defers }:Act).eval (.tmp dE)=.bool b:=fun b v=>by
   show (putT (putT a.tmps oN.dst v) oX.dst _).getD dE Go.undef=_
   rw [hdN,hdX,Array.getD_eq_getD_getElem?]
   simp [putT,show dE<a.tmps.size by omega]
  have hsame2:∀ (b:Bool) (v:Value),Same D a.tmps (putT (putT a.tmps oN.dst v) oX.dst (.bool b)):=fun b v=>by
   rw [hdN,hdX]
   exact ((z44 a.tmps (some dN) v).mono fun i hi=>by simp at hi;rw [hi];exact hDN).trans ((z44 _ (some dE) _).mono fun i hi=>by simp at hi;rw [hi];exact hDE)
  have htI2:∀ (b:Bool) (v:Value),(putT (putT a.tmps oN.dst v) oX.dst (.bool b))[tI]?=some (.pointer (some ⟨r,0,none⟩)):=fun b v=>by
   rw [hdN,hdX]
   simp only [putT]
   rw [Array.getElem?_setIfInBounds_ne hEI,Array.getElem?_setIfInBounds_ne hNI]
   exact g13
  have hst2:∀ (b:Bool) (v:Value) (W':World),StRel P b' o' (fs al) μ' a.tmps W'→StRel P b' o' (((fs al).put (some dN) .undef).put (some dE) (.d (.bool b))) μ' (putT (putT a.tmps oN.dst v) oX.dst (.bool b)) W':=fun b v W' h=>by
   rw [hdN,hdX]
   exact (h.put (.undef v) (some dN)).put (.d (.bool b)) (some dE)
  rcases run_next_at (P:=P) W oN.type r bm clock clock _ mes clock g9 g10 hold (Nat.le_refl _) with ⟨h0,hrun⟩ | ⟨e,hem,W1,hW1,hrun⟩
  ·-- nothing is left
   refine z101 (v:=.tuple #[.bool false]) (w':=W) (by rw [hoN];intro c hc;cases hc) (hexec _ _ hrun) ?_
   rw [wpOpsIn_cons]
   unfold wpOpIn
   simp only [show (#[oN,oX]:Array Oper)[1]?=some oX from rfl,Region.wanted,hgX,if_true]
   refine z101 (v:=.bool false) (w':=W) (by rw [hoX];intro c hc;cases hc) (hext false #[] W) ?_
   simp only [wpOpsIn,Exit.then]
   refine wpIn_seq (wpIn_cond_false (hcond false _) (wpIn_exit ?_))
   simp only [Exit.then,Exit.inBlock,if_true]
   have hall:∀ i,i<keys.length→i ∈ seen:=fun i hi=>by
    have him:i<mes.size:=by omega
    have hL:leftOf mes (seen.map fun i=>((keys[i]?).map (·.2)).getD 0).toArray=#[]:=Array.eq_empty_of_size_eq_zero h0
    unfold leftOf at hL
    rw [Array.filter_eq_empty_iff] at hL
    have h1:=hL mes[i] (Array.getElem_mem him)
    simp only [Bool.not_eq_true,Bool.not_eq_false',Bool.not_not] at h1
    have hk2:=(hkm i keys[i] mes[i] (by simp [hi]) (by simp [him])).2
    simp only [List.contains_toArray,List.contains_iff_mem,List.mem_map] at h1
    obtain⟨j,hj,hje⟩:=h1
    have hjl:=g8 j hj
    rw [hk2] at hje
    simp only [List.getElem?_eq_getElem hjl,Option.map_some,Option.getD_some] at hje
    have:j=i:=by
     have e1:(keys.map (·.2))[j]?=(keys.map (·.2))[i]?:=by simp [hjl,hi,hje]
     exact (List.getElem?_inj (by simpa using hjl) hnd).1 e1
    exact this ▸ hj
   have hwk:=hdone seen al g6 hall g7
   have hfin:Ends P J B D (ownOf out μ) tmps w (thenA (fun k s=>WalkL P rd n J cs k s Q) Q) .normal { tmps:=putT (putT a.tmps oN.dst (.tuple #[.bool false])) oX.dst (.bool false),defers:=a.defers } W :=
    ⟨k,_,b',o',μ',hst2 false _ W g1,g2,g3,g4,g5.trans (hsame2 false _),hwk⟩
   simpa using hfin
  ·-- an entry
   have hW1h:W1.heap=W.heap:=by rcases hW1 with rfl | rfl <;> rfl
   have hWb:Below W.heap.size W W1:=by rcases hW1 with rfl | rfl;exact Below.refl _ _;exact (Below.refl _ _).drew
   have g9':W1.heap[r]?=some (.mapIter (some bm) clock (seen.map fun i=>((keys[i]?).map (·.2)).getD 0).toArray clock):=by rw [hW1h];exact g9
   have ho:=z990 g9' (.mapIter (some bm) clock ((seen.map fun i=>((keys[i]?).map (·.2)).getD 0).toArray.push e.born) clock)
   obtain⟨W2,hW2⟩:∃ W2,W2=setBlock W1 r (.mapIter (some bm) clock ((seen.map fun i=>((keys[i]?).map (·.2)).getD 0).toArray.push e.born) clock):=⟨_,rfl⟩
   rw [← hW2] at hrun ho
   refine z101 (v:=.tuple #[.bool true,e.key,e.val]) (w':=W2) (by rw [hoN];intro c hc;cases hc) (hexec _ _ hrun) ?_
   rw [wpOpsIn_cons]
   unfold wpOpIn
   simp only [show (#[oN,oX]:Array Oper)[1]?=some oX from rfl,Region.wanted,hgX,if_true]
   refine z101 (v:=.bool true) (w':=W2) (by rw [hoX];intro c hc;cases hc) (hext true #[e.key,e.val] W2) ?_
   simp only [wpOpsIn,Exit.then]
   refine wpIn_seq (wpIn_cond_true (hcond true _) (wpIn_skip ?_))
   simp only [Exit.then]
   -- which entry
   have hemm:e ∈ mes:=by
    unfold leftOf at hem
    simp at hem
    exact hem.1
   have hens:e.born ∉ seen.map fun i=>((keys[i]?).map (·.2)).getD 0:=by
    unfold leftOf at hem
    simp at hem
    simpa using hem.2
   obtain⟨i,hi,hie⟩:=Array.mem_iff_getElem.1 hemm
   have hik:i<keys.length:=by omega
   have hiv:i<vals.length:=by omega
   have hent:=hentry i keys[i] vals[i] (by simp [hik]) (by simp [hiv]) e (by simp [hi,hie])
   have hni:i ∉ seen:=fun hc=>hens (by
    rw [hent.2.1]
    exact List.mem_map.2 ⟨i,hc,by simp [hik]⟩)
   have hz2:W2.heap.size=W.heap.size:=by rw [ho.wrote.size,hW1h]
   have hr2:W2.heap[r]?=some (.mapIter (some bm) clock ((seen.map fun i=>((keys[i]?).map (·.2)).getD 0).toArray.push e.born) clock):=by
    rw [hW2]
    have:r<W1.heap.size:=by rw [hW1h];exact hrlt
    simp [setBlock,this]
   have hne:bm≠r:=by omega
   have hm2:W2.heap[bm]?=some (.map mes clock):=by rw [ho.wrote.block bm hne,hW1h];exact g10
   have gW1:StRel P b' o' (fs al) μ' a.tmps W1:=g1.below hWb
   have gW2:StRel P b' o' (fs al) μ' a.tmps W2:=gW1.other ho
   have hst3:=(hst2 true (.tuple #[.bool true,e.key,e.val]) W2 gW2).tellT (i:=tI) (x:=.d (.raw r 0)) (htI2 true _) (.d (.raw r 0))
   have hgx:Goes W2 (ownOf o' μ') W2 (ownOf (fun x=>o' x∨x=r) μ'):=fun b o v q1 q2=>⟨fun hc=>by
    have:ownOf o' μ' b∨b=r:=by
     rcases hc with (h | h) | h
     ·exact .inl (.inl h)
     ·exact .inr h
     ·exact .inl (.inr h)
    rcases this with hc | rfl
    ·exact q1 hc
    ·rcases q2.block with ⟨_,_,_,e⟩ | ⟨_,_,e⟩ <;> (rw [hr2] at e;cases e),q2⟩
   have hnr:∀ x,ownOf (fun x=>o' x∨x=r) μ' x→ownOf o' μ' x∨x=r:=by
    rintro x ((h | h) | h)
    ·exact .inl (.inl h)
    ·exact .inr h
    ·exact .inl (.inr h)
   have hAr:StRel P (fun x=>b' x∨x=r∨x=bm) (fun x=>o' x∨x=r) ((((fs al).put (some dN) .undef).put (some dE) (.d (.bool true))).put (some tI) (.d (.raw r 0))) μ' (putT (putT a.tmps oN.dst (.tuple #[.bool true,e.key,e.val])) oX.dst (.bool true)) W2:=by
    refine⟨hst3.size,fun i x v q1 q2=>(hst3.tmp i x v q1 q2).goes hgx (fun _ _ _=>rfl),⟨fun m blk hm=>(hst3.mem.blk m blk hm).goes hgx rfl (fun _ _=>rfl) (fun _ _ _ _ _=>rfl),hst3.mem.dom,hst3.mem.inj,fun m b z l' c hm=>?_⟩,hst3.hid.goes hgx,fun x hc=>hc.elim (fun h=>.inl (hst3.out x h)) (fun h=>.inr (.inl h)),fun x hc=>?_⟩
    ·have:=hst3.mem.base m b z l' c hm
     refine⟨fun hc=>?_,this.2.1,fun hc=>?_⟩
     ·rcases hc with hc | rfl | rfl
      ·exact this.1 hc
      ·exact g11 (.inr ⟨m,z,l',c,hm⟩)
      ·exact g12 (.inr ⟨m,z,l',c,hm⟩)
     ·rcases hc with hc | rfl
      ·exact this.2.2 hc
      ·exact g11 (.inr ⟨m,z,l',c,hm⟩)
    ·rcases hc with hc | rfl | rfl
     ·exact hst3.le x hc
     ·rw [hz2];exact hrlt
     ·exact (Array.getElem?_eq_some_iff.1 hm2).1
   have hJ2W:∀ w'',BelowU b' W2 w''→J k b' o' w'':=by
    refine z38 hO (fun w'' hb=>g2 w'' ((BelowU.of hWb g1.le).trans hb)) hBr (fun hc=>g11 (.inl hc)) (by rw [hW1h];exact hrlt) ho
   obtain⟨J2,hJ2⟩:∃ J2,J2=keepJ r (.mapIter (some bm) clock ((seen.map fun i=>((keys[i]?).map (·.2)).getD 0).toArray.push e.born) clock) bm (.map mes clock) J:=⟨_,rfl⟩
   have hJr:J2 k (fun x=>b' x∨x=r∨x=bm) (fun x=>o' x∨x=r) W2:=by
    rw [hJ2]
    exact⟨b',o',fun _=>.rfl,fun _=>.rfl,fun hc=>g11 (.inl hc),hr2,hm2,g1.out,fun x hx=>by rw [hz2];exact g1.le x hx,hJ2W⟩
   have hIt:IterAt P r (keyD keys[i].1) vals[i] J2:=by
    rw [hJ2]
    rintro k3 b3 o3 w3 ⟨_,_,_,_,_,q4,q5,_⟩
    refine⟨e.key,e.val,?_,by rw [hent.1];exact z1175 _ _ _,hent.2.2 _ _⟩
    exact run_entry_at w3 r bm clock _ mes clock e q4 q5 (by simpa using hemm) hndb
   have hM2:Marked B (ownOf (fun x=>o' x∨x=r) μ') a.defers W2:=by
    obtain⟨q0,rs,q1,q2,q3⟩:=g3
    have hner:∀ x ∈ rs,x≠r:=fun x hx e=>by subst e;have:=(q3 _ hx).2.2;rw [g9] at this;cases this
    refine⟨by rw [hz2];exact q0,rs,q1,q2,fun x hx=>⟨(q3 x hx).1,fun hc=>?_,?_⟩⟩
    ·rcases hnr x hc with hc | hc
     ·exact (q3 x hx).2.1 hc
     ·exact hner x hx hc
    ·rw [ho.wrote.block x (hner x hx),hW1h];exact (q3 x hx).2.2
   have hbd:=z21 (hround seen al i keys[i] vals[i] g6 (by simp [hik]) (by simp [hiv]) hni r J2 hIt) B _ _ μ' _ W2 a.defers (by rw [hJ2];exact z1083 hO) hAr (by rw [hJ2] at hJr ⊢;exact z1005 hJr) hM2
   refine wpIn_mono hbd ?_
   rintro e2 a2 w2 ⟨k2,s2,b2',o2',μ2',hA2',hJ2',hM3,hst2',hsa2,rfl,rfl,a',hwk,hI'⟩
   rw [hJ2] at hJ2'
   obtain⟨b2,o2,q1,q2,q3,hr3,hm3,q5,q6,hJ3⟩:=hJ2' w2 (.refl _ _)
   have hno2:¬ ownOf o2 μ2' r:=by
    rintro (hc | ⟨m,z,l',c,hm⟩)
    ·exact q3 hc
    ·exact (hA2'.mem.base m _ z l' c hm).1 ((q1 r).2 (.inr (.inl rfl)))
   have hsub2:∀ x,ownOf o2 μ2' x→ownOf o2' μ2' x:=fun x hx=>hx.imp (fun h=>(q2 x).2 (.inl h)) id
   have hAx:StRel P b2 o2 s2 μ2' a2.tmps w2:=by
    refine hA2'.next (Nat.le_refl _) (fun _ _ _=>rfl) q5 q6 (fun x hx=>.inl ((q2 x).2 (.inl hx))) (fun x hx hc=>?_)
    exact (hA2'.own_base x hx).1 ((q1 x).2 (.inl hc))
   obtain⟨μ5,hA5,hsub5⟩:=hwk P b2 o2 μ2' _ _ (hAx.forgetT tI)
   have hst5:∀ x,x<W.heap.size→¬ ownOf o' μ' x→x≠r→w2.heap[x]?=W.heap[x]?∧¬ ownOf o2 μ5 x:=fun x hx hno hxr=>by
    obtain⟨p1,p2⟩:=hst2'.2 x (by rw [hz2];exact hx) (fun hc=>by rcases hnr x hc with hc | hc;exact hno hc;exact hxr hc)
    exact⟨p1.trans ((ho.wrote.block x hxr).trans (by rw [hW1h])),fun hc=>p2 (hsub2 x (hsub5 x hc))⟩
   have hszw:W.heap.size≤w2.heap.size:=by rw [← hz2];exact hst2'.1
   have hseen:((seen++[i]).map fun i=>((keys[i]?).map (·.2)).getD 0).toArray=(seen.map fun i=>((keys[i]?).map (·.2)).getD 0).toArray.push e.born:=by
    apply Array.toList_inj.1
    simp [hik,hent.2.1]
   refine⟨⟨seen++[i],a',b2,o2,μ5,hA5,hJ3,?_,?_,?_,hI',?_,?_,?_,hm3,fun hc=>hno2 (hsub5 r hc),fun hc=>?_,?_⟩,?_⟩
   ·obtain⟨p0,rs,p1,p2,p3⟩:=hM3
    exact⟨p0,rs,p1,p2,fun x hx=>⟨(p3 x hx).1,fun hc=>(p3 x hx).2.1 (hsub2 x (hsub5 x hc)),(p3 x hx).2.2⟩⟩
   ·refine⟨Nat.le_trans g4.1 hszw,fun x hx hno=>?_⟩
    obtain⟨p1,p2⟩:=g4.2 x hx hno
    have hxr:x≠r:=by
     have:=hK1.keep.below.size
     omega
    obtain⟨p3,p4⟩:=hst5 x (Nat.lt_of_lt_of_le hx g4.1) p2 hxr
    exact⟨p3.trans p1,p4⟩
   ·exact g5.trans ((hsame2 true _).trans (hsa2.mono hDb))
   ·rw [List.nodup_append]
    exact⟨g7,by simp,fun x hx y hy e=>by simp at hy;subst hy;subst e;exact hni hx⟩
   ·intro x hx
    rcases List.mem_append.1 hx with hx | hx
    ·exact g8 x hx
    ·simp at hx;rw [hx];exact hik
   ·rw [hseen];exact hr3
   ·exact (hst2'.2 bm (by rw [hz2];exact (Array.getElem?_eq_some_iff.1 g10).1) (fun hc=>by rcases hnr bm hc with hc | hc;exact g12 hc;exact hne hc)).2 (hsub2 bm (hsub5 bm hc))
   ·have:=hsa2.2 tI (by intro hc;have:(dsts bc).contains tI=true:=by simpa using hc
                        rw [htI] at this;cases this)
    rw [this];exact htI2 true _
   ·simp only [hr3,g9]
    have hsl:seen.length<keys.length:=by
     have hsub:(seen++[i]).length≤(List.range keys.length).length:=by
      refine (List.nodup_append.2 ⟨g7,by simp,fun x hx y hy e=>by simp at hy;subst hy;subst e;exact hni hx⟩:(seen++[i]).Nodup).length_le_of_subset fun x hx=>?_
      rcases List.mem_append.1 hx with hx | hx
      ·exact List.mem_range.2 (g8 x hx)
      ·simp at hx;rw [hx];exact List.mem_range.2 hik
     simp at hsub
     omega
    have e1:((seen.map fun i=>((keys[i]?).map (·.2)).getD 0).toArray.push e.born).size=seen.length + 1:=by simp
    have e2:((seen.map fun i=>((keys[i]?).map (·.2)).getD 0).toArray).size=seen.length:=by simp
    show keys.length - ((seen.map fun i=>((keys[i]?).map (·.2)).getD 0).toArray.push e.born).size<keys.length - ((seen.map fun i=>((keys[i]?).map (·.2)).getD 0).toArray).size
    rw [e1,e2]
    omega
end
end Go.Ab
/- Drawn regions of an iterator that reads some cells of its caller's box: for the first operations the box is lent. -/
namespace Go.Ab
open Go.RowKit
def borrowV (pb:Nat) (drow:List DV):AV→AV
 | .d (.raw b off)=>if b=pb then .d (.ptr drow off) else .d (.raw b off)
 | .d (.ptr [.raw b o] q)=>if b=pb then .d (.ptr [.ptr drow o] q) else .d (.ptr [.raw b o] q)
 | x=>x
def keepFlat:AV→AV
 | .d x=>if x.flat then .d x else .undef
 | .void=>.void
 | _=>.undef
def backT (D:List Nat):List AV→List AV→Nat→List AV
 | x::t,y::s,i=>(if D.contains i then keepFlat y else x)::backT D t s (i + 1)
 | _,_,_=>[]
section
variable {P:Program} {base:Own} {out:Own} {st st':St} {μ:Pl} {tmps:Array Value} {w w':World} {ops:Array Oper} {n:Nat}
theorem z746 {D:List Nat}:∀ {t s:List AV} {i j:Nat} {z:AV},(backT D t s i)[j]?=some z→∃ x y,t[j]?=some x∧s[j]?=some y∧z=if D.contains (i + j) then keepFlat y else x
 | [],s,i,j,z,h=>by simp [backT] at h
 | _::_,[],i,j,z,h=>by simp [backT] at h
 | x::t,y::s,i,j,z,h=>by
  cases j with
  | zero=>simp [backT] at h;exact⟨x,y,rfl,rfl,by simp [h]⟩
  | succ j =>
   simp only [backT,List.getElem?_cons_succ] at h ⊢
   obtain⟨a,b,h1,h2,h3⟩:=z746 h
   exact⟨a,b,h1,h2,by rw [h3,show i + 1 + j=i + (j + 1) by omega]⟩
theorem z745 {D:List Nat}:∀ (t s:List AV) (i:Nat),t.length=s.length→(backT D t s i).length=t.length
 | [],[],_,_=>rfl
 | [],_::_,_,h=>by simp at h
 | _::_,[],_,h=>by simp at h
 | x::t,y::s,i,h=>by simp [backT,z745 t s (i + 1) (by simpa using h)]
theorem z543 (h:StRel P base out st μ tmps w) (hm:noMem st.m=true):∀ k,μ k=none:=fun k=>by
 cases hk:μ k with
 | none=>rfl
 | some L=>obtain⟨b,hb⟩:=h.mem.dom k (by simp [hk]);exact absurd hb (z177 hm)
theorem z1017 (h:StRel P base out st μ tmps w) (hm:noMem st.m=true) {pb:Nat} {drow:List DV} (hp:Pin w out pb (drow.map some)) :
  StRel P base (fun x=>out x∧x≠pb) { t:=st.t.map (borrowV pb drow),m:=st.m } μ tmps w:=by
 have hμ:=z543 h hm
 have hown:∀ k,ownOf (fun x=>out x∧x≠pb) μ k→out k∧k≠pb:=by
  rintro k (hk | ⟨m,z,l,c,hk⟩)
  ·exact hk
  ·rw [hμ m] at hk;cases hk
 have hg:Goes w (ownOf out μ) w (ownOf (fun x=>out x∧x≠pb) μ):=fun b o v h1 h2=>⟨fun hc=>h1 (.inl (hown b hc).1),h2⟩
 obtain⟨cs,ty,hh,hc⟩:=hp
 have key:∀ off,DRel w (ownOf (fun x=>out x∧x≠pb) μ) (.ptr drow off) (.pointer (some ⟨pb,off,none⟩)):=fun off=>by
  have:=DRel.ptr (w:=w) (own:=ownOf (fun x=>out x∧x≠pb) μ) drow off pb 0 (fun j=>cs.getD j Go.undef)
   (fun j d hj=>by
    obtain⟨v,h1,h2,h3⟩:=hc j d (by simp [hj])
    have e:cs.getD j Go.undef=v:=by rw [Array.getD_eq_getD_getElem?,h1];rfl
    exact⟨fun hcc=>(hown pb hcc).2 rfl,by rw [z17 hh,Nat.zero_add,h1,e],by rw [e];exact h2⟩)
   (fun j d hj=>by
    obtain⟨v,h1,h2,h3⟩:=hc j d (by simp [hj])
    have e:cs.getD j Go.undef=v:=by rw [Array.getD_eq_getD_getElem?,h1];rfl
    rw [e]
    exact h3.goes fun b o u q1 q2=>⟨fun hcc=>q1 (hown b hcc).1,q2⟩)
  simpa using this
 refine⟨by simp [h.size],fun i x v hx hv=>?_,⟨fun k b hb=>absurd hb (z177 hm),fun k hk=>(by rw [hμ k] at hk;cases hk),fun k q b z l c z' l' c' h1=>(by rw [hμ k] at h1;cases h1),fun k b z l c h1=>(by rw [hμ k] at h1;cases h1)⟩,h.hid.goes hg,fun x hx=>h.out x hx.1,h.le⟩
 simp only [List.getElem?_map,Option.map_eq_some_iff] at hx
 obtain⟨y,hy,rfl⟩:=hx
 have hrel:=h.tmp i y v hy hv
 unfold borrowV
 split
 ·rename_i b off
  split
  ·rename_i e
   subst e
   rw [z255 hrel]
   exact .d (key off)
  ·exact hrel.goes hg (fun _ _ _=>rfl)
 ·rename_i b o q
  split
  ·rename_i e
   subst e
   have hd:=hrel.d_inv
   cases hd with
   | ptr _ _ b' o' f hc' hd' =>
    refine .d (.ptr _ q b' o' f (fun j d hj=>?_) (fun j d hj=>?_))
    ·have hj0:j=0:=by have:=(List.getElem?_eq_some_iff.1 hj).1;simpa using this
     subst hj0
     obtain⟨a1,a2⟩:=hc' 0 _ rfl
     exact⟨fun hcc=>a1 (.inl (hown _ hcc).1),a2⟩
    ·have hj0:j=0:=by have:=(List.getElem?_eq_some_iff.1 hj).1;simpa using this
     subst hj0
     simp at hj
     subst hj
     have:=hd' 0 _ rfl
     generalize f 0=z at this
     cases this
     exact key o
  ·exact hrel.goes hg (fun _ _ _=>rfl)
 ·exact hrel.goes hg (fun _ _ _=>rfl)
theorem z752 {pb:Nat} {drow:List DV} {l:Nat} {items:List (List DV)} {J:Seen} {B0:Nat} (hS:SeenOk B0 J) (hG:Gives P l J items) (hP:∀ k o w',J k o w'→Pin w' o pb (drow.map some)) (p:Nat) {id:Nat} {k:Option Nat} {Q:Exit→Option Nat→St→Prop} (hfol:P.follows .mixedOrders=true) (hback:backB ops=true) (hp:tailB ops p=true) (hps:p≤ops.size)
  (hm:noMem st.m=true) (h:runD P ops (ops.toList.take p) 0 [] { t:=st.t.map (borrowV pb drow),m:=st.m } fun s=>noMem s.m=true∧runZ P pb (drow.map some) l items ops (ops.toList.drop p) k { t:=backT (opDsts ops.toList) st.t s.t 0,m:=s.m } (Q .normal)) :
  Walk P none n (fun k _ o w=>J k o w) (.region id ops true) k st Q:=fun B base out μ tmps w ds hO hst hJ hM=>by
 obtain⟨rs,s1,hch,hrs,hpr,hm1,hrest⟩:=z130 (ops.toList.take p) 0 [] _ _ (fun j o hj=>by
  rw [List.getElem?_take] at hj
  split at hj
  ·simpa using hj
  ·cases hj) h
 have hrl:rs.map (·.i)=List.range p:=by rw [hrs,List.range_eq_range'];simp [hps]
 have hlen:rs.length=p:=by have:=congrArg List.length hrl;simpa using this
 refine wpIn_region_any hfol ?_
 have hB0:Below w.heap.size w { w with drawn:=w.drawn + 1 }:=(Below.refl _ w).drew
 have hsz:ops.size=(ops.size - p) + p:=by omega
 conv=>arg 7;rw [hsz]
 have hpairs:=z187 (fun k i=>z107 ops.toList [] (fun k i hk=>by simp at hk) (fun k o hk=>by simpa using hk) k i) (by simpa using hpr:pairsB ops (masks ops.toList []) (rs.map Rec.key)=true)
 have hbor:=z1017 hst hm (hP _ _ _ (hJ w (.refl _ _)))
 refine z561 (·.i) (fun a b=>indepB ops a.key b.key=true) (Chain P ops) (fun _ _ h=>by cases h;rfl) (fun r rs s s' h=>by cases h with | cons ho hd hl ht=>exact⟨_,_,ho,hd,hl.1.step,ht⟩) (fun r B s s' A hA h=>z919 A s hA h)
  hback p (fun i j hi hj hs=>z103 hp i j (by omega) hj hs) (ops.size - p) p _ rs _ μ tmps _ hlen (by rw [hrl];exact List.pairwise_lt_range) (by simp) (fun i=>?_) (fun j hj hs=>by simp [hs]) (fun k o ho hk=>?_) hpairs hch (hbor.below hB0) (fun listed' tmps' μ' w' g1 g2 g3 h1 hB hS1=>?_)
 ·rw [hrl]
  simp only [List.mem_range,Array.getElem?_replicate]
  constructor
  ·intro hi;exact⟨hi,by rw [if_pos (by omega)]⟩
  ·intro hi;exact hi.1
 ·simp only [Array.getElem?_replicate] at hk
  split at hk <;> simp at hk
 ·have hB1:=(KeepO.below (own:=ownOf (fun x=>out x∧x≠pb) μ) hB0 hst.le).trans hB
  have hμ0:=z543 hst hm
  have hμ1:=z543 h1 hm1
  have hst1:Stays w (ownOf out μ) w' (ownOf out μ'):=⟨hB1.keep.below.size,fun x hx hno=>by
   obtain⟨p1,p2⟩:=hB1.stays x hx (fun hc=>hno (by
    rcases hc with hc | ⟨m,z,l,c,hc⟩
    ·exact .inl hc.1
    ·rw [hμ0 m] at hc;cases hc))
   refine⟨p1,fun hc=>?_⟩
   rcases hc with hc | ⟨m,z,l,c,hc⟩
   ·exact hno (.inl hc)
   ·rw [hμ1 m] at hc;cases hc⟩
  have hsame:Same (opDsts ops.toList) tmps tmps':=hS1
  have hback1:StRel P base out { t:=backT (opDsts ops.toList) st.t s1.t 0,m:=s1.m } μ' tmps' w':=by
   have hl1:st.t.length=s1.t.length:=by
    have e1:=hst.size
    have e2:=h1.size
    have e3:=hsame.1
    omega
   refine⟨by rw [z745 _ _ _ hl1];have:=h1.size;omega,fun i x v hx hv=>?_,⟨fun k b hb=>absurd hb (z177 hm1),fun k hk=>(by rw [hμ1 k] at hk;cases hk),fun k q b z l c z' l' c' h1=>(by rw [hμ1 k] at h1;cases h1),fun k b z l c h1=>(by rw [hμ1 k] at h1;cases h1)⟩,hst.hid.goes hst1.goes,hst.out,fun b hb=>Nat.lt_of_lt_of_le (hst.le b hb) hst1.1⟩
   obtain⟨x0,y0,q1,q2,q3⟩:=z746 hx
   rw [Nat.zero_add] at q3
   by_cases hD:(opDsts ops.toList).contains i=true
   ·rw [if_pos hD] at q3
    subst q3
    unfold keepFlat
    split
    ·rename_i d
     split
     ·rename_i hf
      exact .d ((h1.tmp i _ v q2 hv).d_inv.of_flat hf)
     ·exact .undef v
    ·have:=h1.tmp i _ v q2 hv
     cases this;exact .void
    ·exact .undef v
   ·rw [if_neg hD] at q3
    subst q3
    have hni:i ∉ opDsts ops.toList:=by simpa using hD
    have hv0:tmps[i]?=some v:=by rw [← hsame.2 i hni];exact hv
    exact (hst.tmp i x v q1 hv0).goes hst1.goes fun k _ hk=>by rw [hμ0 k] at hk;cases hk
  refine z301 hback (z103 hp) (ops.size - p) p listed' _ w' (by omega) (Nat.le_refl _) g1 (fun i hi=>g2 i hi (by omega)) g3 ?_
  have:=z325 (n:=n) hS hG hP (ds:=ds) (Qm:=Ends P (fun k _ o w=>J k o w) B (dsts (.region id ops true)) (ownOf out μ) tmps w Q) (ops.toList.drop p) p k _ (Q .normal) base out μ' tmps' w' (fun j o hj=>by simpa [List.getElem?_drop] using hj) hrest hback1 (fun w'' hb=>hJ w'' (hB1.keep.below.trans hb))
   (fun k' st' base' out' μ2 tmps2 w2 h2 hJ' hs hSa hk=>⟨k',st',base',out',μ2,h2,hJ',hM.stays (hst1.trans hs),hst1.trans hs,hS1.trans (hSa.mono fun i hi=>z147 p hi),hk⟩)
  simpa using this
theorem z166 {pb:Nat} {drow:List DV} {l:Nat} {items:List (List DV)} {J:Seen} {B0:Nat} (hS:SeenOk B0 J) (hG:Gives P l J items) (hP:∀ k o w',J k o w'→Pin w' o pb (drow.map some)) (p:Nat) {id:Nat} {k:Option Nat} {cs:List Code} {Q:Exit→Option Nat→St→Prop} (hfol:P.follows .mixedOrders=true) (hback:backB ops=true) (hp:tailB ops p=true) (hps:p≤ops.size)
  (hm:noMem st.m=true) (h:∀ K:Option Nat→St→Prop,(∀ k s,WalkL P none n (fun k _ o w=>J k o w) cs k s Q→K k s)→runD P ops (ops.toList.take p) 0 [] { t:=st.t.map (borrowV pb drow),m:=st.m } fun s=>noMem s.m=true∧runZ P pb (drow.map some) l items ops (ops.toList.drop p) k { t:=backT (opDsts ops.toList) st.t s.t 0,m:=s.m } K) :
  WalkL P none n (fun k _ o w=>J k o w) (.region id ops true::cs) k st Q :=
 z752 hS hG hP p hfol hback hp hps hm (h _ fun _ _ h=>h)
end
attribute [go_sem] borrowV keepFlat backT DV.flat DV.flat.DV.flats
end Go.Ab
/- A range over an iterator that reads what its caller writes beside: the states told by what differs. -/
namespace Go.Ab
open Go.RowKit
theorem z211 {P:Program} {J:Env} {k:Option Nat} {st:St} {rd:Option Nat} {n:Nat} {α:Type} {cs:List Code} {Q:Exit→Option Nat→St→Prop} {g:Operand} {ps:Array Tmp} {assign body:Code} {f:FuncId} {post:List AV} {caps:Nat→List DV} {items:List (List DV)}
  (hrd:∀ l0,rd=some l0→InLoop l0 J) (nb p:Nat) (prow:List (Option DV)) (rs:List Nat)
  (hg:rangeOf st g=some (f,[],post)) (hit:IterB P f caps prow items) (hcaps:∀ b,allSome (post.map (rawV st rs nb b))=some (caps b)) (hps:∀ row ∈ items,row.length=ps.size)
  (ts:α→List (Nat × AV)) (ms:α→List (Nat × Option Blk)) (I:Nat→α→Prop) (Ix:Exit→α→Prop) (a0:α) (hp0:pinned nb p prow st)
  (hw:Weak (releaseAll rs st) (st.head (dsts (.rangeFunc g ps assign body)) (ts a0) (ms a0))) (h0:I 0 a0)
  (hpI:∀ a,pinned nb p prow (st.head (dsts (.rangeFunc g ps assign body)) (ts a) (ms a)))
  (hround:∀ i a row,items[i]?=some row→I i a→∀ l m,WalkL P (some l) m J [assign] k { t:=setPs ps.toList row (st.head (dsts (.rangeFunc g ps assign body)) (ts a) (ms a)).t,m:=(st.head (dsts (.rangeFunc g ps assign body)) (ts a) (ms a)).m }
   (thenA (fun k2 s=>∀ J2,InLoop l J2→WalkL P (some l) m J2 [body] k2 s fun e k3 s3=>k3=k∧match e with
    | .normal=>∃ a',Weak (s3.wipe (dsts (.rangeFunc g ps assign body))) (st.head (dsts (.rangeFunc g ps assign body)) (ts a') (ms a'))∧I (i + 1) a'
    | e=>(jumpCode e).isSome∧∃ a',Weak (s3.wipe (dsts (.rangeFunc g ps assign body))) (st.head (dsts (.rangeFunc g ps assign body)) (ts a') (ms a'))∧Ix e a') (fun _ _ _=>False)))
  (hdone:∀ a,I items.length a→WalkL P rd n J cs k (st.head (dsts (.rangeFunc g ps assign body)) (ts a) (ms a)) Q) (hstop:∀ e a,Ix e a→(jumpCode e).isSome→Q e k (st.head (dsts (.rangeFunc g ps assign body)) (ts a) (ms a))) :
  WalkL P rd n J (.rangeFunc g ps assign body::cs) k st Q:=by
 refine z574 hrd nb p prow rs hg hcaps hit hps (fun a=>st.head (dsts (.rangeFunc g ps assign body)) (ts a) (ms a)) (fun k' i a=>k'=k∧I i a) (fun e k' a=>k'=k∧Ix e a) a0 hp0 hw ⟨rfl,h0⟩ (fun _ _ a _=>hpI a) (fun _ _ a _=>hpI a) ?_ ?_ ?_
 ·rintro k' i a row hi ⟨rfl,hI⟩ l m
  refine z46 (hround i a row hi hI l m) fun e k2 s hq=>?_
  cases e with
  | normal =>
   refine fun J2 hJ2=>z46 (z21 (hq J2 hJ2)) fun e k3 s3 hq3=>?_
   obtain⟨rfl,h⟩:=hq3
   cases e with
   | normal=>obtain⟨a',h1,h2⟩:=h;exact⟨a',h1,rfl,h2⟩
   | _=>obtain⟨hj,a',h1,h2⟩:=h;exact⟨hj,a',h1,rfl,h2⟩
  | _=>exact hq
 ·rintro k' a ⟨rfl,hI⟩;exact hdone a hI
 ·rintro e k' a ⟨rfl,hI⟩ hj;exact hstop e a hI hj
theorem z121 {P:Program} {J:Env} {k:Option Nat} {st:St} {n:Nat} {α:Type} {cs:List Code} {Q:Exit→Option Nat→St→Prop} {g:Operand} {ps:Array Tmp} {assign body:Code} {f:FuncId} {pre post:List AV} {items:List (List DV)}
  (hg:rangeOf st g=some (f,pre,post)) (hit:IterE P f [] (fun l=>(pre++.d (.yld l)::post).map (AV.mapN (inv []))) items) (hps:∀ row ∈ items,row.length=ps.size)
  (ts:α→List (Nat × AV)) (ms:α→List (Nat × Option Blk)) (I:Option Nat→Nat→α→Prop) (Ix:Exit→Option Nat→α→Prop) (a0:α) (hw:Weak st (st.head (dsts (.rangeFunc g ps assign body)) (ts a0) (ms a0))) (h0:I k 0 a0)
  (hround:∀ X W k' i a row,items[i]?=some row→I k' i a→∀ l m,WalkL P (some l) m (lendJ X W J) [assign] k' { t:=setPs ps.toList row (st.head (dsts (.rangeFunc g ps assign body)) (ts a) (ms a)).t,m:=(st.head (dsts (.rangeFunc g ps assign body)) (ts a) (ms a)).m }
   (thenA (fun k2 s=>WalkL P (some l) m (lendJ X W J) [body] k2 s fun e k3 s3=>match e with
    | .normal=>∃ a',Weak (s3.wipe (dsts (.rangeFunc g ps assign body))) (st.head (dsts (.rangeFunc g ps assign body)) (ts a') (ms a'))∧I k3 (i + 1) a'
    | e=>(jumpCode e).isSome∧∃ a',Weak (s3.wipe (dsts (.rangeFunc g ps assign body))) (st.head (dsts (.rangeFunc g ps assign body)) (ts a') (ms a'))∧Ix e k3 a') (fun _ _ _=>False)))
  (hdone:∀ k' a,I k' items.length a→WalkL P none n J cs k' (st.head (dsts (.rangeFunc g ps assign body)) (ts a) (ms a)) Q) (hstop:∀ e k' a,Ix e k' a→(jumpCode e).isSome→Q e k' (st.head (dsts (.rangeFunc g ps assign body)) (ts a) (ms a))) :
  WalkL P none n J (.rangeFunc g ps assign body::cs) k st Q :=
 z271 [] hg (by decide) rfl hit hps (fun a=>st.head (dsts (.rangeFunc g ps assign body)) (ts a) (ms a)) I Ix a0 hw h0 hround hdone hstop
attribute [go_sem] lookD rawV rawOf rangeOf
end Go.Ab
/- A function that returns a nil slice;what is told of a nil slice. -/
namespace Go.Ab
open Go.RowKit
def retN (P:Program) (rs:Array ResultVar) (e:Exit) (_:Option Nat) (s:St):Prop:=endsOk e∧resultsA P s rs=some .nil
theorem z1183 {P:Program} {f:FuncId} {fn:Func} {c:Code} {args:List DV} (M:Nat) (he:∀ args w,(callFunc f args).run P w=.ok (.enter f args) w) (hf:P.funcs[f]?=some fn) (hb:fn.body=some c) (h4:fn.results.size≤4)
  (hw:∀ J,WalkL P none 0 J [c] (some 0) (St.start args fn.ntmps M) (retN P fn.results)):Fn P f args .nilsl:=by
 refine⟨he,fun w own vs hown hh hd=>z157 M hf hb h4 (fun J=>z21 (hw J)) hown hh hd fun e k s ⟨h1,h2⟩=>⟨h1,.nil,h2,fun μ tmps v w' hst hv hB=>⟨v,rfl,?_,hB⟩⟩⟩
 cases hv
 exact .nilsl
def nilT:AV→AV
 | .d .nilsl=>.d (.sl [])
 | x=>x
theorem z1024 (i:Nat) (st:St):Weak st { t:=st.t.set i (nilT (st.t.getD i .undef)),m:=st.m }:=fun P base out μ tmps w h=>by
 refine⟨μ,⟨by simp [h.size],fun j x v hx hv=>?_,h.mem,h.hid,h.out,h.le⟩,fun _ hb=>hb⟩
 rw [List.getElem?_set] at hx
 split at hx
 ·rename_i hij
  subst hij
  split at hx
  ·rename_i hlt
   cases hx
   have hx0:st.t[i]?=some (st.t.getD i .undef):=by simp [hlt]
   have hr:=h.tmp i _ v hx0 hv
   unfold nilT
   split
   ·rename_i e
    rw [e] at hr
    rw [z703 hr]
    exact .d .slNil
   ·exact hr
  ·cases hx
 ·exact h.tmp j x v hx hv
theorem z437 {P:Program} {rd:Option Nat} {n:Nat} {J:Env} {c:Code} {cs:List Code} {k:Option Nat} {st:St} {Q:Exit→Option Nat→St→Prop} (i:Nat) (h:WalkL P rd n J (c::cs) k { t:=st.t.set i (nilT (st.t.getD i .undef)),m:=st.m } Q):WalkL P rd n J (c::cs) k st Q :=
 z63 (z1024 i st) h
attribute [go_sem] nilT
end Go.Ab
/- A range over a map in a state with a row of own arrays. -/
namespace Go.Ab
open Go.RowKit
theorem z306 {P:Program} {J:Env} {k:Option Nat} {st:St} {rd:Option Nat} {n:Nat} {α:Type} {cs:List Code} {Q:Exit→Option Nat→St→Prop} {id8 id9 b2:Nat} {ops8:Array Oper} {pre:List Oper} {oR oN oX:Oper} {tI dN dE:Nat} {mt kt et:TypeId} {m:Operand} {bc:Code} (L:Nat)
  (ts:α→List (Nat × AV)) (ms:α→List (Nat × Option Blk)) (tl:α→List (Option Blk)) (I:List Nat→α→Prop)
  (kk:KK) (keys:List (MK × Nat)) (vals:List DV) (clock:Nat)
  (h8:ops8.toList=pre++[oR]) (hoR:oR.op=.range mt m) (hgR:oR.guard=none) (hdR:oR.dst=some tI)
  (hoN:oN.op=.next (.tmp tI) false) (hgN:oN.guard=none) (hdN:oN.dst=some dN) (hoX:oX.op=.extract (.tmp dN) 0) (hgX:oX.guard=none) (hdX:oX.dst=some dE)
  (hmt:P.underlying mt=some (.map kt et)) (htI:(dsts bc).contains tI=false) (hNI:dN≠tI) (hEI:dE≠tI) (hNE:dN≠dE)
  (hcl:∀ (i:Nat) (p:MK × Nat),keys[i]?=some p→p.2<clock) (hnd:(keys.map (·.2)).Nodup) (hfl:∀ (i:Nat) (d:DV),vals[i]?=some d→d.flat=true)
  (hpre:∀ K:St→Prop,(∀ s,(s.ev m=.d (.mp kk keys vals clock)∧∃ a0,Weak (s.put (some tI) .undef) (st.headT L (dN::dE::tI::dsts bc) (ts a0) (ms a0) (tl a0))∧I [] a0)→K s)→runK P ops8 pre st K)
  (hlen:dN<st.t.length∧dE<st.t.length∧tI<st.t.length)
  (hround:∀ seen a i key val,I seen a→keys[i]?=some key→vals[i]?=some val→i ∉ seen→∀ r J2,IterAt P r (keyD key.1) val J2 →
   WalkL P rd n J2 [bc] k ((((st.headT L (dN::dE::tI::dsts bc) (ts a) (ms a) (tl a)).put (some dN) .undef).put (some dE) (.d (.bool true))).put (some tI) (.d (.raw r 0))) (fun e k' s=>e=.normal∧k'=k∧∃ a',Weak (s.put (some tI) .undef) (st.headT L (dN::dE::tI::dsts bc) (ts a') (ms a') (tl a'))∧I (seen++[i]) a'))
  (hdone:∀ seen a,I seen a→(∀ i,i<keys.length→i ∈ seen)→seen.Nodup→WalkL P rd n J cs k (((st.headT L (dN::dE::tI::dsts bc) (ts a) (ms a) (tl a)).put (some dN) .undef).put (some dE) (.d (.bool false))) Q) :
  WalkL P rd n J (.seq (.region id8 ops8 false) (.block b2 (.loop (.seq (.region id9 #[oN,oX] false) (.seq (.cond (.tmp dE) .skip (.exit b2)) bc))))::cs) k st Q:=by
 have hw1:∀ (ds:List Nat) (l:List AV),(wipeT ds l).length=l.length:=fun ds=>by
  induction ds with
  | nil=>intro l;rfl
  | cons d ds ih=>intro l;simp only [wipeT];first | (rw [ih];simp) | simp
 have hs1:∀ (ds:List (Nat × AV)) (l:List AV),(setsT ds l).length=l.length:=fun ds=>by
  induction ds with
  | nil=>intro l;rfl
  | cons d ds ih=>intro l;simp only [setsT];first | (rw [ih];simp) | simp
 exact z368 h8 hoR hgR hdR hoN hgN hdN hoX hgX hdX hmt htI hNI hEI hNE kk keys vals clock hcl hnd hfl _ I hpre (fun seen a _=>by
  simp only [St.headT,hs1,hw1];exact hlen) hround hdone
end Go.Ab
namespace Go.Ab
open Go.RowKit Go.Proofs
set_option maxHeartbeats 8000000
set_option maxRecDepth 20000
attribute [local irreducible] WalkL Walk
def bruijnC:List DV:=match bruijnD with
 | .ptr c _=>c
 | _=>[]
theorem z1093:hidOf Tryd.prog 1=some (.ptr bruijnC 0):=by kernel_rfl
attribute [go_sem] z1093
def elems (s:Nat):List Nat:=(List.range 5).filter fun i=>s.testBit i
def lowN (s:Nat):Nat:=(elems s).headD 0
def idxN (s:Nat):Nat:=match lowN s with
 | 0=>0
 | 1=>1
 | 2=>3
 | 3=>7
 | _=>15
def uD (s:Nat):DV:=.int .u64 (s:Int)
theorem z1222:∀ s:Nat,s<32→s≠0→bShr .u64 (IntKind.u64.wrap (bAnd .u64 (s:Int) (IntKind.u64.wrap (0 - (s:Int))) * 285870213051353865)) 58=(idxN s:Int):=by decide +kernel
theorem z1265 (s:Nat):idxN s<64:=by unfold idxN;split <;> decide
theorem z1164:∀ s:Nat,s<32→lowN s=0∨lowN s=1∨lowN s=2∨lowN s=3∨lowN s=4:=by decide +kernel
theorem z1165 {s:Nat} (h:s<32):bruijnC[idxN s]?=some (.int .u8 (lowN s:Int)):=by
 unfold idxN
 rcases z1164 s h with h | h | h | h | h <;> rw [h] <;> rfl
theorem z1015:∀ s:Nat,s<32→s≠0→elems s=lowN s::elems (s &&& (s - 1)):=by decide +kernel
theorem z1218:∀ s:Nat,s<32→s≠0→(s &&& (s - 1))<s:=by decide +kernel
theorem z1070:∀ s:Nat,s<32→s≠0→bAnd .u64 (s:Int) (IntKind.u64.wrap ((s:Int) - 1))=((s &&& (s - 1):Nat):Int):=by decide +kernel
theorem z1261:∀ s:Nat,s<32→lowN s<5:=by decide +kernel
theorem z557 {s i:Nat} (h:i ∈ elems s):i<5:=List.mem_range.1 (List.mem_filter.1 h).1
theorem z1013:elems 0=[]:=by decide
theorem z1297 (s:Nat) (hs:s<32) (h0:s≠0):Fn Tryd.prog 119 [uD s] (.i (lowN s)):=by
 have e0:((s:Int) == 0)=false:=by simp;omega
 have e1:=z1222 s hs h0
 have e2:=z1165 hs
 have e3:=z1265 s
 have e4:=z1261 s hs
 have e5:IntKind.i64.wrap (lowN s:Int)=(lowN s:Int):=z10 (by omega)
 have e6:¬ ((idxN s:Int)<0):=by omega
 refine z11 14 Tryd.call119 Tryd.func119 rfl (by decide) fun J=>?_
 simp only [go_sem,St.start,Tryd.ntmps119,Tryd.results119,uD]
 repeat (first|refine nx ?_|(refine z3 fun K hK=>?_;simp only [go_sem,e0];apply hK;clear hK K))
 refine z5 rfl ?_
 have e7:0≤(idxN s:Int)∧(idxN s:Int).toNat<64:=by simp;exact e3
 repeat (first|refine nx ?_|(refine z3 fun K hK=>?_;simp only [go_sem,e1,e2,e3,e5,e6,e7,Int.toNat_natCast];apply hK;clear hK K))
 simp only [go_sem]
theorem z1339 (s:Nat) (hs:s<32) (h0:s≠0):Fn Tryd.prog 96 [uD s] (.i (lowN s)):=by
 have h119:=z1297 s hs h0
 rw [uD] at h119
 refine z11 8 Tryd.call96 Tryd.func96 rfl (by decide) fun J=>?_
 simp only [go_sem,St.start,Tryd.ntmps96,Tryd.results96,uD]
 repeat (first|refine nx ?_|(refine z3 fun K hK=>?_;simp only [go_sem];apply hK;clear hK K))
 refine z5 rfl ?_
 repeat (first|refine nx ?_|(refine z3 fun K hK=>?_;simp only [go_sem];(repeat (first|(refine⟨_,.lent (hf:=h119) (hd:=rfl) (hr:=rfl),?_⟩;simp only [go_sem])|(refine⟨_,.given (hf:=h119) (hd:=rfl) (ha:=rfl),?_⟩;simp only [go_sem])));apply hK;clear hK K))
 simp only [go_sem]
theorem z1330 (s:Nat):FnG Tryd.prog 70 [] [] ([uD s].map AV.d) (.fn 95 [.box 0 0]) [.box [.d (uD s)]]:=by
 unfold uD
 refine z35 4 Tryd.call70 Tryd.func70 rfl (by decide) [1] [] (by simp only [List.length_cons,List.length_nil];decide) (by kernel_rfl) fun J=>?_
 simp only [go_sem,St.startG,Tryd.ntmps70,Tryd.results70,List.map_cons,List.map_nil,List.range_succ,  ]
 repeat (first|refine nx ?_|(refine z3 fun K hK=>?_;simp only [go_sem];apply hK;clear hK K))
 simp only [go_sem]
def elRows (s:Nat):List (List DV):=(elems s).map fun (i:Nat)=>[.i (i:Int)]
theorem z1199 (s:Nat) (hs:s<32):IterE Tryd.prog 95 [.box [.d (uD s)]] (fun l=>[.d (.yld l),.box 0 0]) (elRows s):=by
 unfold uD
 refine z254 14 Tryd.call95 Tryd.func95 rfl rfl fun l J hG=>?_
 simp only [go_sem,St.startG,Tryd.ntmps95,Tryd.results95,List.map_cons,List.map_nil,List.range_succ,  ]
 repeat (first|refine nx ?_|(refine z3 fun K hK=>?_;simp only [go_sem];apply hK;clear hK K))
 obtain⟨L,hL⟩:∃ L,L=elRows s:=⟨_,rfl⟩
 rw [← hL] at hG ⊢
 refine z60 (fun (_:Nat)=>[]) (fun (u:Nat)=>[(14,some (.box [.d (.int .u64 (u:Int))]))]) (fun k u=>u<32∧∃ X,k=some X.length∧L=X++elRows u) (fun u=>u) s ?_ ⟨hs,[],rfl,by rw [hL];rfl⟩ ?_
 ·simp only [go_sem]
  refine weA ?_ ?_ <;> simp
 ·rintro k u ⟨hu,X,rfl,hX⟩
  simp only [go_sem]
  repeat (first|refine nx ?_|(refine z3 fun K hK=>?_;simp only [go_sem];apply hK;clear hK K))
  refine z6 rfl (fun hb=>?_) (fun hb=>?_)
  ·have h0:u≠0:=by
    intro hc;subst hc;simp at hb
   have h96:=z1339 u hu h0
   rw [uD] at h96
   have hn:=z1070 u hu h0
   have hlt:=z1218 u hu h0
   rw [elRows,z1015 u hu h0,List.map_cons] at hX
   repeat (first|refine nx ?_|(refine z3 fun K hK=>?_;simp only [go_sem];apply hK;clear hK K))
   refine z141 hG [] fun K hK=>?_
   simp only [go_sem]
   refine⟨_,.lent (hf:=h96) (hd:=rfl) (hr:=rfl),?_⟩
   simp only [go_sem]
   refine⟨rfl,X.length,[.i (lowN u:Int)],rfl,rfl,rfl,by rw [hX];simp,?_,?_⟩
   ·simp only [go_sem]
    refine hK _ _ ?_
    clear hK K
    refine z5 rfl ?_
    repeat (first|refine nx ?_|(refine z3 fun K hK=>?_;simp only [go_sem,hn];apply hK;clear hK K))
    refine⟨u &&& (u - 1),?_,⟨by omega,X++[[.i (lowN u:Int)]],by simp,by rw [hX,elRows];simp⟩,hlt⟩
    refine weA ?_ ?_ <;> simp
   ·simp only [go_sem]
    refine hK _ _ ?_
    clear hK K
    refine z9 rfl ?_
    repeat (first|refine nx ?_|(refine z3 fun K hK=>?_;simp only [go_sem];apply hK;clear hK K))
    exact⟨trivial,.inr rfl⟩
  ·have h0:u=0:=by simpa using hb
   subst h0
   repeat (first|refine nx ?_|(refine z3 fun K hK=>?_;simp only [go_sem];apply hK;clear hK K))
   refine⟨trivial,.inl ?_⟩
   rw [hX,elRows,z1013,List.map_nil,List.append_nil]
end Go.Ab
namespace Go.Ab
open Go.RowKit Go.Proofs
set_option maxHeartbeats 16000000
set_option maxRecDepth 20000
attribute [local irreducible] WalkL Walk
def farW:Int:=1099511627776
abbrev Mat:=Nat→Nat→Int
def updM (F:Mat) (a b:Nat) (v:Int):Mat:=fun x y=>if x=a∧y=b then v else F x y
def rowM (m:Nat) (F:Mat) (a:Nat):List Int:=(List.range m).map (F a)
def matM (m:Nat) (F:Mat):List (List Int):=(List.range m).map (rowM m F)
def zeroM:Mat:=fun a b=>if a=b then 0 else farW
def relaxM (p:Party) (F:Mat) (w:Nat × Path):Mat:=updM F w.2.frm.toNat w.2.to.toNat (min (F w.2.frm.toNat w.2.to.toNat) (spanW w.2 p).hi)
def viaM (v:Nat) (F:Mat) (a b:Nat):Mat:=updM F a b (min (F a b) (wr (F a v + F v b)))
def allM (n:Net) (p:Party):Mat :=
 let m:=n.places.toNat
 (List.range m).foldl (fun F v=>(List.range m).foldl (fun F a=>(List.range m).foldl (fun F b=>viaM v F a b) F) F) ((canL n p).foldl (relaxM p) zeroM)
theorem z143 (m:Nat) (F:Mat) (a:Nat):(rowM m F a).length=m:=by simp [rowM]
theorem z52 (m:Nat) (F:Mat):(matM m F).length=m:=by simp [matM]
theorem z96 {m:Nat} {F:Mat} {a:Nat} (h:a<m):(matM m F)[a]?=some (rowM m F a):=by simp [matM,h]
theorem z86 {m:Nat} {F:Mat} {a b:Nat} (h:b<m):(rowM m F a)[b]?=some (F a b):=by simp [rowM,h]
theorem z81 {l:List Int} {i:Nat} {c:Int} (h:l[i]?=some c):(intRows l)[i]?=some [.i c]:=by simp [intRows,h]
theorem z1140 {m:Nat} {F:Mat} {a b:Nat} (v:Int):(rowM m F a).set b v=rowM m (updM F a b v) a:=by
 apply List.ext_getElem?
 intro j
 rw [List.getElem?_set]
 by_cases hj:j<m
 ·rw [z86 hj,z143]
  by_cases hb:b=j
  ·subst hb;simp [hj,z86 hj,updM]
  ·rw [if_neg hb,z86 hj,updM,if_neg (fun h=>hb h.2.symm)]
 ·have h1:∀ G:Mat,(rowM m G a)[j]?=none:=fun G=>List.getElem?_eq_none (by rw [z143];omega)
  rw [h1,h1,z143];split <;> simp;omega
theorem z544 {m:Nat} {F:Mat} {a b:Nat} (v:Int):(matM m F).set a ((rowM m F a).set b v)=matM m (updM F a b v):=by
 rw [z1140]
 apply List.ext_getElem?
 intro j
 rw [List.getElem?_set]
 by_cases hj:j<m
 ·rw [z96 hj,z52]
  by_cases hb:a=j
  ·subst hb;simp [hj,z96 hj]
  ·rw [if_neg hb,z96 hj]
   congr 1
   apply List.map_congr_left
   intro y _
   rw [updM,if_neg (fun h=>hb h.1.symm)]
 ·have h1:∀ G:Mat,(matM m G)[j]?=none:=fun G=>List.getElem?_eq_none (by rw [z52];omega)
  rw [h1,h1,z52];split <;> simp;omega
theorem z1117 (m i:Nat):(List.replicate m farW).set i 0=rowM m zeroM i:=by
 apply List.ext_getElem?
 intro j
 rw [List.getElem?_set]
 by_cases hj:j<m
 ·rw [z86 hj,List.length_replicate,zeroM]
  by_cases hb:i=j
  ·subst hb;simp [hj]
  ·rw [if_neg hb,if_neg hb];simp [hj]
 ·rw [List.getElem?_eq_none (l:=rowM m zeroM i) (by rw [z143];omega),List.length_replicate]
  split <;> simp <;> omega
theorem z1031 {F:Mat} {a b c d:Nat} {x y:Int} (h:¬ (a=c∧b=d)):updM (updM F a b x) c d y=updM (updM F c d y) a b x:=by
 funext u v
 simp only [updM]
 split <;> split <;> first | rfl | (exfalso;omega)
theorem z860 (p:Party) (F:Mat) (w z:Nat × Path):relaxM p (relaxM p F w) z=relaxM p (relaxM p F z) w:=by
 by_cases h:w.2.frm.toNat=z.2.frm.toNat∧w.2.to.toNat=z.2.to.toNat
 ·funext u v
  simp only [relaxM,updM,h.1,h.2,and_self,if_true]
  split <;> first | rfl | omega
 ·simp only [relaxM]
  rw [z1031 h]
  congr 1
  ·rw [updM,if_neg (fun hc=>h ⟨hc.1.symm,hc.2.symm⟩)]
  ·congr 2
   rw [updM,if_neg (fun hc=>h ⟨hc.1,hc.2⟩)]
theorem z135 (p:Party):∀ (l:List (Nat × Path)) (j i:Nat),(entsC p l j)[i]?=(l[i]?).map fun w=>(MK.i w.1,DV.agg (spanW w.2 p).row,i + j)
 | [],_,i=>by simp [entsC]
 | w::l,j,0=>by simp [entsC]
 | w::l,j,i + 1=>by
  rw [entsC,List.getElem?_cons_succ,z135 p l (j + 1) i,List.getElem?_cons_succ,show i + (j + 1)=i + 1 + j by omega]
theorem z905 {α:Type}:∀ l:List α,(List.range l.length).filterMap (fun i=>l[i]?)=l
 | []=>rfl
 | a::l=>by
  rw [List.length_cons,List.range_succ_eq_map,List.filterMap_cons,List.filterMap_map]
  have h:((fun i=>(a::l)[i]?) ∘ Nat.succ)=fun i=>l[i]?:=by funext i;simp
  rw [h,z905 l]
  rfl
def atsL {α:Type} (l:List α) (is:List Nat):List α:=is.filterMap fun i=>l[i]?
theorem z1197 {α:Type} {l:List α} {is:List Nat} (h1:∀ i,i<l.length→i ∈ is) (h2:is.Nodup):(atsL l is).Perm l:=by
 have hp:(is.filter fun i=>i<l.length).Perm (List.range l.length):=by
  rw [List.perm_ext_iff_of_nodup (h2.filter _) List.nodup_range]
  intro i
  simp only [List.mem_filter,decide_eq_true_eq,List.mem_range]
  exact⟨fun h=>h.2,fun h=>⟨h1 i h,h⟩⟩
 have e1:atsL l is=atsL l (is.filter fun i=>i<l.length):=by
  rw [atsL,atsL,List.filterMap_filter]
  congr 1
  funext i
  by_cases hi:i<l.length
  ·simp [hi]
  ·simp [hi,List.getElem?_eq_none (Nat.le_of_not_lt hi)]
 rw [e1]
 exact (hp.filterMap _).trans (by rw [z905])
end Go.Ab
namespace Go.Ab
open Go.RowKit Go.Proofs
set_option maxHeartbeats 16000000
set_option maxRecDepth 20000
attribute [local irreducible] WalkL Walk
def zeroT (m k:Nat):List (List Int):=(List.range k).map (rowM m zeroM)
theorem z126 (m k:Nat):(zeroT m k).length=k:=by simp [zeroT]
theorem z926 (m k:Nat):zeroT m (k + 1)=zeroT m k++[rowM m zeroM k]:=by simp [zeroT,List.range_succ]
theorem z1021 (m:Nat):zeroT m m=matM m zeroM:=rfl
def stepA (m v:Nat) (F:Mat) (a:Nat):Mat:=(List.range m).foldl (fun F b=>viaM v F a b) F
def stepV (m:Nat) (F:Mat) (v:Nat):Mat:=(List.range m).foldl (stepA m v) F
theorem z1241 (n:Net) (p:Party) {m:Nat} (h:n.places.toNat=m):allM n p=(List.range m).foldl (stepV m) ((canL n p).foldl (relaxM p) zeroM):=by subst h;rfl
theorem z349 {β:Type} (f:β→Nat→β) (b:β) (k:Nat):(List.range (k + 1)).foldl f b=f ((List.range k).foldl f b) k:=by rw [List.range_succ,List.foldl_append];rfl
theorem z1349 (n:Net) (p:Party) (hg:n.Good):FnS Tryd.prog 63 [.agg (countryC n p)] 36 1 (slRows (matM n.places.toNat (allM n p))):=by
 obtain⟨m,hm⟩:∃ m:Nat,n.places=m:=⟨n.places.toNat,by have:=hg.places;omega⟩
 have hpl:=hg.places
 have hpt:=hg.paths
 have htn:n.places.toNat=m:=by omega
 have h29:FnS Tryd.prog 92 [.sl [[.i farW]],.i (m:Int)] 3 1 (intRows (List.replicate m farW)):=z1287 farW m (by omega)
 rw [farW] at h29
 obtain⟨ent,hent⟩:∃ e,e=entsC p (canL n p) 0:=⟨_,rfl⟩
 have htm:timesD n p=.mp none (ent.map fun e=>(e.1,e.2.2)) (ent.map fun e=>e.2.1) (canL n p).length:=by rw [timesD,mapD,hent]
 obtain⟨ks,hks⟩:∃ k,k=ent.map fun e=>(e.1,e.2.2):=⟨_,rfl⟩
 obtain⟨vs,hvs⟩:∃ v,v=ent.map fun e=>e.2.1:=⟨_,rfl⟩
 obtain⟨cl,hcl⟩:∃ c,c=(canL n p).length:=⟨_,rfl⟩
 rw [← hks,← hvs,← hcl] at htm
 rw [htn,countryC,htm,hm]
 refine z297 114 Tryd.call63 Tryd.func63 rfl (by decide) fun J=>?_
 simp only [go_sem,St.start,Tryd.ntmps63,Tryd.results63,]
 repeat (first|refine nx ?_|(refine z3 fun K hK=>?_;simp only [go_sem];apply hK;clear hK K))
 refine z439 [] [(3,.own 24)] [(24,some (.arr 36 1 []))] ?_ ?_
 ·simp only [go_sem]
  refine z56 [24] ?_ ?_ rfl rfl <;> simp [lessT,lessM,lessB,AV.less]
 simp only [go_sem]
 refine z1030 24 ?_
 simp only [go_sem,hm]
 refine z142 114 (fun (i:Nat)=>[(14,.d (.i (i:Int))),(3,.own 24)]) (fun i=>[(24,some (.arrA 36 1 (nm 114 i)))]) (fun i=>arrs 3 1 ((zeroT m i).map intRows)) (fun i=>i≤m) (fun i=>m - i) 0 ?_ (Nat.zero_le _) ?_
 ·simp only [go_sem,z1215,zeroT,List.range_zero,List.map_nil,z1198]
  refine weA ?_ ?_ <;> simp
 ·intro i hi
  simp only [go_sem]
  repeat (first|refine nx ?_|(refine z3 fun K hK=>?_;simp only [go_sem];apply hK;clear hK K))
  refine z6 rfl (fun hb=>?_) (fun hb=>?_)
  ·have hlt:i<m:=by simpa using hb
   have hw:IntKind.i64.wrap ((i:Int) + 1)=((i + 1:Nat):Int):=by rw [z10 (by omega)];simp
   have hni:¬ ((i:Int)<0):=by omega
   have e3:m≤549755813888:=by omega
   have hln:(intRows (List.replicate m (1099511627776:Int))).length=m:=by simp [z16]
   have hh2:headIs 1 (intRows (List.replicate m (1099511627776:Int)))=true:=by cases m <;> rfl
   have hlt2:i + 1≤549755813888:=by omega
   have hs22:=fun f=>z1069 (n:=22) (L:=114) (by decide) i f
   have hs24:=fun f=>z1069 (n:=24) (L:=114) (by decide) i f
   have hk24:=z1173 (n:=24) (L:=114) (by decide) i
   have hmv:(nm 114 i++[[AV.own 22]]).map (fun r=>r.map (AV.mapN (mv 22 (i + 114))))=nm 114 (i + 1):=by
    rw [List.map_append,z1310 (by decide),← z1216]
    rfl
   repeat (first|refine nx ?_|(refine z3 fun K hK=>?_;simp only [go_sem];apply hK;clear hK K))
   refine z492 [6,0] fun K hK=>?_
   simp only [go_sem,runX,List.take_succ_cons,List.take_zero,List.drop_succ_cons,List.drop_zero]
   refine⟨_,.lentS (hdst:=rfl) (hf:=h29) (hd:=rfl) (hr:=by first | exact z89 _ | exact rowsFlat_hour _ | exact rowsFlat_sight _ | exact rowsFlat_sky _ | exact rowsFlat_span _ | exact rowsFlat_bool _) (hfr:=rfl),?_⟩
   simp only [go_sem]
   have hlt3:i≤549755813887:=by omega
   simp only [go_sem,e3,hh2,hlt2,hlt3,true_and,hlt,hs22,hs24,hk24,z195,z321,List.nil_append,List.length_nil,List.length_cons,Nat.zero_add]
   apply hK
   clear hK K
   repeat refine nx ?_
   refine z757 22 (i + 114) ?_ _ rfl ?_
   ·simp only [go_sem,z45,List.length_map,z126]
   simp only [go_sem,hmv,z1114]
   have gm:=z691 (L:=114) (show i<i + 1 by omega)
   have ga:(arrs 3 1 ((zeroT m i).map intRows)++[some (Blk.arr 3 1 (intRows (List.replicate m (1099511627776:Int))))])[i]?=some (some (Blk.arr 3 1 (intRows (List.replicate m (1099511627776:Int))))):=by
    rw [List.getElem?_append_right (by simp [z45,z126])]
    simp [z45,z126]
   have hset:(arrs 3 1 ((zeroT m i).map intRows)++[some (Blk.arr 3 1 (intRows (List.replicate m (1099511627776:Int))))]).set i (some (Blk.arr 3 1 (intRows ((List.replicate m (1099511627776:Int)).set i 0))))=arrs 3 1 ((zeroT m (i + 1)).map intRows):=by
    rw [List.set_append_right _ _ (by simp [z45,z126]),z926,List.map_append,← z1117 m i]
    simp [z45,z126,z1113,farW]
   have hii:i<i + 1:=Nat.lt_succ_self i
   have hgi:(intRows (List.replicate m (1099511627776:Int)))[i]?=some [.i 1099511627776]:=z81 (by simp [hlt])
   repeat (first|refine nx ?_|(refine z3 fun K hK=>?_;simp only [go_sem,gm,ga,hgi,z195,hlt,hln,z48,hset,hni,hii,hw];apply hK;clear hK K))
   refine⟨rfl,i + 1,?_,hlt,by omega⟩
   refine z56 [] ?_ ?_ rfl ?_
   ·simp [lessT,AV.less]
   ·simp [lessT,lessM,lessB,AV.less,z53]
   ·simp only [liveM,z34,Bool.and_true]
    exact z149 (by simp [z45,z126]) (z98 3 1 _)
  ·have he:i=m:=by (have:¬ i<m:=by simpa using hb);omega
   subst he
   repeat (first|refine z100 ?_|refine z62 ?_|refine z102 ?_|refine z4 ?_)
   refine z25 ?_
   refine z306 (kt:=3) (et:=26) (L:=114) (fun _=>[(3,.own 24),(6,.undef)]) (fun _=>[(24,some (.arrA 36 1 (nm 114 i)))]) (fun F=>arrs 3 1 ((matM i F).map intRows)) (fun seen F=>F=(atsL (canL n p) seen).foldl (relaxM p) zeroM) none ks vs cl
    (show _=[_,_]++[_] from rfl) rfl rfl rfl rfl rfl rfl rfl rfl rfl (by kernel_rfl) (by kernel_rfl) (by decide) (by decide) (by decide) ?_ ?_ ?_ ?_ ?_ ?_ ?_
   ·intro j q hq
    rw [hks,List.getElem?_map,hent,z135] at hq
    simp only [Option.map_map,Option.map_eq_some_iff] at hq
    obtain⟨w,hw,rfl⟩:=hq
    rw [hcl]
    have:=(List.getElem?_eq_some_iff.1 hw).1
    simpa using this
   ·rw [hks,List.map_map,hent]
    have:(entsC p (canL n p) 0).map ((fun e:MK × Nat=>e.2) ∘ fun e:MK × DV × Nat=>(e.1,e.2.2))=List.range (canL n p).length:=by
     apply List.ext_getElem?
     intro j
     rw [List.getElem?_map,z135]
     by_cases hj:j<(canL n p).length
     ·simp [hj]
     ·simp [hj]
    rw [this]
    exact List.nodup_range
   ·intro j d hd
    rw [hvs,List.getElem?_map,hent,z135] at hd
    simp only [Option.map_map,Option.map_eq_some_iff] at hd
    obtain⟨w,hw,rfl⟩:=hd
    rfl
   ·intro K hK
    simp only [go_sem]
    refine hK _ ⟨rfl,zeroM,?_,rfl⟩
    simp only [go_sem]
    refine z56 [] ?_ ?_ rfl ?_
    ·simp [lessT,AV.less]
    ·simp [lessT,lessM,lessB,AV.less,z53,z1021]
    ·simp only [liveM,z34,Bool.and_true]
     exact z149 (by simp [z45,z52]) (z98 3 1 _)
   ·simp only [go_sem]
   ·rintro seen F j key val hF hk hv hs r J2 hIt
    obtain⟨w,hw,rfl,rfl⟩:∃ w,(canL n p)[j]?=some w∧key=(.i w.1,j)∧val=.agg (spanW w.2 p).row:=by
     rw [hks,List.getElem?_map,hent,z135] at hk
     rw [hvs,List.getElem?_map,hent,z135] at hv
     simp only [Option.map_map,Option.map_eq_some_iff] at hk hv
     obtain⟨w,hw,rfl⟩:=hk
     obtain⟨w',hw',rfl⟩:=hv
     rw [hw] at hw';cases hw'
     exact⟨w,hw,rfl,rfl⟩
    obtain⟨hwl,hwp,hwg⟩:=z192 (List.mem_of_getElem? hw)
    have hym:=List.mem_of_getElem? hwp
    simp only [go_sem]
    refine z33 ?_
    refine z25 ?_
    refine z493 hIt rfl rfl rfl rfl rfl rfl fun K hK=>?_
    simp only [go_sem,keyD,Span.row]
    apply hK
    clear hK K
    have hpg:=hg.path _ hym
    obtain⟨a,ha⟩:∃ a:Nat,w.2.frm=a:=⟨w.2.frm.toNat,by have:=hpg.frm;omega⟩
    obtain⟨b,hb⟩:∃ b:Nat,w.2.to=b:=⟨w.2.to.toNat,by have:=hpg.to;omega⟩
    have hal:a<i:=by have:=hpg.frm;omega
    have hbl:b<i:=by have:=hpg.to;omega
    have na:¬ ((a:Int)<0):=by omega
    have nb:¬ ((b:Int)<0):=by omega
    have gm:=z691 (L:=114) hal
    have ga:(arrs 3 1 ((matM i F).map intRows))[a]?=some (some (.arr 3 1 (intRows (rowM i F a)))):=z299 (by simp [z96 hal])
    have gc:=z81 (z86 (F:=F) (a:=a) hbl)
    have hln:(intRows (rowM i F a)).length=i:=by rw [z16,z143]
    have hset:∀ v,(arrs 3 1 ((matM i F).map intRows)).set a (some (.arr 3 1 (intRows ((rowM i F a).set b v))))=arrs 3 1 ((matM i (updM F a b v)).map intRows):=fun v=>by rw [z921,← List.map_set,z544]
    have hwl2:w.1<n.paths.length:=hwl
    have hgp:(n.paths.map Path.row)[w.1]?=some w.2.row:=by rw [List.getElem?_map,hwp];rfl
    rw [Path.row,ha,hb] at hgp
    refine z25 ?_
    refine z8 (by kernel_rfl) (by kernel_rfl) fun K hK=>?_
    simp only [go_sem,z195,hal,hbl,na,nb,gm,ga,hln,hgp,hwl2,List.length_map]
    refine⟨by kernel_rfl,hK _ ?_⟩
    clear hK K
    refine z8 (by kernel_rfl) (by kernel_rfl) fun K hK=>?_
    simp only [go_sem,z195,hal,hbl,na,nb,gm,ga,gc,hln,z48]
    refine⟨by kernel_rfl,hK _ ?_⟩
    clear hK K
    simp only [go_sem,hset]
    repeat (first|refine z25 ?_|refine z36 ?_|refine z7 ?_|refine z210 ?_|refine z100 ?_|refine z62 ?_|refine z123 rfl ?_|refine z110 ?_|refine z55 ?_|refine z129 ?_|refine z102 ?_|refine z4 ?_)
    refine⟨rfl,rfl,relaxM p F w,?_,?_⟩
    ·have hr:relaxM p F w=updM F a b (min (F a b) (spanW w.2 p).hi):=by rw [relaxM,ha,hb];rfl
     rw [hr]
     refine z56 [] ?_ ?_ rfl ?_
     ·simp [lessT,AV.less]
     ·simp [lessT,lessM,lessB,AV.less,z53]
     ·simp only [liveM,z34,Bool.and_true]
      exact z149 (by simp [z45,z52]) (z98 3 1 _)
    ·rw [hF];simp [atsL,List.filterMap_append,List.foldl_append,hw]
   ·rintro seen F hF hall hnd
    have hFe:F=(canL n p).foldl (relaxM p) zeroM:=by
     rw [hF]
     refine List.Perm.foldl_eq' (z1197 (fun q hq=>hall q ?_) hnd) (fun x _ y _ z=>z860 p z x y) _
     rw [hks,hent]
     simpa [z730] using hq
    clear hF hall hnd
    simp only [go_sem]
    repeat (first|refine z25 ?_|refine z36 ?_|refine z7 ?_|refine z210 ?_|refine z100 ?_|refine z62 ?_|refine z123 rfl ?_|refine z110 ?_|refine z55 ?_|refine z129 ?_|refine z102 ?_|refine z4 ?_)
    repeat (first|refine nx ?_|(refine z3 fun K hK=>?_;simp only [go_sem,z195];apply hK;clear hK K))
    refine z142 114 (fun (a:Nat × Mat)=>[(68,.d (.i (a.1:Nat))),(3,.own 24)]) (fun _=>[(24,some (.arrA 36 1 (nm 114 i)))]) (fun a=>arrs 3 1 ((matM i a.2).map intRows)) (fun a=>a.1≤i∧a.2=(List.range a.1).foldl (stepV i) F) (fun a=>i - a.1) (0,F) ?_ ⟨Nat.zero_le _,rfl⟩ ?_
    ·simp only [go_sem]
     refine z56 [] ?_ ?_ rfl ?_
     ·simp [lessT,AV.less]
     ·simp [lessT,lessM,lessB,AV.less,z53]
     ·simp only [liveM,z34,Bool.and_true]
      exact z149 (by simp [z45,z52]) (z98 3 1 _)
    ·rintro⟨v,G⟩ ⟨hvi,hG⟩
     dsimp only at hvi hG
     simp only [go_sem]
     repeat (first|refine nx ?_|(refine z3 fun K hK=>?_;simp only [go_sem];apply hK;clear hK K))
     refine z6 rfl (fun hb=>?_) (fun hb=>?_)
     ·have hvl:v<i:=by simpa using hb
      have hwv:IntKind.i64.wrap ((v:Int) + 1)=((v + 1:Nat):Int):=by rw [z10 (by omega)];simp
      repeat (first|refine nx ?_|(refine z3 fun K hK=>?_;simp only [go_sem,z195];apply hK;clear hK K))
      refine z142 114 (fun (a:Nat × Mat)=>[(73,.d (.i (a.1:Nat)))]) (fun _=>[]) (fun a=>arrs 3 1 ((matM i a.2).map intRows)) (fun a=>a.1≤i∧a.2=(List.range a.1).foldl (stepA i v) G) (fun a=>i - a.1) (0,G) ?_ ⟨Nat.zero_le _,rfl⟩ ?_
      ·simp only [go_sem]
       refine z56 [] ?_ ?_ rfl ?_
       ·simp [lessT,AV.less]
       ·simp [lessT,lessM,lessB,AV.less,z53]
       ·simp only [liveM,z34,Bool.and_true]
        exact z149 (by simp [z45,z52]) (z98 3 1 _)
      ·rintro⟨a,H⟩ ⟨hai,hH⟩
       dsimp only at hai hH
       simp only [go_sem]
       repeat (first|refine nx ?_|(refine z3 fun K hK=>?_;simp only [go_sem];apply hK;clear hK K))
       refine z6 rfl (fun hb=>?_) (fun hb=>?_)
       ·have hal:a<i:=by simpa using hb
        have hwa:IntKind.i64.wrap ((a:Int) + 1)=((a + 1:Nat):Int):=by rw [z10 (by omega)];simp
        repeat (first|refine nx ?_|(refine z3 fun K hK=>?_;simp only [go_sem,z195];apply hK;clear hK K))
        refine z142 114 (fun (b:Nat × Mat)=>[(78,.d (.i (b.1:Nat)))]) (fun _=>[]) (fun b=>arrs 3 1 ((matM i b.2).map intRows)) (fun b=>b.1≤i∧b.2=(List.range b.1).foldl (fun F b=>viaM v F a b) H) (fun b=>i - b.1) (0,H) ?_ ⟨Nat.zero_le _,rfl⟩ ?_
        ·simp only [go_sem]
         refine z56 [] ?_ ?_ rfl ?_
         ·simp [lessT,AV.less]
         ·simp [lessT,lessM,lessB,AV.less,z53]
         ·simp only [liveM,z34,Bool.and_true]
          exact z149 (by simp [z45,z52]) (z98 3 1 _)
        ·rintro⟨b,M⟩ ⟨hbi,hM⟩
         dsimp only at hbi hM
         simp only [go_sem]
         repeat (first|refine nx ?_|(refine z3 fun K hK=>?_;simp only [go_sem];apply hK;clear hK K))
         refine z6 rfl (fun hb=>?_) (fun hb=>?_)
         ·have hbl:b<i:=by simpa using hb
          have hwb:IntKind.i64.wrap ((b:Int) + 1)=((b + 1:Nat):Int):=by rw [z10 (by omega)];simp
          have na:¬ ((a:Int)<0):=by omega
          have nb:¬ ((b:Int)<0):=by omega
          have nv:¬ ((v:Int)<0):=by omega
          have gma:=z691 (L:=114) hal
          have gmv:=z691 (L:=114) hvl
          have ga:(arrs 3 1 ((matM i M).map intRows))[a]?=some (some (.arr 3 1 (intRows (rowM i M a)))):=z299 (by simp [z96 hal])
          have gv:(arrs 3 1 ((matM i M).map intRows))[v]?=some (some (.arr 3 1 (intRows (rowM i M v)))):=z299 (by simp [z96 hvl])
          have gab:=z81 (z86 (F:=M) (a:=a) hbl)
          have gav:=z81 (z86 (F:=M) (a:=a) hvl)
          have gvb:=z81 (z86 (F:=M) (a:=v) hbl)
          have hln:∀ q,(intRows (rowM i M q)).length=i:=fun q=>by rw [z16,z143]
          have hset:∀ u,(arrs 3 1 ((matM i M).map intRows)).set a (some (.arr 3 1 (intRows ((rowM i M a).set b u))))=arrs 3 1 ((matM i (updM M a b u)).map intRows):=fun u=>by rw [z921,← List.map_set,z544]
          repeat (first|refine nx ?_|(refine z3 fun K hK=>?_;simp only [go_sem];apply hK;clear hK K))
          refine z8 (by kernel_rfl) (by kernel_rfl) fun K hK=>?_
          simp only [go_sem,z195,hal,hbl,hvl,na,nb,nv,gma,gmv,ga,gv,gab,gav,gvb,hln,z48]
          refine⟨by kernel_rfl,hK _ ?_⟩
          clear hK K
          simp only [go_sem,hset]
          repeat (first|refine nx ?_|(refine z3 fun K hK=>?_;simp only [go_sem,hwb];apply hK;clear hK K))
          refine⟨rfl,(b + 1,viaM v M a b),?_,⟨hbl,by rw [z349,← hM]⟩,by dsimp only;omega⟩
          rw [viaM]
          refine z56 [] ?_ ?_ rfl ?_
          ·simp [lessT,AV.less]
          ·simp [lessT,lessM,lessB,AV.less,z53]
          ·simp only [liveM,z34,Bool.and_true]
           exact z149 (by simp [z45,z52]) (z98 3 1 _)
         ·have he:b=i:=by (have:¬ b<i:=by simpa using hb);omega
          subst he
          repeat (first|refine nx ?_|(refine z3 fun K hK=>?_;simp only [go_sem,hwa];apply hK;clear hK K))
          refine⟨rfl,(a + 1,M),?_,⟨hal,by rw [z349,← hH,hM];rfl⟩,by dsimp only;omega⟩
          refine z56 [] ?_ ?_ rfl ?_
          ·simp [lessT,AV.less]
          ·simp [lessT,lessM,lessB,AV.less,z53]
          ·simp only [liveM,z34,Bool.and_true]
           exact z149 (by simp [z45,z52]) (z98 3 1 _)
       ·have he:a=i:=by (have:¬ a<i:=by simpa using hb);omega
        subst he
        repeat (first|refine nx ?_|(refine z3 fun K hK=>?_;simp only [go_sem,hwv];apply hK;clear hK K))
        refine⟨rfl,(v + 1,H),?_,⟨hvl,by rw [z349,← hG,hH];rfl⟩,by dsimp only;omega⟩
        refine z56 [] ?_ ?_ rfl ?_
        ·simp [lessT,AV.less]
        ·simp [lessT,lessM,lessB,AV.less,z53]
        ·simp only [liveM,z34,Bool.and_true]
         exact z149 (by simp [z45,z52]) (z98 3 1 _)
     ·have he:v=i:=by (have:¬ v<i:=by simpa using hb);omega
      subst he
      have hGe:allM n p=G:=by rw [z1241 n p htn,← hFe,hG]
      rw [hGe]
      repeat (first|refine z100 ?_|refine z62 ?_|refine z102 ?_|refine z4 ?_)
      refine z931 (L:=114) (d:=24) (e:=36) (e1:=3) (z1:=1) ((matM v G).map intRows) (by decide) (by simp) (by rw [List.length_map,z52];rfl) (fun j r hj=>by
       simp only [List.getElem?_cons_succ]
       exact z299 hj) ?_
      have hfr:flatRows ((matM v G).map intRows)=slRows (matM v G):=by simp [flatRows,slRows]
      simp only [go_sem,hfr,List.take_succ_cons,List.take_zero,List.map_cons,List.map_nil]
      repeat (first|refine nx ?_|(refine z3 fun K hK=>?_;simp only [go_sem];apply hK;clear hK K))
      simp only [go_sem]
end Go.Ab
namespace Go.Ab
open Go.RowKit Go.Proofs
set_option maxHeartbeats 16000000
set_option maxRecDepth 20000
attribute [local irreducible] WalkL Walk
def badWay (n:Net) (a b:Int):Bool:=!withinB a 0 (n.places - 1) || !withinB b 0 (n.places - 1)
def wayF (n:Net) (p:Party) (a b:Int):Int × Int :=
 if checkPartyF n p≠0 then (0,checkPartyF n p) else if badWay n a b then (0,1)
 else if allM n p a.toNat b.toNat<farW then (allM n p a.toNat b.toNat,0) else (0,3)
theorem z853 {M:List (List Int)} {i:Nat} {r:List Int} (h:M[i]?=some r):(slRows M)[i]?=some [.sl (intRows r)]:=by simp [slRows,h]
end Go.Ab
namespace Go.Ab
open Go.RowKit Go.Proofs
set_option maxHeartbeats 8000000
set_option maxRecDepth 20000
attribute [local irreducible] WalkL Walk
structure SpotT where
 pl:Int
 wt:Int
 se:Int
def SpotT.row (s:SpotT):List DV:=[.i s.pl,.i s.wt,.i s.se]
def spotAt (S:List SpotT) (i:Nat):SpotT:=S.getD i ⟨0,0,0⟩
theorem z242 {S:List SpotT} {i:Nat} (h:i<S.length):S[i]?=some (spotAt S i):=by
 rw [spotAt,List.getD_eq_getElem?_getD,List.getElem?_eq_getElem h];rfl
structure SpotsOk (m:Nat) (S:List SpotT):Prop where
 len:S.length≤5
 pl:∀ s ∈ S,0≤s.pl∧s.pl<m
def rescC (A B C:DV) (m:Nat) (F:Mat) (S:List SpotT):List DV:=[A,B,C,.sl (slRows (matM m F)),.sl (S.map SpotT.row)]
def minW (F:Mat) (S:List SpotT) (from0:Nat) (i:Nat):Int:=wr (F from0 (spotAt S i).pl.toNat + (spotAt S i).se)
def weightW (S:List SpotT) (s:Nat):Int:=(elems s).foldl (fun a i=>wr (a + (spotAt S i).wt)) 0
theorem z1348 (A B C:DV) (m:Nat) (F:Mat) (S:List SpotT) (hS:SpotsOk m S) (p i:Nat) (hp:p<m) (hi:i<S.length) :
  Fn Tryd.prog 71 [.ptr (rescC A B C m F S) 0,.i (p:Int),.i (i:Int)] (.i (minW F S p i)):=by
 obtain⟨s,hs⟩:∃ s,s=spotAt S i:=⟨_,rfl⟩
 have hsi:S[i]?=some s:=by rw [hs];exact z242 hi
 obtain⟨q,hq⟩:∃ q:Nat,s.pl=q:=⟨s.pl.toNat,by have:=(hS.pl s (List.mem_of_getElem? hsi)).1;omega⟩
 have hqm:q<m:=by have:=(hS.pl s (List.mem_of_getElem? hsi)).2;omega
 have g0:(S.map SpotT.row)[i]?=some [.i (q:Int),.i s.wt,.i s.se]:=by rw [List.getElem?_map,hsi,← hq];rfl
 have g1:=z853 (z96 (F:=F) hp)
 have g2:=z81 (z86 (F:=F) (a:=p) hqm)
 have l1:p<(slRows (matM m F)).length:=by simp [slRows,z52];omega
 have l2:q<(intRows (rowM m F p)).length:=by rw [z16,z143];exact hqm
 have l3:i<(S.map SpotT.row).length:=by simpa using hi
 have n1:¬ ((p:Int)<0):=by omega
 have n2:¬ ((q:Int)<0):=by omega
 have n3:¬ ((i:Int)<0):=by omega
 rw [minW,← hs,hq,Int.toNat_natCast]
 refine z11 33 Tryd.call71 Tryd.func71 rfl (by decide) fun J=>?_
 simp only [go_sem,St.start,Tryd.ntmps71,Tryd.results71,rescC]
 repeat (first|refine nx ?_|(refine z3 fun K hK=>?_;simp only [go_sem];apply hK;clear hK K))
 refine z8 (by kernel_rfl) (by kernel_rfl) fun K hK=>?_
 simp only [go_sem,g0,g1,g2,l1,l2,l3,n1,n2,n3]
 refine⟨by kernel_rfl,hK _ ?_⟩
 clear hK K
 repeat (first|refine nx ?_|(refine z3 fun K hK=>?_;simp only [go_sem];apply hK;clear hK K))
 simp only [go_sem]
theorem z1347 (A B C:DV) (m:Nat) (F:Mat) (S:List SpotT) (s:Nat) (hs:s<32) (hS:∀ i ∈ elems s,i<S.length) :
  Fn Tryd.prog 72 [.ptr (rescC A B C m F S) 0,uD s] (.i (weightW S s)):=by
 have h70:=z1330 s
 have hit:=z1199 s hs
 rw [weightW]
 obtain⟨N,hN⟩:∃ N,N=elems s:=⟨_,rfl⟩
 rw [elRows,← hN] at hit
 rw [← hN] at hS ⊢
 obtain⟨stp,hstp⟩:∃ stp,stp=fun (a:Int) (i:Nat)=>wr (a + (spotAt S i).wt):=⟨_,rfl⟩
 rw [← hstp]
 simp only [uD] at h70 hit ⊢
 refine z11 20 Tryd.call72 Tryd.func72 rfl (by decide) fun J=>?_
 simp only [go_sem,St.start,Tryd.ntmps72,Tryd.results72,rescC]
 repeat (first|refine nx ?_|(refine z3 fun K hK=>?_;simp only [go_sem];apply hK;clear hK K))
 refine z3 fun K hK=>?_
 simp only [go_sem]
 refine⟨_,.made (news:=[7]) (hf:=h70) (hd:=rfl) (hn:=by decide) (hl:=rfl) (hnew:=rfl) (hx:=rfl),?_⟩
 simp only [go_sem,List.map_cons,List.map_nil]
 apply hK
 clear hK K
 refine z33 ?_
 refine z270 [7] (m0:=[.box [.d (.int .u64 (s:Int))]]) rfl (by decide) rfl hit (by intro row hr;obtain⟨w,_,rfl⟩:=List.mem_map.1 hr;rfl) (fun _=>[]) (fun (a:Int)=>[(4,some (.box [.d (.i a)]))])
  (fun j a=>a=(N.take j).foldl stp 0) (fun _ _=>False) 0 ?_ rfl ?_ ?_ (fun _ _ h=>h.elim)
 ·simp only [go_sem]
  refine weA ?_ ?_ <;> simp
 ·rintro X0 W0 j a row hj ha l1 m1
  rw [List.getElem?_map,Option.map_eq_some_iff] at hj
  obtain⟨i,hi,rfl⟩:=hj
  have hil:=hS i (List.mem_of_getElem? hi)
  have g0:(S.map SpotT.row)[i]?=some [.i (spotAt S i).pl,.i (spotAt S i).wt,.i (spotAt S i).se]:=by rw [List.getElem?_map,z242 hil];rfl
  have l3:i<(S.map SpotT.row).length:=by simpa using hil
  have n3:¬ ((i:Int)<0):=by omega
  have hnx:(N.take (j + 1)).foldl stp 0=wr (a + (spotAt S i).wt):=by rw [z37 _ _ _ _ _ hi,← ha,hstp]
  simp only [go_sem]
  repeat (first|refine nx ?_|(refine z3 fun K hK=>?_;simp only [go_sem];apply hK;clear hK K))
  refine z8 (by kernel_rfl) (by kernel_rfl) fun K hK=>?_
  simp only [go_sem,g0,l3,n3]
  refine⟨by kernel_rfl,hK _ ?_⟩
  clear hK K
  repeat (first|refine nx ?_|(refine z3 fun K hK=>?_;simp only [go_sem];apply hK;clear hK K))
  refine⟨rfl,_,?_,hnx.symm⟩
  simp only [go_sem]
  refine weA ?_ ?_ <;> simp
 ·intro a ha
  rw [List.length_map,List.take_length] at ha
  rw [← ha]
  simp only [go_sem]
  repeat (first|refine nx ?_|(refine z3 fun K hK=>?_;simp only [go_sem];apply hK;clear hK K))
  simp only [go_sem]
end Go.Ab
/- An array that is built of its parts,within an undrawn region. -/
namespace Go.Ab
open Go.RowKit
def placesA (n:Nat):List (Nat × Nat × Bool):=(List.range n).map fun i=>(i,1,false)
def opBuildArr (P:Program) (t:TypeId) (parts:List (Nat × AV)):Option AV:=match tarr P t,tzero P t with
 | some n,some z=>match (constOf z).cells with
  | some zs=>match fillA (placesA n) zs parts with
   | some cs=>some (.agg cs)
   | none=>none
  | none=>none
 | _,_=>none
theorem z727 {g g':Nat→Option (Nat × Nat)} (h:∀ i x,g i=some x→g' i=some x):∀ (parts:List (Nat × Value)) (cells cs:Array Value),Instr.fill g cells parts=some cs→Instr.fill g' cells parts=some cs
 | [],_,_,hf=>by unfold Instr.fill at hf ⊢;exact hf
 | (i,v)::rest,cells,cs,hf=>by
  unfold Instr.fill at hf ⊢
  cases hg:g i with
  | none=>rw [hg] at hf;cases hf
  | some x =>
   obtain⟨off,size⟩:=x
   rw [hg] at hf
   rw [h i _ hg]
   dsimp only at hf ⊢
   split at hf
   ·cases hf
   ·rename_i hc
    rw [if_neg hc]
    exact z727 h rest _ _ hf
section
variable {P:Program} {base:Own} {out:Own} {r:AV} {st st':St} {μ:Pl} {tmps:Array Value} {w:World} {o:Oper}
theorem z871 (h:StRel P base out st μ tmps w) {t:TypeId} {parts:Array (Nat × Operand)} (ho:o.op=.build t parts)
  (hs:opBuildArr P t (parts.toList.map fun p=>(p.1,st.ev p.2))=some r):OpOK P base out μ o (st.put o.dst r) tmps w:=by
 unfold opBuildArr at hs
 split at hs
 ·rename_i n z hfs hz
  split at hs
  ·rename_i zs hzs
   split at hs
   ·rename_i cs hf
    cases hs
    have hrow:RowRel w (ownOf out μ) μ zs z.cells:=by
     obtain⟨h1,h2,_⟩:=z23 (z61 w (ownOf out μ) μ z) hzs
     exact⟨h1.symm,h2⟩
    obtain⟨vs,hfill,hr⟩:=z556 (w:=w) (μ:=μ) (own:=ownOf out μ) _ (parts.toList.map fun p=>(p.1,val tmps p.2)) zs z.cells cs (by simp)
     (fun i a x b v h1 h2=>by
      simp only [List.getElem?_map,Option.map_eq_some_iff,Prod.mk.injEq] at h1 h2
      obtain⟨p,hp,rfl,rfl⟩:=h1
      obtain⟨q,hq,rfl,rfl⟩:=h2
      rw [hp] at hq;cases hq
      exact⟨rfl,h.ev _ []⟩) hrow hf
    have hbuilt:P.built t (parts.toList.map fun p=>(p.1,val tmps p.2))=some vs:=by
     unfold tarr at hfs
     split at hfs
     ·rename_i n' e hds
      split at hfs
      ·rename_i hsz
       cases hfs
       obtain⟨i,hi,hiz⟩:=z127 hz
       unfold tsz at hsz
       obtain⟨ie,hie,hie1⟩:=Option.map_eq_some_iff.1 hsz
       unfold Program.built
       rw [hi,hds]
       simp only [hiz,hie]
       refine z727 (fun j x hj=>?_) _ _ _ hfill
       rw [hie1,Nat.mul_one]
       simp only [placesA,List.map_map,List.getElem?_toArray,List.getElem?_map,Option.map_eq_some_iff] at hj
       obtain⟨k,hk,rfl⟩:=hj
       obtain⟨hk1,rfl⟩:=List.getElem?_eq_some_iff.1 hk
       simp
      ·cases hfs
     ·cases hfs
    refine z47 h (v:=.agg vs) (.agg cs vs hr.1 hr.2) ?_
    unfold execOp
    have:=run_build (P:=P) w t (parts.map fun p=>(p.1,val tmps p.2)) vs (by simpa using hbuilt)
    simp only [val] at this
    simp [ho,this]
   ·cases hs
  ·cases hs
 ·cases hs
end
def stepArr (P:Program) (o:Oper) (s:St):Option St:=match o.op with
 | .build t parts=>match opBuildArr P t (parts.toList.map fun p=>(p.1,s.ev p.2)) with
  | some r=>some (s.put o.dst r)
  | none=>none
 | _=>none
theorem z981 {P:Program} {o:Oper} {s s':St} (h:stepArr P o s=some s'):XOk P o s s':=by
 unfold stepArr at h
 split at h
 ·rename_i t parts ho
  refine⟨fun c hc=>(by rw [ho] at hc;cases hc),fun base out μ tmps w hst=>?_⟩
  split at h
  ·rename_i r hr
   cases h
   exact z871 hst ho hr
  ·cases h
 ·cases h
def runArr (P:Program) (ops:Array Oper) (p:Nat) (os:List Oper) (s:St) (K:St→Prop):Prop:=runK P ops (os.take p) s fun s=>match os.drop p with
 | o::rest=>o.guard=none∧bindK (stepArr P o s) fun s1=>runK P ops rest s1 K
 | []=>False
theorem z983 {P:Program} {ops:Array Oper} (p:Nat) (os:List Oper) (s:St) (K:St→Prop) (h:runArr P ops p os s K):∃ s',SeqX P ops os s s'∧K s':=by
 obtain⟨s1,h1,h2⟩:=z95 _ _ _ h
 split at h2
 ·rename_i o rest hd
  obtain⟨hg,s2,h3,h4⟩:=h2
  obtain⟨s',h5,h6⟩:=z95 _ _ _ h4
  refine⟨s',?_,h6⟩
  have:=(SeqX.of h1).append (.made hg (z981 h3) (.of h5))
  rwa [← hd,List.take_append_drop] at this
 ·exact h2.elim
theorem z165 {P:Program} {rd:Option Nat} {n:Nat} {J:Env} {cs:List Code} {k:Option Nat} {st:St} {Q:Exit→Option Nat→St→Prop} {id:Nat} {ops:Array Oper} (p:Nat)
  (h:∀ K:St→Prop,(∀ s,WalkL P rd n J cs k s Q→K s)→runArr P ops p ops.toList st K):WalkL P rd n J (.region id ops false::cs) k st Q:=by
 obtain⟨s1,h1,h2⟩:=z983 p _ _ _ (h _ fun _ h=>h)
 exact z269 h1 h2
theorem z987:placesA 2=[(0,1,false),(1,1,false)]:=rfl
attribute [go_sem] z987 opBuildArr stepArr runArr
end Go.Ab
namespace Go.Ab
open Go.RowKit Go.Proofs
set_option maxHeartbeats 16000000
set_option maxRecDepth 20000
attribute [local irreducible] WalkL Walk
abbrev EntB:=(Nat × Nat) × (Int × Int) × Nat
abbrev MemB:=List EntB × Nat
def keyB (p s:Nat):MK:=.s [(.i64,(p:Int)),(.u64,(s:Int))]
def costD (v:Int × Int):DV:=.agg [.i v.1,.i v.2]
def memB (es:List EntB):List (MK × DV × Nat):=es.map fun e=>(keyB e.1.1 e.1.2,costD e.2.1,e.2.2)
def lookB:List EntB→Nat × Nat→Nat→Option (Nat × (Int × Int) × Nat)
 | [],_,_=>none
 | e::es,k,i=>if k=e.1 then some (i,e.2.1,e.2.2) else lookB es k (i + 1)
def putB:List EntB→Nat × Nat→Int × Int→Nat→List EntB × Nat
 | [],k,w,c=>([(k,w,c)],c + 1)
 | e::es,k,w,c=>if k=e.1 then ((k,w,e.2.2)::es,c) else (e::(putB es k w c).1,(putB es k w c).2)
theorem z1224 (a b c d:Nat):(keyB a b=keyB c d)=((a,b)=(c,d)):=by simp [keyB];omega
theorem z260:∀ (es:List EntB) (k:Nat × Nat) (i:Nat),findE (memB es) (keyB k.1 k.2) i=(lookB es k i).map fun p=>(p.1,costD p.2.1,p.2.2)
 | [],_,_=>rfl
 | e::es,k,i=>by
  have ih:=z260 es k (i + 1)
  rw [memB,List.map_cons,findE,lookB]
  by_cases h:k=e.1
  ·rw [if_pos h,if_pos (by rw [h])];rfl
  ·rw [if_neg h,if_neg (by rw [z1224];exact h)];exact ih
theorem z677:∀ {es:List EntB} {k:Nat × Nat} {i:Nat} {j:Nat} {v:Int × Int} {bn:Nat} (w:Int × Int) (c:Nat),lookB es k i=some (j,v,bn)→i≤j∧putB es k w c=(es.set (j - i) (k,w,bn),c)
 | [],_,_,_,_,_,_,_,h=>by simp [lookB] at h
 | e::es,k,i,j,v,bn,w,c,h=>by
  rw [lookB] at h
  rw [putB]
  by_cases hk:k=e.1
  ·rw [if_pos hk] at h ⊢
   cases h
   exact⟨Nat.le_refl _,by rw [Nat.sub_self];rfl⟩
  ·rw [if_neg hk] at h ⊢
   obtain⟨h1,h2⟩:=z677 w c h
   refine⟨by omega,?_⟩
   rw [h2,show j - i=(j - (i + 1)) + 1 by omega]
   rfl
theorem z678:∀ {es:List EntB} {k:Nat × Nat} {i:Nat} (w:Int × Int) (c:Nat),lookB es k i=none→putB es k w c=(es++[(k,w,c)],c + 1)
 | [],_,_,_,_,_=>rfl
 | e::es,k,i,w,c,h=>by
  rw [lookB] at h
  rw [putB]
  by_cases hk:k=e.1
  ·rw [if_pos hk] at h;cases h
  ·rw [if_neg hk] at h ⊢
   rw [z678 w c h]
   rfl
theorem z1161 (es:List EntB) (j:Nat) (a:Nat × Nat) (w:Int × Int) (bn:Nat):memB (es.set j (a,w,bn))=(memB es).set j (keyB a.1 a.2,costD w,bn):=by simp [memB,List.map_set]
theorem z1075 (es:List EntB) (a:Nat × Nat) (w:Int × Int) (bn:Nat):memB (es++[(a,w,bn)])=memB es++[(keyB a.1 a.2,costD w,bn)]:=by simp [memB]
def pickB (n:Int) (i:Nat) (b:Int × Int):Int × Int:=if n<b.1 then (n,(i:Int)) else b
def nextP (S:List SpotT) (i:Nat):Nat:=(spotAt S i).pl.toNat
def stepB (F:Mat) (S:List SpotT) (rec:Nat→Nat→MemB→(Int × Int) × MemB) (p s:Nat) (a:(Int × Int) × MemB) (i:Nat):(Int × Int) × MemB :=
 if minW F S p i ≥ farW then a else
  (pickB (wr (wr (minW F S p i * weightW S s) + (rec (nextP S i) (s - 2 ^ i) a.2).1.1)) i a.1,(rec (nextP S i) (s - 2 ^ i) a.2).2)
def roundB (F:Mat) (S:List SpotT) (rec:Nat→Nat→MemB→(Int × Int) × MemB) (p s:Nat) (m:MemB):(Int × Int) × MemB:=(elems s).foldl (stepB F S rec p s) ((farW,-1),m)
def bestM (F:Mat) (S:List SpotT):Nat→Nat→Nat→MemB→(Int × Int) × MemB
 | 0,_,_,m=>((0,-1),m)
 | f + 1,p,s,m=>if s=0 then ((0,-1),m) else match lookB m.1 (p,s) 0 with
  | some (_,v,_)=>(v,m)
  | none=>((roundB F S (bestM F S f) p s m).1,putB (roundB F S (bestM F S f) p s m).2.1 (p,s) (roundB F S (bestM F S f) p s m).1 (roundB F S (bestM F S f) p s m).2.2)
theorem z920:∀ s:Nat,s<32→∀ i:Nat,i<5→i ∈ elems s→bAndNot .u64 (s:Int) (bShl .u64 1 (i:Int))=((s - 2 ^ i:Nat):Int):=by decide +kernel
theorem z1014:∀ s:Nat,s<32→∀ i:Nat,i<5→i ∈ elems s→(s - 2 ^ i)<32∧(elems (s - 2 ^ i)).length + 1=(elems s).length∧((elems (s - 2 ^ i)).all fun j=>(elems s).contains j)=true:=by decide +kernel
theorem z732 {s i:Nat} (hs:s<32) (hi:i ∈ elems s):(s - 2 ^ i)<32∧(elems (s - 2 ^ i)).length + 1=(elems s).length∧∀ j ∈ elems (s - 2 ^ i),j ∈ elems s:=by
 obtain⟨h1,h2,h3⟩:=z1014 s hs i (z557 hi) hi
 exact⟨h1,h2,fun j hj=>by simpa using List.all_eq_true.1 h3 j hj⟩
theorem z1101:∀ s:Nat,s<32→(elems s).length=0→s=0:=by decide +kernel
theorem z1334 (A B C:DV) (m:Nat) (F:Mat) (S:List SpotT) (hS:SpotsOk m S):∀ (f s p:Nat) (M:MemB),s<32→(elems s).length≤f→(∀ i ∈ elems s,i<S.length)→p<m →
  FnG Tryd.prog 55 [.mp (some [.i64,.u64]) (memB M.1) M.2] [0] [.agg [.d (.ptr (rescC A B C m F S) 0),.mp 0],.d (.i (p:Int)),.d (uD s)] (.tup [.d (.i (bestM F S f p s M).1.1),.d (.i (bestM F S f p s M).1.2)])
   [.mp (some [.i64,.u64]) (memB (bestM F S f p s M).2.1) (bestM F S f p s M).2.2]:=by
 intro f
 induction f with
 | zero =>
  intro s p M hs hf hi hp
  have h0:s=0:=z1101 s hs (by omega)
  subst h0
  rw [bestM]
  dsimp only
  refine z35 81 Tryd.call55 Tryd.func55 rfl (by decide) [] [(0,0)] (by simp only [List.length_cons,List.length_nil];decide) (by kernel_rfl) fun J=>?_
  simp only [go_sem,St.startG,Tryd.ntmps55,Tryd.results55,List.map_cons,List.map_nil,List.range_succ,  rescC,uD]
  repeat (first|refine nx ?_|(refine z3 fun K hK=>?_;simp only [go_sem];apply hK;clear hK K))
  refine z9 (by rfl) ?_
  repeat (first|refine nx ?_|(refine z3 fun K hK=>?_;simp only [go_sem];apply hK;clear hK K))
  simp only [go_sem]
 | succ f ih =>
  intro s p M hs hf hi hp
  by_cases h0:s=0
  ·subst h0
   rw [bestM,if_pos rfl]
   dsimp only
   refine z35 81 Tryd.call55 Tryd.func55 rfl (by decide) [] [(0,0)] (by simp only [List.length_cons,List.length_nil];decide) (by kernel_rfl) fun J=>?_
   simp only [go_sem,St.startG,Tryd.ntmps55,Tryd.results55,List.map_cons,List.map_nil,List.range_succ,  rescC,uD]
   repeat (first|refine nx ?_|(refine z3 fun K hK=>?_;simp only [go_sem];apply hK;clear hK K))
   refine z9 (by rfl) ?_
   repeat (first|refine nx ?_|(refine z3 fun K hK=>?_;simp only [go_sem];apply hK;clear hK K))
   simp only [go_sem]
  ·obtain⟨es,c⟩:=M
   have q0:((s:Int) == 0)=false:=by simp;omega
   have e1:=z260 es (p,s) 0
   rw [bestM,if_neg h0]
   dsimp only at e1 ⊢
   cases hlk:lookB es (p,s) 0 with
   | some w =>
    obtain⟨j,⟨v1,v2⟩,bn⟩:=w
    rw [hlk] at e1
    dsimp only [Option.map_some,costD,keyB] at e1 ⊢
    refine z35 81 Tryd.call55 Tryd.func55 rfl (by decide) [] [(0,0)] (by simp only [List.length_cons,List.length_nil];decide) (by kernel_rfl) fun J=>?_
    simp only [go_sem,St.startG,Tryd.ntmps55,Tryd.results55,List.map_cons,List.map_nil,List.range_succ,  rescC,uD]
    repeat (first|refine nx ?_|(refine z3 fun K hK=>?_;simp only [go_sem,q0];apply hK;clear hK K))
    refine z5 rfl ?_
    repeat (first|refine nx ?_|(refine z3 fun K hK=>?_;simp only [go_sem,e1];apply hK;clear hK K))
    refine z9 rfl ?_
    repeat (first|refine nx ?_|(refine z3 fun K hK=>?_;simp only [go_sem];apply hK;clear hK K)|(refine z8 (by kernel_rfl) (by kernel_rfl) fun K hK=>?_;simp only [go_sem];refine⟨by kernel_rfl,hK _ ?_⟩;clear hK K))
    simp only [go_sem]
   | none =>
    rw [hlk] at e1
    dsimp only [Option.map_none,keyB] at e1 ⊢
    have h70:=z1330 s
    have hit:=z1199 s hs
    rw [roundB]
    obtain⟨stp,hstp⟩:∃ stp,stp=stepB F S (bestM F S f) p s:=⟨_,rfl⟩
    rw [← hstp]
    obtain⟨N,hN⟩:∃ N,N=elems s:=⟨_,rfl⟩
    rw [elRows,← hN] at hit
    rw [← hN] at hi ⊢
    have h71:=fun i=>z1348 A B C m F S hS p i hp
    have h72:=z1347 A B C m F S s hs (by rw [← hN];exact hi)
    simp only [uD,rescC] at h70 hit h71 h72 ih
    refine z35 81 Tryd.call55 Tryd.func55 rfl (by decide) [] [(0,0)] (by simp only [List.length_cons,List.length_nil];decide) (by kernel_rfl) fun J=>?_
    simp only [go_sem,St.startG,Tryd.ntmps55,Tryd.results55,List.map_cons,List.map_nil,List.range_succ,  rescC,uD]
    repeat (first|refine nx ?_|(refine z3 fun K hK=>?_;simp only [go_sem,q0];apply hK;clear hK K))
    refine z5 rfl ?_
    repeat (first|refine nx ?_|(refine z3 fun K hK=>?_;simp only [go_sem,e1];apply hK;clear hK K))
    refine z5 rfl ?_
    repeat (first|refine nx ?_|(refine z3 fun K hK=>?_;simp only [go_sem];apply hK;clear hK K))
    refine z3 fun K hK=>?_
    simp only [go_sem]
    refine⟨_,.made (news:=[33]) (hf:=h70) (hd:=rfl) (hn:=by decide) (hl:=rfl) (hnew:=rfl) (hx:=rfl),?_⟩
    simp only [go_sem,List.map_cons,List.map_nil]
    apply hK
    clear hK K
    refine z33 ?_
    refine z270 [33] (m0:=[.box [.d (.int .u64 (s:Int))]]) rfl (by decide) rfl hit (by intro row hr;obtain⟨w,_,rfl⟩:=List.mem_map.1 hr;rfl) (fun _=>[])
     (fun (a:(Int × Int) × MemB)=>[(6,some (.box [.d (.i a.1.1)])),(7,some (.box [.d (.i a.1.2)])),(81,some (.mp (some [.i64,.u64]) (memB a.2.1) a.2.2))])
     (fun j a=>a=(N.take j).foldl stp ((farW,-1),(es,c))) (fun _ _=>False) ((farW,-1),(es,c)) ?_ rfl ?_ ?_ (fun _ _ h=>h.elim)
    ·simp only [go_sem,farW]
     refine weA ?_ ?_ <;> simp
    ·rintro X0 W0 j ⟨⟨bc,bi⟩,es1,c1⟩ row hj ha l1 m1
     rw [List.getElem?_map,Option.map_eq_some_iff] at hj
     obtain⟨i,hi2,rfl⟩:=hj
     have him:=List.mem_of_getElem? hi2
     have hil:=hi i him
     have h71i:=h71 i hil
     have hnx:(N.take (j + 1)).foldl stp ((farW,-1),(es,c))=stp ((bc,bi),(es1,c1)) i:=by rw [z37 _ _ _ _ _ hi2,← ha]
     rw [hstp,stepB] at hnx
     rw [← hstp] at hnx
     obtain⟨n,hn⟩:∃ n,n=minW F S p i:=⟨_,rfl⟩
     rw [← hn] at h71i hnx
     by_cases hfar:n ≥ farW
     ·rw [if_pos hfar] at hnx
      have hd:decide (n ≥ 1099511627776)=true:=by simpa [farW] using hfar
      simp only [go_sem]
      repeat (first|refine nx ?_|(refine z3 fun K hK=>?_;simp only [go_sem,hd];(repeat (first|(refine⟨_,.lent (hf:=h71i) (hd:=rfl) (hr:=rfl),?_⟩;simp only [go_sem,hd])|(refine⟨_,.given (hf:=h71i) (hd:=rfl) (ha:=rfl),?_⟩;simp only [go_sem,hd])));apply hK;clear hK K))
      refine z9 rfl ?_
      repeat (first|refine nx ?_|(refine z3 fun K hK=>?_;simp only [go_sem];apply hK;clear hK K))
      refine⟨rfl,_,?_,hnx.symm⟩
      simp only [go_sem]
      refine weA ?_ ?_ <;> simp
     ·rw [if_neg hfar] at hnx
      have hd:decide (n ≥ 1099511627776)=false:=by simpa [farW] using hfar
      have hiS:i ∈ elems s:=by rw [← hN];exact him
      obtain⟨u1,u2,u3⟩:=z732 hs hiS
      have hpl:=hS.pl (spotAt S i) (List.mem_of_getElem? (z242 hil))
      have hqe:(spotAt S i).pl=(nextP S i:Int):=by rw [nextP];omega
      have hqm:nextP S i<m:=by omega
      have g0:(S.map SpotT.row)[i]?=some [.i (nextP S i:Int),.i (spotAt S i).wt,.i (spotAt S i).se]:=by rw [← hqe,List.getElem?_map,z242 hil];rfl
      have l3:i<(S.map SpotT.row).length:=by simpa using hil
      have n3:¬ ((i:Int)<0):=by omega
      have hsh:=z920 s hs i (z557 hiS) hiS
      have ihi:=ih (s - 2 ^ i) (nextP S i) (es1,c1) u1 (by omega) (fun j hj=>hi j (by rw [hN];exact u3 j hj)) hqm
      obtain⟨R,hR⟩:∃ R,R=bestM F S f (nextP S i) (s - 2 ^ i) (es1,c1):=⟨_,rfl⟩
      dsimp only at hnx
      rw [← hR] at ihi hnx
      obtain⟨⟨r1,r2⟩,es2,c2⟩:=R
      dsimp only at ihi hnx
      obtain⟨cc,hcc⟩:∃ cc,cc=wr (wr (n * weightW S s) + r1):=⟨_,rfl⟩
      rw [← hcc,pickB] at hnx
      rw [wr,wr] at hcc
      simp only [go_sem]
      repeat (first|refine nx ?_|(refine z3 fun K hK=>?_;simp only [go_sem,hd];(repeat (first|(refine⟨_,.lent (hf:=h71i) (hd:=rfl) (hr:=rfl),?_⟩;simp only [go_sem,hd])|(refine⟨_,.given (hf:=h71i) (hd:=rfl) (ha:=rfl),?_⟩;simp only [go_sem,hd])));apply hK;clear hK K))
      refine z5 rfl ?_
      repeat (first|refine nx ?_|(refine z3 fun K hK=>?_;simp only [go_sem];apply hK;clear hK K))
      refine z8 (by kernel_rfl) (by kernel_rfl) fun K hK=>?_
      simp only [go_sem,g0,l3,n3,hsh]
      refine⟨_,.inPlace (n:=81) (hf:=ihi) (hn:=rfl) (hb:=rfl) (hla:=rfl) (ha:=z59 (by repeat (first|exact trivial|refine And.intro ?_ ?_|exact z75 rfl|exact z50 rfl rfl))) (hx:=by first|decide|simp [AV.refsAll,AV.refs,AV.refs.AV.refss]),?_⟩
      simp only [go_sem]
      refine⟨by kernel_rfl,hK _ ?_⟩
      clear hK K
      by_cases hlt:cc<bc
      ·rw [if_pos hlt] at hnx
       have hd2:decide (cc<bc)=true:=decide_eq_true hlt
       repeat (first|refine nx ?_|(refine z3 fun K hK=>?_;simp only [go_sem,← hcc,hd2];(repeat (first|(refine⟨_,.lent (hf:=h72) (hd:=rfl) (hr:=rfl),?_⟩;simp only [go_sem,← hcc,hd2])|(refine⟨_,.given (hf:=h72) (hd:=rfl) (ha:=rfl),?_⟩;simp only [go_sem,← hcc,hd2])));apply hK;clear hK K))
       refine z9 rfl ?_
       repeat (first|refine nx ?_|(refine z3 fun K hK=>?_;simp only [go_sem];apply hK;clear hK K))
       refine⟨rfl,_,?_,hnx.symm⟩
       simp only [go_sem]
       refine weA ?_ ?_ <;> simp
      ·rw [if_neg hlt] at hnx
       have hd2:decide (cc<bc)=false:=decide_eq_false hlt
       repeat (first|refine nx ?_|(refine z3 fun K hK=>?_;simp only [go_sem,← hcc,hd2];(repeat (first|(refine⟨_,.lent (hf:=h72) (hd:=rfl) (hr:=rfl),?_⟩;simp only [go_sem,← hcc,hd2])|(refine⟨_,.given (hf:=h72) (hd:=rfl) (ha:=rfl),?_⟩;simp only [go_sem,← hcc,hd2])));apply hK;clear hK K))
       refine z5 rfl ?_
       repeat (first|refine nx ?_|(refine z3 fun K hK=>?_;simp only [go_sem];apply hK;clear hK K))
       refine⟨rfl,_,?_,hnx.symm⟩
       simp only [go_sem]
       refine weA ?_ ?_ <;> simp
    ·rintro⟨⟨bc,bi⟩,es1,c1⟩ ha
     rw [List.length_map,List.take_length] at ha
     rw [← ha]
     dsimp only
     have e5:=z260 es1 (p,s) 0
     dsimp only [keyB] at e5
     cases hlk2:lookB es1 (p,s) 0 with
     | none =>
      rw [hlk2] at e5
      dsimp only [Option.map_none] at e5
      rw [z678 (i:=0) (bc,bi) c1 hlk2]
      dsimp only
      rw [z1075]
      dsimp only [keyB,costD]
      simp only [go_sem]
      repeat (first|refine z25 ?_|refine z7 ?_|refine z55 ?_|refine z4 ?_)
      refine z165 5 fun K hK=>?_
      simp only [go_sem,e5,List.take_succ_cons,List.take_zero,List.drop_succ_cons,List.drop_zero]
      apply hK
      clear hK K
      repeat (first|refine nx ?_|(refine z3 fun K hK=>?_;simp only [go_sem];apply hK;clear hK K))
      refine z8 (by kernel_rfl) (by kernel_rfl) fun K hK=>?_
      simp only [go_sem]
      refine⟨by kernel_rfl,hK _ ?_⟩
      clear hK K
      repeat (first|refine nx ?_|(refine z3 fun K hK=>?_;simp only [go_sem];apply hK;clear hK K))
      simp only [go_sem]
     | some w =>
      obtain⟨j,v,bn⟩:=w
      rw [hlk2] at e5
      dsimp only [Option.map_some] at e5
      have e4:=(z677 (i:=0) (bc,bi) c1 hlk2).2
      rw [Nat.sub_zero] at e4
      rw [e4]
      dsimp only
      rw [z1161]
      dsimp only [keyB,costD]
      simp only [go_sem]
      repeat (first|refine z25 ?_|refine z7 ?_|refine z55 ?_|refine z4 ?_)
      refine z165 5 fun K hK=>?_
      simp only [go_sem,e5,List.take_succ_cons,List.take_zero,List.drop_succ_cons,List.drop_zero]
      apply hK
      clear hK K
      repeat (first|refine nx ?_|(refine z3 fun K hK=>?_;simp only [go_sem];apply hK;clear hK K))
      refine z8 (by kernel_rfl) (by kernel_rfl) fun K hK=>?_
      simp only [go_sem]
      refine⟨by kernel_rfl,hK _ ?_⟩
      clear hK K
      repeat (first|refine nx ?_|(refine z3 fun K hK=>?_;simp only [go_sem];apply hK;clear hK K))
      simp only [go_sem]
end Go.Ab
