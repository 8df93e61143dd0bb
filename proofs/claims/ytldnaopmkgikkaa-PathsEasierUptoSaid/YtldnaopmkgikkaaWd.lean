/- A walk engine over abstract states, and the contracts of the functions that the statement reaches: part 4. -/
import Derived.Test.YtldnaopmkgikkaaWc
set_option linter.unusedVariables false
set_option linter.unusedSimpArgs false
set_option linter.unnecessarySimpa false
/- append of arrays whose cells name memory of the call's own: soundness. -/
namespace Go.Ab
open Go.RowKit
section
variable {P:Program} {base:Own} {out:Own} {st st':St} {μ:Pl} {tmps:Array Value} {w:World} {o:Oper}
theorem z832 {α:Type} {R:α→Value→Prop} {rows:List (List α)} {z b off:Nat} {f:Nat→Nat→Value} (hz:∀ r ∈ rows,r.length=z)
  (hf:∀ (i:Nat) r (j:Nat) d,rows[i]?=some r→r[j]?=some d→w.cell? ⟨b,off + i * z + j,none⟩=some (f i j)∧(f i j).oneCell'=true∧R d (f i j)) :
  (∀ q u,(flat rows.length z f)[q]?=some u→w.cell? ((⟨b,off,none⟩:Addr).add q)=some u)∧(∀ u ∈ flat rows.length z f,u.oneCell'=true):=by
 have key:∀ q u,(flat rows.length z f)[q]?=some u→w.cell? ⟨b,off + q,none⟩=some u∧u.oneCell'=true:=by
  intro q u hq
  obtain ⟨hz0,h1,h2,rfl⟩:=z615 f hq
  have hr:rows[q / z]?=some rows[q / z]:=by simp [h1]
  have hrl:rows[q / z].length=z:=hz _ (by simp)
  have hd:(rows[q / z])[q % z]?=some (rows[q / z])[q % z]:=by simp [hrl,h2]
  obtain ⟨p1,p2,_⟩:=hf _ _ _ _ hr hd
  have e:off + q / z * z + q % z=off + q:=by
   have:=Nat.div_add_mod q z
   rw [Nat.mul_comm] at this
   omega
  rw [e] at p1
  exact ⟨p1,p2⟩
 refine ⟨fun q u hq=>by rw [Addr.add_lit];exact (key q u hq).1,fun u hu=>?_⟩
 obtain ⟨q,hq⟩:=List.mem_iff_getElem?.1 hu
 exact (key q u hq).2
theorem z882 {α:Type} {R R':α→Value→Prop} {g:α→α} {rows xs:List (List α)} {z b off:Nat} {f:Nat→Nat→Value} {cs:List Value}
  (hz:∀ r ∈ rows,r.length=z) (hxz:∀ r ∈ xs,r.length=z) (hg:∀ x v,R x v→R' (g x) v) {cur:Array Value}
  (hold:∀ q,q<rows.length * z→cs[q]?=cur[q]?) (hnew:∀ q,q<xs.length * z→cs[rows.length * z + q]?=(flat xs.length z f)[q]?)
  (hd:∀ (i:Nat) r (j:Nat) d,rows[i]?=some r→r[j]?=some d→∃ v,cur[i * z + j]?=some v∧v.oneCell'=true∧R d v)
  (hf:∀ (i:Nat) r (j:Nat) d,xs[i]?=some r→r[j]?=some d→w.cell? ⟨b,off + i * z + j,none⟩=some (f i j)∧(f i j).oneCell'=true∧R d (f i j)) :
  ∀ (i:Nat) r (j:Nat) d,((rows++xs).map fun r=>r.map g)[i]?=some r→r[j]?=some d→∃ v,cs[i * z + j]?=some v∧v.oneCell'=true∧R' d v:=by
 intro i r' j d' hi' hj'
 rw [List.getElem?_map,Option.map_eq_some_iff] at hi'
 obtain ⟨r,hi,rfl⟩:=hi'
 rw [List.getElem?_map,Option.map_eq_some_iff] at hj'
 obtain ⟨d,hj,rfl⟩:=hj'
 by_cases hlt:i<rows.length
 ·rw [List.getElem?_append_left hlt] at hi
  have hjz:j<z:=by rw [← hz r (List.mem_of_getElem? hi)];exact (List.getElem?_eq_some_iff.1 hj).1
  have hq:i * z + j<rows.length * z:=by
   have:(i + 1) * z≤rows.length * z:=Nat.mul_le_mul_right z hlt
   rw [Nat.add_mul] at this
   omega
  obtain ⟨v,p1,p2,p3⟩:=hd i r j d hi hj
  exact ⟨v,by rw [hold _ hq];exact p1,p2,hg _ _ p3⟩
 ·rw [List.getElem?_append_right (by omega)] at hi
  have hil:i - rows.length<xs.length:=(List.getElem?_eq_some_iff.1 hi).1
  have hjz:j<z:=by rw [← hxz r (List.mem_of_getElem? hi)];exact (List.getElem?_eq_some_iff.1 hj).1
  have e:i * z + j=rows.length * z + ((i - rows.length) * z + j):=by
   have:i=rows.length + (i - rows.length):=by omega
   rw [this,Nat.add_mul]
   have:rows.length + (i - rows.length) - rows.length=i - rows.length:=by omega
   rw [this]
   omega
  have hq:(i - rows.length) * z + j<xs.length * z:=by
   have:(i - rows.length + 1) * z≤xs.length * z:=Nat.mul_le_mul_right z hil
   rw [Nat.add_mul] at this
   omega
  obtain ⟨p1,p2,p3⟩:=hf _ _ _ _ hi hj
  exact ⟨_,by rw [e,hnew _ hq];exact z68 f hil hjz,p2,hg _ _ p3⟩
theorem z474 (h:StRel P base out st μ tmps w) {m:Nat} {v:Value} (hx:AVRel w (ownOf out μ) μ (.own m) v) {e z':Nat} {xs:List (List AV)} (hm:st.m[m]?=some (some (.arrA e z' xs))) {z:Nat} (hz:headA z xs=true) :
  xs≠[]∧(∀ r ∈ xs,r.length=z)∧∃ b cap,v=.slice (some ⟨b,0,none⟩) xs.length cap∧xs.length≤cap∧∃ f:Nat→Nat→Value,
   ∀ (i:Nat) r (j:Nat) d,xs[i]?=some r→r[j]?=some d→w.cell? ⟨b,0 + i * z + j,none⟩=some (f i j)∧(f i j).oneCell'=true∧AVRel w (ownOf out μ) μ d (f i j):=by
 have hne:xs≠[]:=by rintro rfl;simp [headA] at hz
 have hhead:∀ z',(∀ r ∈ xs,r.length=z')→z'=z:=by
  intro z' hz'
  cases xs with
  | nil=>exact absurd rfl hne
  | cons r rs =>
   simp only [headA,beq_iff_eq] at hz
   rw [← hz]
   exact (hz' r (by simp)).symm
 rcases h.mem.arrA hm with ⟨h0,rfl⟩ | ⟨b',cap',cs,hμ',hh,hle',_,hsz,hzz,hd⟩
 ·exact absurd rfl hne
 ·have:=hhead z' hzz
  subst this
  rcases z28 hx with ⟨hμ,hv⟩ | ⟨b,z,l,c,hμ,hv⟩
  ·rw [hμ'] at hμ;cases hμ
  ·rw [hμ] at hμ';cases hμ'
   refine ⟨hne,hzz,_,_,hv,hle',fun i j=>cs.getD (i * z' + j) Go.undef,fun i r j d h1 h2=>?_⟩
   obtain ⟨u,p1,p2,p3⟩:=hd i r j d h1 h2
   rw [z33 hh,Nat.zero_add]
   simp only [Array.getD_eq_getD_getElem?,p1,Option.getD_some]
   exact ⟨trivial,p2,p3⟩
theorem z758 (h:StRel P base out st μ tmps w) {n:Nat} {e z:Nat} {rows rows':List (List AV)} (hn:st.m[n]?=some (some (.arrA e z rows))) {w':World} {L:Loc}
  (hB:∀ k,k<w.heap.size→(∀ z' l' c',μ n≠some (.at k z' l' c'))→w'.heap[k]?=w.heap[k]?) (hsz:w.heap.size≤w'.heap.size)
  (hL:∀ b z l c,L=.at b z l c→(∃ z' l' c',μ n=some (.at b z' l' c'))∨(w.heap.size≤b∧b<w'.heap.size))
  (hblk:Goes w (ownOf out μ) w' (ownOf out (μ.upd n (some L)))→BlkRel w' (ownOf out (μ.upd n (some L))) (μ.upd n (some L)) n (.arrA e z rows')) :
  StRel P base out { (st.kill n) with m:=(st.kill n).m.set n (some (.arrA e z rows')) } (μ.upd n (some L)) tmps w':=by
 have hown:∀ b,ownOf out (μ.upd n (some L)) b→ownOf out μ b∨w.heap.size≤b:=by
  rintro b (hb | ⟨k,z,l,c,hb⟩)
  ·exact .inl (.inl hb)
  ·by_cases hk:k=n
   ·subst hk
    rw [Pl.upd_same] at hb
    cases hb
    rcases hL _ _ _ _ rfl with ⟨z',l',c',h1⟩ | h1
    ·exact .inl (.inr ⟨k,z',l',c',h1⟩)
    ·exact .inr h1.1
   ·rw [Pl.upd_ne μ _ hk] at hb
    exact .inl (.inr ⟨k,z,l,c,hb⟩)
 have hg:Goes w (ownOf out μ) w' (ownOf out (μ.upd n (some L))):=fun b o v h1 h2=>by
  have hlt:=z52 h2
  refine ⟨fun hc=>?_,?_⟩
  ·rcases hown b hc with h3 | h3
   ·exact h1 h3
   ·omega
  ·have:=hB b hlt (fun z' l' c' hc=>h1 (.inr ⟨n,z',l',c',hc⟩))
   simp only [World.cell?] at h2 ⊢
   rw [this]
   exact h2
 have hlen:n<st.m.length:=(List.getElem?_eq_some_iff.1 hn).1
 have hml:(st.kill n).m.length=st.m.length:=by
  have:∀ (m:List (Option Blk)),(subMem n (fun _=>AV.undef) m).length=m.length:=by
   intro m
   induction m with
   | nil=>rfl
   | cons x xs ih=>cases x <;> simp [subMem,ih]
  exact this st.m
 exact h.turn (n:=n) (f:=fun _=>.undef) hg (fun k hk=>Pl.upd_ne μ _ hk) (fun y u _ _=>.undef _)
  (fun k b z l c hk hb=>hB b (z47 h.mem hb) (fun z' l' c' hc=>hk (h.mem.inj k n b _ _ _ _ _ _ hb hc))) hsz
  (fun k hk=>by rw [List.getElem?_set_ne (Ne.symm hk)];simp only [St.kill,z35])
  (fun b hb=>by rw [List.getElem?_set_self (by rw [hml];exact hlen)] at hb;cases hb;exact hblk hg)
  (fun _=>⟨_,List.getElem?_set_self (by rw [hml];exact hlen)⟩)
  (fun b z l c hb=>by
   rw [Pl.upd_same] at hb
   cases hb
   rcases hL _ _ _ _ rfl with ⟨z',l',c',h1⟩ | h1
   ·have:=h.mem.base n b _ _ _ h1
    exact ⟨⟨this.1,by omega,this.2.2⟩,fun k z'' l'' c'' hk hc=>hk (h.mem.inj k n b _ _ _ _ _ _ hc h1)⟩
   ·refine ⟨⟨fun hc=>by have:=h.le b hc;omega,h1.2,fun hc=>by have:=h.le b (h.out b hc);omega⟩,fun k z'' l'' c'' hk hc=>?_⟩
    have:=z47 h.mem hc
    omega)
theorem z173 (n:Nat) (rows:List (List AV)):(killN n rows).length=rows.length:=by simp [killN]
theorem z579 {n z:Nat} {rows:List (List AV)} (h:∀ r ∈ rows,r.length=z):∀ r ∈ killN n rows,r.length=z:=by
 intro r hr
 simp only [killN,List.mem_map] at hr
 obtain ⟨q,hq,rfl⟩:=hr
 simpa using h q hq
theorem z768 {n:Nat} {L:Loc} {w':World} (hg:Goes w (ownOf out μ) w' (ownOf out (μ.upd n (some L)))) {rows xs:List (List AV)} {z b off:Nat} {f:Nat→Nat→Value} {A:Array Value} {cs:List Value} (hA:A.toList=cs)
  (hz:∀ r ∈ rows,r.length=z) (hxz:∀ r ∈ xs,r.length=z) {cur:Array Value}
  (hold:∀ q,q<rows.length * z→cs[q]?=cur[q]?) (hnew:∀ q,q<xs.length * z→cs[rows.length * z + q]?=(flat xs.length z f)[q]?)
  (hd:∀ (i:Nat) r (j:Nat) d,rows[i]?=some r→r[j]?=some d→∃ v,cur[i * z + j]?=some v∧v.oneCell'=true∧AVRel w (ownOf out μ) μ d v)
  (hf:∀ (i:Nat) r (j:Nat) d,xs[i]?=some r→r[j]?=some d→w.cell? ⟨b,off + i * z + j,none⟩=some (f i j)∧(f i j).oneCell'=true∧AVRel w (ownOf out μ) μ d (f i j)) :
  ∀ (i:Nat) r (j:Nat) d,(killN n (rows++xs))[i]?=some r→r[j]?=some d→∃ v,A[i * z + j]?=some v∧v.oneCell'=true∧AVRel w' (ownOf out (μ.upd n (some L))) (μ.upd n (some L)) d v:=by
 subst hA
 have:=z882 (w:=w) (R:=AVRel w (ownOf out μ) μ) (R':=AVRel w' (ownOf out (μ.upd n (some L))) (μ.upd n (some L))) (g:=AV.sub n fun _=>.undef) hz hxz
  (fun x v hxv=>hxv.sub (n:=n) (f:=fun _=>.undef) hg (fun k hk _=>Pl.upd_ne μ _ hk) (fun _ _ _ _=>.undef _)) hold hnew hd hf
 simpa only [Array.getElem?_toList,killN] using this
theorem z693 (h:StRel P base out st μ tmps w) {t t':TypeId} {s x:Operand} (ho:o.op=.call { callee:=.builtin .append,args:=#[s,x],argTypes:=#[t,t'] })
  (hs:opAppendA P st o.dst t t' (st.ev s) (st.ev x)=some st'):OpOK P base out μ o st' tmps w:=by
 have hsv:=h.ev s []
 have hxv:=h.ev x []
 unfold opAppendA at hs
 split at hs
 rotate_left
 ·cases hs
 rename_i htt
 subst htt
 split at hs
 rotate_left
 ·cases hs
 rename_i d e m hd ht hevx
 rw [hevx] at hxv
 split at hs
 rotate_left
 ·cases hs
 rename_i z by_ zl em zm xs hz hby hzl hm
 split at hs
 rotate_left
 ·cases hs
 rename_i hcond
 obtain ⟨rfl,hz0,hb0,hb7,hhead⟩:=hcond
 rw [Option.map_eq_some_iff] at hzl
 obtain ⟨zv,hzv,hzs⟩:=hzl
 obtain ⟨i,hi,hiz⟩:=z125 hzv
 obtain ⟨i',hi',hib⟩:=z58 hby
 rw [hi] at hi';cases hi'
 have his:=z319 hz hi
 obtain ⟨hx0,hxz,bx,cap,hxval,hxcap,f,hf2⟩:=z474 h hxv hm hhead
 obtain ⟨hn1,hn2⟩:=z832 hxz hf2
 have hpos:0<xs.length:=List.length_pos_iff.2 hx0
 have h39:(2:Nat) ^ 39=549755813888:=by decide
 split at hs
 ·-- onto nil
  rename_i hev
  rw [hev] at hsv
  have hsval:=z93 hsv
  split at hs
  rotate_left
  ·cases hs
  rename_i hf
  split at hs
  rotate_left
  ·cases hs
  rename_i hxl
  cases hs
  have hby128:xs.length * i.bytes≤281474976710656:=by
   rw [hib]
   calc xs.length * by_≤2 ^ 39 * 2 ^ 7:=Nat.mul_le_mul hxl hb7
    _≤281474976710656:=by decide
  have hr:=run_append_nil (P:=P) w t' o.type e i zv (z11 ht) hi hiz ⟨bx,0,none⟩ xs.length cap (flat xs.length zl f) (by rw [z20,his]) hn1 hpos (by omega) hby128
  have hge:=grownCap_ge w xs.length 0 e
  have hcm:grownCap w xs.length 0 e≤maxLen:=grownCap_le_maxLen w xs.length 0 e (by simp only [maxLen];omega)
  obtain ⟨μ',hst,hB⟩:=z629 h (z26 hf) (e:=e) (z:=zl) (rows:=xs) (cs:=(flat xs.length zl f).toArray++Builtin.zeroCells zv.cells (grownCap w xs.length 0 e - xs.length)) (cap:=grownCap w xs.length 0 e)
   (w':=w.drew.alloc (.cells ((flat xs.length zl f).toArray++Builtin.zeroCells zv.cells (grownCap w xs.length 0 e - xs.length)) e))
   ⟨w.drew,(Below.refl _ _).drew,rfl,rfl⟩ hge hcm (by rw [Array.size_append,size_zeroCells,hzs,List.size_toArray,z20,← Nat.add_mul];congr 1;omega) hxz
   (fun i r j dv hi hj=>by
    have hil:i<xs.length:=(List.getElem?_eq_some_iff.1 hi).1
    have hjz:j<zl:=by rw [← hxz r (List.mem_of_getElem? hi)];exact (List.getElem?_eq_some_iff.1 hj).1
    have hg:=z68 f hil hjz
    obtain ⟨p1,p2,p3⟩:=hf2 i r j dv hi hj
    refine ⟨f i j,?_,p2,p3⟩
    rw [Array.getElem?_append_left (by have:=(List.getElem?_eq_some_iff.1 hg).1;simpa using this)]
    simpa using hg)
  refine ⟨.value (.slice (some ⟨w.heap.size,0,none⟩) xs.length (grownCap w xs.length 0 e)),_,_,μ',fun ds=>?_,.inl rfl,by rw [hd];exact hst,hB⟩
  unfold execOp
  rw [z29]
  have hxval3:(({ tmps:=tmps,defers:=[] }:Act).eval x)=.slice (some ⟨bx,0,none⟩) xs.length cap:=hxval
  simp [ho,resolve,invoke,builtin,hsval,hxval3,hr]
 ·-- onto an array of the call's own
  rename_i n hev
  rw [hev] at hsv
  have fin:∀ (v:Value) (w':World) (μ':Pl) (st'':St),(Builtin.append_ #[t',t'] o.type #[val tmps s,val tmps x]).run P w=.ok v w'→StRel P base out st'' μ' tmps w'→AVRel w' (ownOf out μ') μ' (.own n) v →
    KeepO base (ownOf out μ) w (ownOf out μ') w'→OpOK P base out μ o (st''.put o.dst (.own n)) tmps w:=by
   intro v w' μ' st'' hr hst hrel hB
   refine ⟨.value v,v,w',μ',fun ds=>?_,.inl rfl,hst.put hrel o.dst,hB⟩
   unfold execOp
   rw [z29]
   simp only [val] at hr
   simp [ho,resolve,invoke,builtin,hr]
  split at hs
  rotate_left
  ·cases hs
  rename_i e' z' rows hn
  split at hs
  rotate_left
  ·cases hs
  rename_i hcond2
  obtain ⟨rfl,rfl,hsum⟩:=hcond2
  cases hs
  rcases h.mem.arrA hn with ⟨h0,rfl⟩ | ⟨b,c,cur,hμ',hh,hle',hcm',hsz,hzz,hdd⟩
  ·-- it is nil as yet
   rcases z28 hsv with ⟨hμ,hsval⟩ | ⟨b,z,l,c,hμ,hsval⟩
   rotate_left
   ·rw [h0] at hμ;cases hμ
   simp only [List.length_nil,Nat.zero_add] at hsum
   have hby128:xs.length * i.bytes≤281474976710656:=by
    rw [hib]
    calc xs.length * by_≤2 ^ 39 * 2 ^ 7:=Nat.mul_le_mul hsum hb7
     _≤281474976710656:=by decide
   have hr:=run_append_nil (P:=P) w t' o.type e' i zv (z11 ht) hi hiz ⟨bx,0,none⟩ xs.length cap (flat xs.length z' f) (by rw [z20,his]) hn1 hpos (by omega) hby128
   have hge:=grownCap_ge w xs.length 0 e'
   have hcm:grownCap w xs.length 0 e'≤maxLen:=grownCap_le_maxLen w xs.length 0 e' (by simp only [maxLen];omega)
   have hB:Below w.heap.size w (w.drew.alloc (.cells ((flat xs.length z' f).toArray++Builtin.zeroCells zv.cells (grownCap w xs.length 0 e' - xs.length)) e')):=(Below.refl _ _).drew.alloc (Nat.le_refl _) _
   have hst:=z758 h hn (w':=w.drew.alloc (.cells ((flat xs.length z' f).toArray++Builtin.zeroCells zv.cells (grownCap w xs.length 0 e' - xs.length)) e')) (L:=.at w.heap.size z' xs.length (grownCap w xs.length 0 e')) (rows':=killN n ([]++xs))
    (fun k hk _=>hB.block k hk) hB.size (fun b z l c e=>by cases e;exact .inr ⟨Nat.le_refl _,by simp⟩)
    (fun hg=>.inr ⟨w.heap.size,_,_,by rw [z173];simpa using Pl.upd_same μ n _,heap_alloc_new w.drew _,by rw [z173];simpa using hge,hcm,by rw [Array.size_append,size_zeroCells,hzs,List.size_toArray,z20,← Nat.add_mul];congr 1;omega,z579 (by simpa using hxz),
     z768 hg (rows:=[]) (xs:=xs) (cur:=#[]) rfl (by simp) hxz
      (fun q hq=>by simp at hq) (fun q hq=>by
       simp only [List.length_nil,Nat.zero_mul,Nat.zero_add,Array.toList_append]
       rw [List.getElem?_append_left (by rw [z20];exact hq)]) (fun i r j d hi=>by simp at hi) hf2⟩)
   refine fin (.slice (some ⟨w.heap.size,0,none⟩) xs.length (grownCap w xs.length 0 e')) _ _ _ ?_ hst (.own (Pl.upd_same μ n _)) (z54 (z50 hB h.le) (fun k hk _=>hB.block k hk) (fun b z l c e=>by cases e;exact .inr ⟨Nat.le_refl _,by simp⟩))
   simp only [val] at hxval ⊢;rw [hsval,hxval];exact hr
  ·rcases z28 hsv with ⟨hμ,hsval⟩ | ⟨b2,zz,l2,c2,hμ,hsval⟩
   ·rw [hμ'] at hμ;cases hμ
   rw [hμ] at hμ';cases hμ'
   have hcurl:rows.length * z'≤cur.size:=by rw [hsz];exact Nat.mul_le_mul_right _ hle'
   have hall:∀ r ∈ rows++xs,r.length=z':=fun r hr=>by
    rcases List.mem_append.1 hr with h1 | h1
    ·exact hzz r h1
    ·exact hxz r h1
   by_cases hroom:rows.length + xs.length≤c
   ·-- in place
    have hfit:rows.length * i.size + (flat xs.length z' f).length≤cur.size:=by
     rw [his,z20,hsz,← Nat.add_mul];exact Nat.mul_le_mul_right _ hroom
    have hr:=run_append_room (P:=P) w t' o.type e' i (z11 ht) hi b rows.length c cur hh ⟨bx,0,none⟩ xs.length cap (flat xs.length z' f) (by rw [z20,his]) hn1 hn2 hroom hfit
    rw [his] at hr hfit
    have hW:Wrote b w (w.setRow b (cur.toList.take (rows.length * z')++flat xs.length z' f++cur.toList.drop (rows.length * z' + (flat xs.length z' f).length)).toArray):=z37
    have hmid:=z189 cur.toList (flat xs.length z' f) (rows.length * z') (by simpa using hfit)
    have hlk:(killN n (rows++xs)).length=rows.length + xs.length:=by rw [z173,List.length_append]
    have hst:=z758 h hn (w':=w.setRow b (cur.toList.take (rows.length * z')++flat xs.length z' f++cur.toList.drop (rows.length * z' + (flat xs.length z' f).length)).toArray) (L:=.at b z' (rows.length + xs.length) c) (rows':=killN n (rows++xs))
     (fun k _ hk=>hW.block k (fun e=>hk _ _ _ (e ▸ hμ))) (Nat.le_of_eq hW.size.symm) (fun _ _ _ _ e=>by cases e;exact .inl ⟨_,_,_,hμ⟩)
     (fun hg=>.inr ⟨b,c,_,by rw [hlk];exact Pl.upd_same μ n _,setRow_heap w b cur _ e' _ hh,by rw [hlk];exact hroom,hcm',by
       simp only [List.size_toArray,List.length_append,List.length_take,List.length_drop,Array.length_toList];omega,z579 hall,z768 hg (rows:=rows) (xs:=xs) (cur:=cur) rfl
        hzz hxz
        (fun q hq=>by rw [hmid,if_neg (by omega)];simp)
        (fun q hq=>by rw [hmid,if_pos (by rw [z20];omega)];congr 1;omega) hdd hf2⟩)
    refine fin (.slice (some ⟨b,0,none⟩) (rows.length + xs.length) c) _ _ _ ?_ hst (.own (Pl.upd_same μ n _)) (z54 (hW.keep hh (h.mem.base n b _ _ _ hμ).1) (fun k _ hk=>hW.block k (fun e=>hk _ _ _ (e ▸ hμ))) (fun _ _ _ _ e=>by cases e;exact .inl ⟨_,_,_,hμ⟩))
    simp only [val] at hxval ⊢;rw [hsval,hxval];exact hr
   ·-- z450
    have holds:∀ q u,(cur.toList.take (rows.length * z'))[q]?=some u→w.cell? ((⟨b,0,none⟩:Addr).add q)=some u:=fun q u hq=>by
     rw [Addr.add_lit,z33 hh,Nat.zero_add]
     rw [List.getElem?_take] at hq
     split at hq
     ·simpa using hq
     ·cases hq
    have hr:=run_append_grow (P:=P) w t' o.type e' i zv (z11 ht) hi hiz ⟨b,0,none⟩ rows.length c (cur.toList.take (rows.length * z')) (by rw [his];simp;omega) holds ⟨bx,0,none⟩ xs.length cap (flat xs.length z' f) (by rw [z20,his]) hn1
     (by omega) (by omega) (by rw [hib];exact z104 hsum hb7 (by omega))
    have hge:=grownCap_ge w (rows.length + xs.length) c e'
    have hcm:grownCap w (rows.length + xs.length) c e'≤maxLen:=grownCap_le_maxLen w _ c e' (by simp only [maxLen];omega)
    obtain ⟨W,hW⟩:∃ W,w.drew.alloc (.cells ((cur.toList.take (rows.length * z')).toArray++(flat xs.length z' f).toArray++Builtin.zeroCells zv.cells (grownCap w (rows.length + xs.length) c e' - (rows.length + xs.length))) e')=W:=⟨_,rfl⟩
    have hB:Below w.heap.size w W:=by rw [← hW];exact (Below.refl _ _).drew.alloc (Nat.le_refl _) _
    have hnew:W.heap[w.heap.size]?=some (.cells ((cur.toList.take (rows.length * z')).toArray++(flat xs.length z' f).toArray++Builtin.zeroCells zv.cells (grownCap w (rows.length + xs.length) c e' - (rows.length + xs.length))) e' (0,0)):=by rw [← hW];exact heap_alloc_new w.drew _
    rw [hW] at hr
    have htl:(cur.toList.take (rows.length * z')).length=rows.length * z':=by simp;omega
    have hlk:(killN n (rows++xs)).length=rows.length + xs.length:=by rw [z173,List.length_append]
    have hst:=z758 h hn (w':=W) (L:=.at w.heap.size z' (rows.length + xs.length) (grownCap w (rows.length + xs.length) c e')) (rows':=killN n (rows++xs))
     (fun k hk _=>hB.block k hk) hB.size (fun b z l c e=>by cases e;exact .inr ⟨Nat.le_refl _,(Array.getElem?_eq_some_iff.1 hnew).1⟩)
     (fun hg=>.inr ⟨w.heap.size,_,_,by rw [hlk];exact Pl.upd_same μ n _,hnew,by rw [hlk];exact hge,hcm,by
       rw [Array.size_append,Array.size_append,size_zeroCells,hzs,List.size_toArray,List.size_toArray,z20,htl,← Nat.add_mul,← Nat.add_mul];congr 1;omega,z579 hall,z768 hg (rows:=rows) (xs:=xs) (cs:=cur.toList.take (rows.length * z')++(flat xs.length z' f++(Builtin.zeroCells zv.cells (grownCap w (rows.length + xs.length) c e' - (rows.length + xs.length))).toList)) (cur:=cur)
        (by simp [List.append_assoc]) hzz hxz
        (fun q hq=>by rw [List.getElem?_append_left (by omega),List.getElem?_take,if_pos hq];simp)
        (fun q hq=>by
         rw [List.getElem?_append_right (by omega),htl,List.getElem?_append_left (by rw [z20];omega)]
         congr 1;omega) hdd hf2⟩)
    refine fin (.slice (some ⟨w.heap.size,0,none⟩) (rows.length + xs.length) (grownCap w (rows.length + xs.length) c e')) W _ _ ?_ hst (.own (Pl.upd_same μ n _)) (z54 (z50 hB h.le) (fun k hk _=>hB.block k hk) (fun b z l c e=>by cases e;exact .inr ⟨Nat.le_refl _,(Array.getElem?_eq_some_iff.1 hnew).1⟩))
    simp only [val] at hxval ⊢;rw [hsval,hxval];exact hr
 ·cases hs
end
end Go.Ab
/- Regions within which arrays are made whose cells name memory of the call's own;arrays told the one way and the other. -/
namespace Go.Ab
open Go.RowKit
def stepX (P:Program) (o:Oper) (s:St):Option St:=match o.op with
 | .buildSlice t len parts=>match o.dst,opBuildSliceA P t len (parts.toList.map fun p=>(p.1,s.ev p.2)) with
  | some d,some b=>match s.fresh d with
   | true=>some (s.addBlk d (.own d) b)
   | false=>none
  | _,_=>none
 | .call { callee:=.builtin .append,args,argTypes }=>match args.toList,argTypes.toList with
  | [x,y],[t,t']=>opAppendA P s o.dst t t' (s.ev x) (s.ev y)
  | _,_=>none
 | _=>none
def XOk (P:Program) (o:Oper) (s s':St):Prop:=(∀ c,o.op≠.defer c)∧∀ (base out:Own) (μ:Pl) (tmps:Array Value) (w:World),StRel P base out s μ tmps w→OpOK P base out μ o s' tmps w
theorem z797 {P:Program} {o:Oper} {s s':St} (h:stepX P o s=some s'):XOk P o s s':=by
 unfold stepX at h
 split at h
 ·rename_i t len parts ho
  refine ⟨fun c hc=>(by rw [ho] at hc;cases hc),fun base out μ tmps w hst=>?_⟩
  split at h
  ·rename_i d b hd hb
   split at h
   ·rename_i hf
    cases h
    exact z283 hst ho hd hf hb
   ·cases h
  ·cases h
 ·rename_i args ts ho
  split at h
  ·rename_i x y t t' ha ht
   obtain rfl:args=#[x,y]:=by apply Array.toList_inj.1;rw [ha]
   obtain rfl:ts=#[t,t']:=by apply Array.toList_inj.1;rw [ht]
   exact ⟨fun c hc=>(by rw [ho] at hc;cases hc),fun base out μ tmps w hst=>z693 hst ho h⟩
  ·cases h
 ·cases h
inductive SeqX (P:Program) (ops:Array Oper):List Oper→St→St→Prop where
 | nil (s:St):SeqX P ops [] s s
 | cons {o:Oper} {os:List Oper} {s s1 s':St} (hd:dstOk o=true) (h:StepG P ops o s s1) (ht:SeqX P ops os s1 s'):SeqX P ops (o::os) s s'
 | made {o:Oper} {os:List Oper} {s s1 s':St} (hg:o.guard=none) (h:XOk P o s s1) (ht:SeqX P ops os s1 s'):SeqX P ops (o::os) s s'
 | weak {os:List Oper} {s s1 s':St} (hw:Weak s s1) (ht:SeqX P ops os s1 s'):SeqX P ops os s s'
theorem SeqX.of {P:Program} {ops:Array Oper} {os:List Oper} {s s':St} (h:Seq P ops os s s'):SeqX P ops os s s':=by
 induction h with
 | nil s=>exact .nil s
 | cons hd h _ ih=>exact .cons hd h ih
theorem SeqX.append {P:Program} {ops:Array Oper} {os os2:List Oper} {s s1 s2:St} (h:SeqX P ops os s s1) (h2:SeqX P ops os2 s1 s2):SeqX P ops (os++os2) s s2:=by
 induction h with
 | nil s=>exact h2
 | cons hd h _ ih=>exact .cons hd h (ih h2)
 | made hg h _ ih=>exact .made hg h (ih h2)
 | weak hw _ ih=>exact .weak hw (ih h2)
section
variable {P:Program} {base:Own} {out:Own} {st st':St} {μ:Pl} {tmps:Array Value} {w:World} {o:Oper} {ops:Array Oper} {rd:Option Nat} {n:Nat} {Q:Exit→Act→World→Prop}
theorem z761 (h:StRel P base out st μ tmps w) {i:Nat} (ho:ops[i]?=some o) (hg:o.guard=none) (hs:XOk P o st st') {ds:List Deferred} {K:Act→World→Prop}
  (hK:∀ tmps' μ' w',StRel P base out st' μ' tmps' w'→KeepO base (ownOf out μ) w (ownOf out μ') w'→Same (o.dst.toList) tmps tmps'→K { tmps:=tmps',defers:=ds } w') :
  wpOpIn (fence rd) n P ops Q i K { tmps:=tmps,defers:=ds } w:=by
 unfold wpOpIn
 simp only [ho]
 have:Region.wanted o (yielded ops tmps)=true:=by simp [Region.wanted,hg]
 simp only [this,if_true]
 refine ⟨fun _ _=>trivial,?_⟩
 obtain ⟨nx,v,w',μ',hr,hnx,hst,hB⟩:=hs.2 _ _ _ _ _ h
 rw [Oper.semAt_eq _ _ _ hs.1,hr ds]
 rcases hnx with rfl | ⟨rfl,rfl⟩
 ·simp only [Oper.uponIn_value,z100]
  exact hK _ μ' w' hst hB (z129 tmps o.dst v)
 ·simp only [Oper.uponIn_skip,z100]
  exact hK _ μ' w' hst hB (z129 tmps o.dst _)
theorem z851 {os:List Oper} {st st':St} (hs:SeqX P ops os st st'):∀ (k:Nat) (μ:Pl) (tmps:Array Value) (w:World),(∀ i o,os[i]?=some o→ops[k + i]?=some o)→StRel P base out st μ tmps w→∀ {ds:List Deferred},
  (∀ tmps' μ' w',StRel P base out st' μ' tmps' w'→KeepO base (ownOf out μ) w (ownOf out μ') w'→Same (opDsts os) tmps tmps'→Q .normal { tmps:=tmps',defers:=ds } w') →
  wpOpsIn (fence rd) n P ops Q (List.range' k os.length) { tmps:=tmps,defers:=ds } w:=by
 induction hs with
 | nil s=>exact fun k μ tmps w _ h ds hK=>hK _ μ w h (KeepO.refl _ _ _) (Same.refl _ _)
 | @cons o os s s1 s' hd h1 ht ih =>
  intro k μ tmps w hos h ds hK
  rw [List.length_cons,List.range'_succ,wpOpsIn_cons]
  refine z127 h (by simpa using hos 0 o (by simp)) hd h1 (fun tmps' μ' w' h2 hB hS=>?_)
  exact ih (k + 1) μ' tmps' w' (fun i o' hi=>by have:=hos (i + 1) o' (by simpa using hi);rwa [show k + 1 + i=k + (i + 1) by omega]) h2
   (fun tmps2 μ2 w2 h3 hB2 hS2=>hK tmps2 μ2 w2 h3 (hB.trans hB2) (hS.cons hS2))
 | @made o os s s1 s' hg h1 ht ih =>
  intro k μ tmps w hos h ds hK
  rw [List.length_cons,List.range'_succ,wpOpsIn_cons]
  refine z761 h (by simpa using hos 0 o (by simp)) hg h1 (fun tmps' μ' w' h2 hB hS=>?_)
  exact ih (k + 1) μ' tmps' w' (fun i o' hi=>by have:=hos (i + 1) o' (by simpa using hi);rwa [show k + 1 + i=k + (i + 1) by omega]) h2
   (fun tmps2 μ2 w2 h3 hB2 hS2=>hK tmps2 μ2 w2 h3 (hB.trans hB2) (hS.cons hS2))
 | weak hw ht ih =>
  intro k μ tmps w hos h ds hK
  obtain ⟨μ3,h3,hsub⟩:=hw P base out μ tmps w h
  exact ih k μ3 tmps w hos h3 fun tmps2 μ2 w2 h4 hB2 hS2=>hK tmps2 μ2 w2 h4 ((KeepO.less hsub).trans hB2) hS2
end
theorem z382 {P:Program} {rd:Option Nat} {n:Nat} {J:Env} {k:Option Nat} {st s3:St} {Q:Exit→Option Nat→St→Prop} {id:Nat} {ops:Array Oper} (hs:SeqX P ops ops.toList st s3) (hq:Q .normal k s3):Walk P rd n J (.region id ops false) k st Q:=fun B base out μ tmps w ds _ hst hJ hM=>by
 refine wpIn_region ?_
 have:=z851 (n:=n) (rd:=rd) (Q:=Ends P J B (dsts (.region id ops false)) (ownOf out μ) tmps w Q) hs 0 μ tmps w (fun i o hi=>by simpa using hi) hst (ds:=ds) (fun tmps' μ' w' h3 hk hS=>.step hJ h3 hk hS hM hq)
 rw [List.range_eq_range']
 simpa using this
def runX (P:Program) (ops:Array Oper):List Nat→List Oper→St→(St→Prop)→Prop
 | [],os,s,K=>runK P ops os s K
 | p::ps,os,s,K=>runK P ops (os.take p) s fun s=>match os.drop p with
  | o::rest=>o.guard=none∧bindK (stepX P o s) fun s1=>runX P ops ps rest s1 K
  | []=>False
theorem z607 {P:Program} {ops:Array Oper}:∀ (ps:List Nat) (os:List Oper) (s:St) (K:St→Prop),runX P ops ps os s K→∃ s',SeqX P ops os s s'∧K s'
 | [],os,s,K,h=>by
  obtain ⟨s',h1,h2⟩:=z162 os s K h
  exact ⟨s',.of h1,h2⟩
 | p::ps,os,s,K,h=>by
  obtain ⟨s1,h1,h2⟩:=z162 _ _ _ h
  split at h2
  ·rename_i o rest hd
   obtain ⟨hg,s2,h3,h4⟩:=h2
   obtain ⟨s',h5,h6⟩:=z607 ps rest s2 K h4
   refine ⟨s',?_,h6⟩
   have:=(SeqX.of h1).append (.made hg (z797 h3) h5)
   rwa [← hd,List.take_append_drop] at this
  ·exact h2.elim
theorem z57 {P:Program} {rd:Option Nat} {n:Nat} {J:Env} {cs:List Code} {k:Option Nat} {st:St} {Q:Exit→Option Nat→St→Prop} {id:Nat} {ops:Array Oper} (ps:List Nat)
  (h:∀ K:St→Prop,(∀ s,WalkL P rd n J cs k s Q→K s)→runX P ops ps ops.toList st K):WalkL P rd n J (.region id ops false::cs) k st Q:=by
 obtain ⟨s1,h1,h2⟩:=z607 ps _ _ _ (h _ fun _ h=>h)
 exact z382 h1 h2
def lift (rows:List (List DV)):List (List AV):=rows.map fun r=>r.map .d
def St.toA (n:Nat) (st:St):St:=match (st.m[n]?:Option (Option Blk)) with
 | some (some (.arr e z rows))=>{ st with m:=st.m.set n (some (.arrA e z (lift rows))) }
 | _=>st
section
variable {P:Program} {base:Own} {out:Own} {st st':St} {μ:Pl} {tmps:Array Value} {w:World}
theorem StRel.retell (h:StRel P base out st μ tmps w) {n:Nat} {b b':Blk} (hb:st.m[n]?=some (some b)) (hr:BlkRel w (ownOf out μ) μ n b→BlkRel w (ownOf out μ) μ n b') :
  StRel P base out { st with m:=st.m.set n (some b') } μ tmps w:=by
 have hl:n<st.m.length:=(List.getElem?_eq_some_iff.1 hb).1
 refine ⟨h.size,h.tmp,⟨fun k x hk=>?_,fun k hk=>?_,h.mem.inj,h.mem.base⟩,h.hid,h.out,h.le⟩
 ·dsimp only at hk
  rw [List.getElem?_set] at hk
  split at hk
  ·rename_i e
   subst e
   simp only [Option.some.injEq] at hk
   cases hk
   exact hr (h.mem.blk _ _ hb)
  ·exact h.mem.blk k x hk
 ·obtain ⟨x,hx⟩:=h.mem.dom k hk
  dsimp only
  rw [List.getElem?_set]
  split
  ·rename_i e
   exact ⟨b',by simp [hl]⟩
  ·exact ⟨x,hx⟩
theorem z824 {rows:List (List DV)} {i j:Nat} {r:List AV} {x:AV} (h1:(lift rows)[i]?=some r) (h2:r[j]?=some x):∃ r0 d,rows[i]?=some r0∧r0[j]?=some d∧x=.d d:=by
 simp only [lift,List.getElem?_map,Option.map_eq_some_iff] at h1
 obtain ⟨r0,h1,rfl⟩:=h1
 simp only [List.getElem?_map,Option.map_eq_some_iff] at h2
 obtain ⟨d,h2,rfl⟩:=h2
 exact ⟨r0,d,h1,h2,rfl⟩
theorem z792 (n:Nat) (st:St):Weak st (st.toA n):=by
 intro P base out μ tmps w h
 unfold St.toA
 split
 ·rename_i e z rows hn
  refine ⟨μ,h.retell hn fun hr=>?_,fun _ hb=>hb⟩
  rcases hr with ⟨h0,rfl⟩ | ⟨b,cap,cs,h1,h2,h3,h4,h5,h6,h7⟩
  ·exact .inl ⟨h0,rfl⟩
  ·refine .inr ⟨b,cap,cs,by simpa [lift] using h1,h2,by simpa [lift] using h3,h4,h5,fun r hr=>?_,fun i r j x hi hj=>?_⟩
   ·simp only [lift,List.mem_map] at hr
    obtain ⟨q,hq,rfl⟩:=hr
    simpa using h6 q hq
   ·obtain ⟨r0,d,q1,q2,rfl⟩:=z824 hi hj
    obtain ⟨v,p1,p2,p3⟩:=h7 i r0 j d q1 q2
    exact ⟨v,p1,p2,.d p3⟩
 ·exact ⟨μ,h,fun _ hb=>hb⟩
end
theorem z721 {P:Program} {rd:Option Nat} {n:Nat} {J:Env} {c:Code} {cs:List Code} {k:Option Nat} {st:St} {Q:Exit→Option Nat→St→Prop} (a:Nat) (h:WalkL P rd n J (c::cs) k (st.toA a) Q):WalkL P rd n J (c::cs) k st Q :=
 z53 (z792 a st) h
theorem z823:lift []=[]:=rfl
theorem z763 (n:Nat):killN n []=[]:=rfl
theorem z452 (n:Nat) (a b:List (List AV)):killN n (a++b)=killN n a++killN n b:=by simp [killN]
theorem z701 (n:Nat) (r:List AV) (b:List (List AV)):killN n (r::b)=(r.map (AV.sub n fun _=>.undef))::killN n b:=rfl
attribute [go_sem] rowsA opBuildSliceA headA opAppendA stepX St.toA z823 z763 z452 z701 lenA
end Go.Ab
/- Arrays of arrays: names in a row behind all other names. -/
namespace Go.Ab
open Go.RowKit
def nm (L k:Nat):List (List AV):=(List.range k).map fun j=>[.own (j + L)]
def arrs (e z:Nat) (rs:List (List (List DV))):List (Option Blk):=rs.map fun r=>some (.arr e z r)
theorem z625 (e z:Nat) (rs:List (List (List DV))):(arrs e z rs).length=rs.length:=by simp [arrs]
theorem z841 (e z:Nat) (rs:List (List (List DV))):(arrs e z rs).all Option.isSome=true:=by simp [arrs]
theorem z840 (e z:Nat):arrs e z []=[]:=rfl
theorem z782 (e z:Nat) (rs:List (List (List DV))) (r:List (List DV)):arrs e z rs++[some (.arr e z r)]=arrs e z (rs++[r]):=by simp [arrs]
theorem z69 {e z i:Nat} {rs:List (List (List DV))} {r:List (List DV)} (h:rs[i]?=some r):(arrs e z rs)[i]?=some (some (.arr e z r)):=by simp [arrs,h]
theorem z839 (e z i:Nat) (rs:List (List (List DV))) (r:List (List DV)):(arrs e z rs).set i (some (.arr e z r))=arrs e z (rs.set i r):=by simp [arrs,List.map_set]
theorem z783 (e z:Nat) (h:Nat→Option Nat) (rs:List (List (List DV))):(arrs e z rs).map (Option.map (Blk.mapN h))=arrs e z rs:=by
 simp only [arrs,List.map_map]
 exact List.map_congr_left fun _ _=>rfl
theorem z38 (n:Nat) (f:AV→AV) (e z:Nat):∀ rs:List (List (List DV)),subMem n f (arrs e z rs)=arrs e z rs
 | []=>rfl
 | r::rs=>by
  change some ((Blk.arr e z r).sub n f)::subMem n f (arrs e z rs)=_
  rw [z38 n f e z rs]
  rfl
theorem z307 {news:List Nat}:∀ {l:List (Option Blk)} {i:Nat},(∀ n,i≤n→n ∉ news)→lessM news i l l
 | [],_,_=>trivial
 | x::l,i,h=>by
  refine ⟨?_,z307 fun n hn=>h n (by omega)⟩
  have hx:=h i (Nat.le_refl _)
  rcases x with _ | b
  ·exact .inl hx
  ·cases b with
   | box r =>
    refine ⟨hx,?_⟩
    have:∀ r:List AV,lessT news r r:=by
     intro r
     induction r with
     | nil=>trivial
     | cons y ys ih=>exact ⟨.inr (.inl rfl),ih⟩
    exact this r
   | arr=>exact ⟨hx,rfl,rfl,rfl⟩
   | arrP=>exact ⟨hx,rfl,rfl,rfl⟩
   | arrA=>exact ⟨hx,rfl,rfl,rfl⟩
   | mp=>exact ⟨hx,rfl,rfl,rfl⟩
theorem z697 (i e z:Nat) (rs:List (List (List DV))):lessM [] i (arrs e z rs) (arrs e z rs):=z307 (by simp)
theorem z232 {m:List (Option Blk)} (e z:Nat):∀ rs:List (List (List DV)),liveM m (arrs e z rs)=true
 | []=>rfl
 | r::rs=>by
  change liveM m (arrs e z rs)=true
  exact z232 e z rs
theorem z718 (k:Nat) (st:St):Weak st { st with m:=st.m++List.replicate k none }:=by
 intro P base out μ tmps w h
 have hg:∀ (n:Nat) b,(st.m++List.replicate k none)[n]?=some (some b)→st.m[n]?=some (some b):=by
  intro n b hn
  rcases Nat.lt_or_ge n st.m.length with h1 | h1
  ·rwa [List.getElem?_append_left h1] at hn
  ·rw [List.getElem?_append_right h1,List.getElem?_replicate] at hn
   split at hn <;> cases hn
 refine ⟨μ,⟨h.size,h.tmp,⟨fun n b hn=>h.mem.blk n b (hg n b hn),fun n hn=>?_,h.mem.inj,h.mem.base⟩,h.hid,h.out,h.le⟩,fun _ hb=>hb⟩
 obtain ⟨b,hb⟩:=h.mem.dom n hn
 exact ⟨b,by dsimp only;rw [List.getElem?_append_left (List.getElem?_eq_some_iff.1 hb).1];exact hb⟩
theorem z124 {P:Program} {rd:Option Nat} {n:Nat} {J:Env} {c:Code} {cs:List Code} {k:Option Nat} {st:St} {Q:Exit→Option Nat→St→Prop} (g:Nat) (h:WalkL P rd n J (c::cs) k { st with m:=st.m++List.replicate g none } Q):WalkL P rd n J (c::cs) k st Q :=
 z53 (z718 g st) h
def rowN (L k:Nat):List Nat:=(List.range k).map (· + L)
theorem z806 (L k:Nat):(rowN L k).length=k:=by simp [rowN]
theorem z807 {L k j:Nat} (h:j<k):(rowN L k)[j]?=some (j + L):=by simp [rowN,h]
theorem z354 {L k n:Nat}:n ∈ rowN L k↔L≤n∧n<L + k:=by
 simp only [rowN,List.mem_map,List.mem_range]
 constructor
 ·rintro ⟨j,hj,rfl⟩;omega
 ·rintro ⟨h1,h2⟩;exact ⟨n - L,by omega,by omega⟩
theorem z298 (L k:Nat):(rowN L k).Nodup:=by
 unfold rowN
 refine List.Pairwise.map _ ?_ List.nodup_range
 intro a b h
 simp only [ne_eq] at h ⊢
 omega
theorem z163 (L k:Nat):rowN L (k + 1)=L::rowN (L + 1) k:=by
 simp only [rowN,List.range_succ_eq_map,List.map_cons,List.map_map]
 refine congr (congrArg _ (by omega)) (List.map_congr_left fun j _=>?_)
 simp only [Function.comp_apply]
 omega
theorem z765:∀ (L k j:Nat),j<k→inv (rowN L k) (j + L)=some j
 | _,0,_,h=>absurd h (Nat.not_lt_zero _)
 | L,k + 1,0,_=>by rw [z163];simp [inv]
 | L,k + 1,j + 1,h=>by
  rw [z163]
  simp only [inv]
  rw [if_neg (by omega),show j + 1 + L=j + (L + 1) by omega,z765 (L + 1) k j (by omega)]
  rfl
theorem z826 {d L k j:Nat} (hd:d<L) (h:j<k):inv (d::rowN L k) (j + L)=some (j + 1):=by
 simp only [inv]
 rw [if_neg (by omega),z765 L k j h]
 rfl
theorem z483 {s:St} {gs:List Nat} {e z:Nat}:∀ {rs:List (List (List DV))} {L:Nat},(∀ j r,rs[j]?=some r→s.m[j + L]?=some (some (.arr e z r)))→blksG s gs (rowN L rs.length) (rs.map fun r=>Blk.arr e z r)
 | [],_,_=>trivial
 | r::rs,L,h=>by
  rw [List.length_cons,z163,List.map_cons]
  refine ⟨?_,z483 fun j r' hj=>?_⟩
  ·have:=h 0 r rfl
   rw [Nat.zero_add] at this
   rw [this]
   rfl
  ·have:=h (j + 1) r' (by simpa using hj)
   rwa [show j + (L + 1)=j + 1 + L by omega]
theorem z608 {e z:Nat}:∀ (rs:List (List (List DV))) (a:List (Option Blk)) (L:Nat),a.length=L→putM (rowN L rs.length) (rs.map fun r=>Blk.arr e z r) (a++List.replicate rs.length none)=a++arrs e z rs
 | [],a,_,_=>by simp [rowN,putM,arrs]
 | r::rs,a,L,h=>by
  rw [List.length_cons,z163,List.map_cons,putM,List.replicate_succ,List.set_append_right _ _ (by omega),h,Nat.sub_self,List.set_cons_zero,
   show a++some (Blk.arr e z r)::List.replicate rs.length none=(a++[some (Blk.arr e z r)])++List.replicate rs.length none by simp,z608 (e:=e) (z:=z) rs (a++[some (Blk.arr e z r)]) (L + 1) (by simp [h])]
  simp [arrs]
end Go.Ab
/- An array of arrays of the call's own,as an array of deep values: its elements are given up. -/
namespace Go.Ab
open Go.RowKit
def ltN (L n:Nat):Option Nat:=if n<L then some n else none
def flatRows (rs:List (List (List DV))):List (List DV):=rs.map fun r=>[.sl r]
attribute [go_sem] ltN
end Go.Ab
/- Calls of functions that make an array of arrays. -/
namespace Go.Ab
open Go.RowKit
end Go.Ab
/- An array of structs that hold arrays of the call's own,as an array of deep values. -/
namespace Go.Ab
open Go.RowKit
def upCell (L:Nat) (rs:List (List (List DV))) (x:AV) (d:DV):Prop:=x=.d d∨∃ q r,x=.own (q + L)∧rs[q]?=some r∧d=.sl r
def upRows (L:Nat) (rs:List (List (List DV))) (rows:List (List AV)) (res:List (List DV)):Prop :=
 res.length=rows.length∧∀ (i:Nat) r',res[i]?=some r'→∃ r,rows[i]?=some r∧r'.length=r.length∧∀ (j:Nat) d,r'[j]?=some d→∃ x,r[j]?=some x∧upCell L rs x d
theorem z631 {st:St} {L d e z e1 z1:Nat} {rs:List (List (List DV))} {rows:List (List AV)} {res:List (List DV)} (hL:d<L) (hl:L≤st.m.length) (hd:st.m[d]?=some (some (.arrA e z rows))) (hrows:upRows L rs rows res) (hr:∀ j r,rs[j]?=some r→st.m[j + L]?=some (some (.arr e1 z1 r))) :
  Weak st { t:=st.t.map (AV.mapN (ltN L)),m:=((st.m.take L).map (Option.map (Blk.mapN (ltN L)))).set d (some (.arr e z res)) }:=by
 intro P base out μ tmps w h
 obtain ⟨μ',hμ'⟩:∃ μ':Pl,μ'=fun k=>if k<L then μ k else none:=⟨_,rfl⟩
 have hs:∀ k L',μ' k=some L'→k<L∧μ k=some L':=by
  intro k L' hk
  rw [hμ'] at hk
  dsimp only at hk
  split at hk
  ·rename_i e;exact ⟨e,hk⟩
  ·cases hk
 have hsub:∀ b,ownOf out μ' b→ownOf out μ b:=by
  rintro b (h | ⟨n,z,l,c,h⟩)
  ·exact .inl h
  ·exact .inr ⟨n,z,l,c,(hs n _ h).2⟩
 have hg:Goes w (ownOf out μ) w (ownOf out μ'):=fun b o v h1 h2=>⟨fun hc=>h1 (hsub b hc),h2⟩
 have hmv:∀ n,(μ n).isSome→∀ k,ltN L n=some k→μ' k=μ n:=by
  intro n _ k hk
  unfold ltN at hk
  split at hk
  ·rename_i e;cases hk;rw [hμ'];simp only;rw [if_pos e]
  ·cases hk
 have hlen:((st.m.take L).map (Option.map (Blk.mapN (ltN L)))).length=L:=by simp;omega
 refine ⟨μ',⟨by rw [h.size];simp,fun i x v hx hv=>?_,⟨fun k b' hk=>?_,fun k hk=>?_,fun k1 k2 b' z l c z' l' c' h1 h2=>h.mem.inj k1 k2 b' _ _ _ _ _ _ (hs _ _ h1).2 (hs _ _ h2).2,fun k b' z l c hk=>h.mem.base k b' z l c (hs _ _ hk).2⟩,h.hid.less hsub,h.out,h.le⟩,hsub⟩
 ·simp only [List.getElem?_map,Option.map_eq_some_iff] at hx
  obtain ⟨y,hx,rfl⟩:=hx
  exact (h.tmp i y v hx hv).mapN (.inl hg) (fun n _ hn k hk=>hmv n hn k hk)
 ·dsimp only at hk
  rw [List.getElem?_set] at hk
  split at hk
  ·rename_i hdk
   subst hdk
   simp only [hlen,hL,if_true,Option.some.injEq] at hk
   subst hk
   have hμd:μ' d=μ d:=by rw [hμ'];simp only;rw [if_pos hL]
   rcases h.mem.arrA hd with ⟨h0,h1⟩ | ⟨b,cap,cs,q1,q2,q3,q4,q5,q6,q7⟩
   ·refine .inl ⟨hμd.trans h0,?_⟩
    have:res.length=0:=by rw [hrows.1,h1];rfl
    exact List.eq_nil_of_length_eq_zero this
   ·rw [← hrows.1] at q1 q3
    refine .inr ⟨b,cap,cs,by rw [hμd];exact q1,q2,q3,q4,q5,fun r hr=>?_,fun i r j x hi hj=>?_⟩
    ·obtain ⟨i,hi⟩:=List.mem_iff_getElem?.1 hr
     obtain ⟨r0,p1,p2,_⟩:=hrows.2 i r hi
     rw [p2]
     exact q6 r0 (List.mem_of_getElem? p1)
    ·obtain ⟨r0,p1,p2,p3⟩:=hrows.2 i r hi
     obtain ⟨y,p4,p5⟩:=p3 j x hj
     obtain ⟨v,s1,s2,s3⟩:=q7 i r0 j y p1 p4
     refine ⟨v,s1,s2,?_⟩
     rcases p5 with rfl | ⟨q,ρ,rfl,hq,rfl⟩
     ·exact s3.d_inv.goes hg
     have hno:∀ b z l c,μ (q + L)=some (.at b z l c)→¬ ownOf out μ' b:=by
      rintro b z l c hb (ho | ⟨n,z',l',c',hn⟩)
      ·exact (h.mem.base _ _ _ _ _ hb).2.2 ho
      ·obtain ⟨hn1,hn2⟩:=hs _ _ hn
       have:=h.mem.inj _ _ _ _ _ _ _ _ _ hb hn2
       omega
     rcases h.mem.arr (hr q ρ hq) with ⟨g0,rfl⟩ | ⟨b',cap',cs',g1,g2,g3,g4,g5,g6,g7⟩
     ·rcases z28 s3 with ⟨_,rfl⟩ | ⟨b2,z2,l2,c2,g1,_⟩
      ·exact .slNil
      ·rw [g0] at g1;cases g1
     ·rcases z28 s3 with ⟨g0,_⟩ | ⟨b2,z2,l2,c2,k1,rfl⟩
      ·rw [g1] at g0;cases g0
      ·rw [g1] at k1;cases k1
       have:=z141 (own':=ownOf out μ') (e:=e1) (z:=z1) (hno _ _ _ _ g1) hsub g2 g7
       refine .sl ρ b' 0 z1 cap' (fun i j=>cs'.getD (i * z1 + j) Go.undef) g3 g6 (fun i r j d h1 h2=>?_) (fun i r j d h1 h2=>(this i r j d h1 h2).2)
       rw [Nat.zero_add]
       exact (this i r j d h1 h2).1
  ·rename_i hdk
   simp only [List.getElem?_map,Option.map_eq_some_iff,List.getElem?_take] at hk
   obtain ⟨ob,hob,b0,rfl,rfl⟩:=hk
   split at hob
   ·rename_i hkL
    exact BlkRel.mapN (.inl hg) (by rw [hμ'];simp only;rw [if_pos hkL]) hmv (fun _ _ _ _ _=>rfl) (h.mem.blk k b0 hob)
   ·cases hob
 ·obtain ⟨L',hL'⟩:=Option.isSome_iff_exists.1 hk
  obtain ⟨hkL,hk'⟩:=hs k L' hL'
  obtain ⟨b',hb'⟩:=h.mem.dom k (by simp [hk'])
  dsimp only
  by_cases hkd:d=k
  ·subst hkd
   exact ⟨_,List.getElem?_set_self (by omega)⟩
  ·refine ⟨b'.mapN (ltN L),?_⟩
   rw [List.getElem?_set_ne hkd]
   simp [List.getElem?_take,hkL,hb']
theorem z98 {P:Program} {rd:Option Nat} {n:Nat} {J:Env} {c:Code} {cs:List Code} {k:Option Nat} {st:St} {Q:Exit→Option Nat→St→Prop} {L d e z e1 z1:Nat} (rs:List (List (List DV))) {rows:List (List AV)} (res:List (List DV)) (hL:d<L) (hl:L≤st.m.length) (hd:st.m[d]?=some (some (.arrA e z rows))) (hrows:upRows L rs rows res)
  (hr:∀ j r,rs[j]?=some r→st.m[j + L]?=some (some (.arr e1 z1 r)))
  (h:WalkL P rd n J (c::cs) k { t:=st.t.map (AV.mapN (ltN L)),m:=((st.m.take L).map (Option.map (Blk.mapN (ltN L)))).set d (some (.arr e z res)) } Q):WalkL P rd n J (c::cs) k st Q :=
 z53 (z631 hL hl hd hrows hr) h
theorem z874 {P:Program} {base out:Own} {st:St} {μ:Pl} {tmps:Array Value} {w:World} (h:StRel P base out st μ tmps w) {L d e z e1 z1:Nat} {rs:List (List (List DV))} {rows:List (List AV)} {res:List (List DV)} (hd:st.m[d]?=some (some (.arrA e z rows))) (hrows:upRows L rs rows res)
  (hr:∀ j r,rs[j]?=some r→st.m[j + L]?=some (some (.arr e1 z1 r))) {v:Value} (hv:AVRel w (ownOf out μ) μ (.own d) v):DRel w out (.sl res) v:=by
 have hsub:∀ b,out b→ownOf out μ b:=fun b hb=>.inl hb
 have hg:Goes w (ownOf out μ) w out:=fun b o v h1 h2=>⟨fun hc=>h1 (hsub b hc),h2⟩
 have hno:∀ q b z l c,μ q=some (.at b z l c)→¬ out b:=fun q b z l c hb ho=>(h.mem.base _ _ _ _ _ hb).2.2 ho
 rcases h.mem.arrA hd with ⟨h0,h1⟩ | ⟨b,cap,cs,q1,q2,q3,q4,q5,q6,q7⟩
 ·have h2:res=[]:=List.eq_nil_of_length_eq_zero (by rw [hrows.1,h1];rfl)
  subst h2
  rcases z28 hv with ⟨_,rfl⟩ | ⟨b2,z2,l2,c2,g1,_⟩
  ·exact .slNil
  ·rw [h0] at g1;cases g1
 ·rw [← hrows.1] at q1 q3
  rcases z28 hv with ⟨g0,_⟩ | ⟨b2,z2,l2,c2,k1,rfl⟩
  ·rw [q1] at g0;cases g0
  ·rw [q1] at k1;cases k1
   have hcell:∀ (i:Nat) r (j:Nat) x,res[i]?=some r→r[j]?=some x→∃ v,cs[i * z + j]?=some v∧v.oneCell'=true∧DRel w out x v:=by
    intro i r j x hi hj
    obtain ⟨r0,p1,p2,p3⟩:=hrows.2 i r hi
    obtain ⟨y,p4,p5⟩:=p3 j x hj
    obtain ⟨v,s1,s2,s3⟩:=q7 i r0 j y p1 p4
    refine ⟨v,s1,s2,?_⟩
    rcases p5 with rfl | ⟨q,ρ,rfl,hq,rfl⟩
    ·exact s3.d_inv.goes hg
    rcases h.mem.arr (hr q ρ hq) with ⟨g0,rfl⟩ | ⟨b',cap',cs',g1,g2,g3,g4,g5,g6,g7⟩
    ·rcases z28 s3 with ⟨_,rfl⟩ | ⟨b2,z2,l2,c2,g1,_⟩
     ·exact .slNil
     ·rw [g0] at g1;cases g1
    ·rcases z28 s3 with ⟨g0,_⟩ | ⟨b2,z2,l2,c2,k1,rfl⟩
     ·rw [g1] at g0;cases g0
     ·rw [g1] at k1;cases k1
      have:=z141 (own':=out) (e:=e1) (z:=z1) (hno _ _ _ _ _ g1) hsub g2 g7
      refine .sl ρ b' 0 z1 cap' (fun i j=>cs'.getD (i * z1 + j) Go.undef) g3 g6 (fun i r j d h1 h2=>?_) (fun i r j d h1 h2=>(this i r j d h1 h2).2)
      rw [Nat.zero_add]
      exact (this i r j d h1 h2).1
   refine .sl res b 0 z cap (fun i j=>cs.getD (i * z + j) Go.undef) q3 (fun r hr=>?_) (fun i r j x hi hj=>?_) (fun i r j x hi hj=>?_)
   ·obtain ⟨i,hi⟩:=List.mem_iff_getElem?.1 hr
    obtain ⟨r0,p1,p2,_⟩:=hrows.2 i r hi
    rw [p2]
    exact q6 r0 (List.mem_of_getElem? p1)
   ·obtain ⟨v,s1,s2,s3⟩:=hcell i r j x hi hj
    rw [z33 q2,Nat.zero_add]
    simp only [Array.getD_eq_getD_getElem?,s1,Option.getD_some]
    exact ⟨hno _ _ _ _ _ q1,trivial,s2⟩
   ·obtain ⟨v,s1,s2,s3⟩:=hcell i r j x hi hj
    simp only [Array.getD_eq_getD_getElem?,s1,Option.getD_some]
    exact s3
end Go.Ab
/- Calls to which values are lent that hold arrays of structs with own arrays. -/
namespace Go.Ab
open Go.RowKit
def Up (P:Program) (st:St) (x:AV) (d:DV):Prop:=∀ (base out:Own) (μ:Pl) (tmps:Array Value) (w:World) (v:Value),StRel P base out st μ tmps w→AVRel w (ownOf out μ) μ x v→DRel w out d v
def Ups (P:Program) (st:St):List AV→List DV→Prop
 | [],[]=>True
 | x::xs,d::ds=>Up P st x d∧Ups P st xs ds
 | _,_=>False
theorem Ups.get {P:Program} {st:St}:∀ {xs:List AV} {ds:List DV},Ups P st xs ds→xs.length=ds.length∧∀ (i:Nat) x d,xs[i]?=some x→ds[i]?=some d→Up P st x d
 | [],[],_=>⟨rfl,fun i x d h=>by simp at h⟩
 | x::xs,d::ds,h=>by
  obtain ⟨h1,h2⟩:=h.2.get
  refine ⟨by simp [h1],fun i y e hy he=>?_⟩
  cases i with
  | zero=>simp at hy he;subst hy he;exact h.1
  | succ i=>exact h2 i y e (by simpa using hy) (by simpa using he)
 | [],_::_,h=>h.elim
 | _::_,[],h=>h.elim
theorem z843 (P:Program) (st:St) (d:DV):Up P st (.d d) d:=fun base out μ tmps w v h hv=>hv.d_inv.goes fun b o u h1 h2=>⟨fun hc=>h1 (.inl hc),h2⟩
theorem z604 {P:Program} {st:St} {L d e z e1 z1:Nat} (rs:List (List (List DV))) {rows:List (List AV)} {res:List (List DV)} (hd:st.m[d]?=some (some (.arrA e z rows))) (hrows:upRows L rs rows res)
  (hr:∀ j r,rs[j]?=some r→st.m[j + L]?=some (some (.arr e1 z1 r))):Up P st (.own d) (.sl res):=fun base out μ tmps w v h hv=>z874 h hd hrows hr hv
theorem z605 {P:Program} {st:St} {xs:List AV} {ds:List DV} (h:Ups P st xs ds):Up P st (.agg xs) (.agg ds):=fun base out μ tmps w v hst hv=>by
 obtain ⟨h1,h2⟩:=h.get
 cases hv with
 | agg _ vs hl hd =>
  refine .agg ds vs (h1.symm.trans hl) fun i d v hi hvi=>?_
  have hil:i<xs.length:=by rw [h1];exact (List.getElem?_eq_some_iff.1 hi).1
  exact h2 i xs[i] d (List.getElem?_eq_getElem hil) hi base out μ tmps w v hst (hd i xs[i] v (List.getElem?_eq_getElem hil) hvi)
theorem CallR.lentUp {P:Program} {st:St} {dst:Option Tmp} {g:FuncId} {xs:List AV} (ds:List DV) {r:DV} (hu:Ups P st xs ds) (hf:Fn P g ds r) (hr:r.flat=true):CallR P st dst g xs (st.put dst (.d r)) :=
 .lentG ds r (fun base out μ tmps w vs hst hl hv=>by
  obtain ⟨h1,h2⟩:=hu.get
  refine ⟨h1.symm.trans hl,fun i d v hi hvi=>?_⟩
  have hil:i<xs.length:=by rw [h1];exact (List.getElem?_eq_some_iff.1 hi).1
  exact h2 i xs[i] d (List.getElem?_eq_getElem hil) hi base out μ tmps w v hst (hv i xs[i] v (List.getElem?_eq_getElem hil) hvi)) hf hr
end Go.Ab
/- Calls of functions that make a block that names a row of arrays. -/
namespace Go.Ab
open Go.RowKit
theorem CallR.madeB {P:Program} {st:St} {dst:Option Tmp} {g:FuncId} {xs:List AV} {ds:List DV} {r:AV} {B:Blk} {e1 z1:Nat} {rs:List (List (List DV))} (d L:Nat)
  (hf:FnG P g [] [] (ds.map AV.d) r (B::rs.map fun r=>Blk.arr e1 z1 r)) (hd:reifyAll st xs=some ds) (hx:AV.refsAll xs=[]) (hdL:d<L) (hl:L≤st.m.length) (hfr:(st.m.take L)[d]?=some none)
  (hm:st.m.drop L=List.replicate rs.length none):CallR P st dst g xs (({ st with m:=(st.m.take L).set d (some (B.mapN fun i=>(d::rowN L rs.length)[i]?))++arrs e1 z1 rs }:St).put dst (r.mapN fun i=>(d::rowN L rs.length)[i]?)):=by
 have hmm:st.m=st.m.take L++List.replicate rs.length none:=by rw [← hm,List.take_append_drop]
 have hal:(st.m.take L).length=L:=by simp;omega
 have hdm:d ∉ rowN L rs.length:=fun h=>by have:=z354.1 h;omega
 have h:=CallR.made (dst:=dst) (d::rowN L rs.length) hf hd (List.nodup_cons.2 ⟨hdm,z298 L _⟩) (by simp [z806]) (by
  rw [List.all_eq_true]
  intro n hn
  unfold St.fresh
  rcases List.mem_cons.1 hn with rfl | hn
  ·have:st.m[n]?=some none:=by rw [hmm,List.getElem?_append_left (by omega)];exact hfr
   rw [this]
  ·have hn:=z354.1 hn
   have:st.m[n]?=some none:=by
    rw [hmm,List.getElem?_append_right (by omega),hal,List.getElem?_replicate,if_pos (by omega)]
   rw [this]) hx
 have e1:putM (d::rowN L rs.length) ((B::rs.map fun r=>Blk.arr e1 z1 r).map (Blk.mapN fun i=>(d::rowN L rs.length)[i]?)) st.m=(st.m.take L).set d (some (B.mapN fun i=>(d::rowN L rs.length)[i]?))++arrs e1 z1 rs:=by
  rw [List.map_cons,putM]
  have e2:(rs.map fun r=>Blk.arr e1 z1 r).map (Blk.mapN fun i=>(d::rowN L rs.length)[i]?)=rs.map fun r=>Blk.arr e1 z1 r:=by
   rw [List.map_map];rfl
  rw [e2]
  conv=>lhs;rw [hmm]
  rw [List.set_append_left _ _ (by omega)]
  exact z608 rs _ L (by rw [List.length_set];exact hal)
 rw [e1] at h
 exact h
theorem z808 {d L k j:Nat} (h:j<k):(d::rowN L k)[j + 1]?=some (j + L):=by rw [List.getElem?_cons_succ,z807 h]
end Go.Ab
namespace Go.Ab
open Go.RowKit Go.Proofs
set_option maxHeartbeats 8000000
set_option maxRecDepth 20000
attribute [local irreducible] WalkL Walk
def opRows (x:Path):List (List DV):=x.opens.map Span.row
def pRow (L j:Nat) (x:Path):List AV:=[.d (.i x.frm),.d (.i x.to),.d (.i x.grade),.d (.i x.time.lo),.d (.i x.time.hi),.d (.i x.snow.lo),.d (.i x.snow.hi),.own (j + L)]
def pRows (L:Nat):Nat→List Path→List (List AV)
 | _,[]=>[]
 | j,x::xs=>pRow L j x::pRows L (j + 1) xs
theorem z27 (L:Nat):∀ (l:List Path) (j:Nat),(pRows L j l).length=l.length
 | [],_=>rfl
 | x::xs,j=>by simp [pRows,z27 L xs (j + 1)]
theorem z302 (L:Nat) (x:Path):∀ (l:List Path) (j:Nat),pRows L j l++[pRow L (j + l.length) x]=pRows L j (l++[x])
 | [],_=>rfl
 | y::l,j=>by
  have:=z302 L x l (j + 1)
  simp only [pRows,List.cons_append,List.length_cons]
  rw [← this,show j + (l.length + 1)=j + 1 + l.length by omega]
theorem z229 (L:Nat):∀ (l:List Path) (j i:Nat) (x:Path),l[i]?=some x→(pRows L j l)[i]?=some (pRow L (j + i) x)
 | [],_,_,_,h=>by simp at h
 | y::l,j,0,x,h=>by simp at h;subst h;rfl
 | y::l,j,i + 1,x,h=>by
  have:=z229 L l (j + 1) i x (by simpa using h)
  rw [show j + (i + 1)=j + 1 + i by omega]
  simpa [pRows] using this
theorem z167 (L:Nat) (x:Path):∀ (l:List Path) (j i:Nat),i<l.length→(pRows L j l).set i (pRow L (j + i) x)=pRows L j (l.set i x)
 | [],_,_,h=>by simp at h
 | y::l,j,0,_=>rfl
 | y::l,j,i + 1,h=>by
  have:=z167 L x l (j + 1) i (by simpa using h)
  rw [show j + (i + 1)=j + 1 + i by omega]
  simp only [pRows,List.set_cons_succ]
  rw [this]
theorem z48 {n L:Nat} (h:n<L) (f:AV→AV):∀ (l:List Path) (j:Nat),((pRows L j l).map fun r=>r.map (AV.sub n f))=pRows L j l
 | [],_=>rfl
 | x::xs,j=>by
  rw [pRows,List.map_cons,z48 h f xs (j + 1)]
  congr 1
  simp only [pRow,List.map_cons,List.map_nil,AV.sub]
  rw [if_neg (by omega)]
theorem z134 {L L':Nat} {h:Nat→Option Nat}:∀ (l:List Path) (j:Nat),(∀ i,j≤i→i<j + l.length→h (i + L)=some (i + L'))→((pRows L j l).map fun r=>r.map (AV.mapN h))=pRows L' j l
 | [],_,_=>rfl
 | x::xs,j,hh=>by
  rw [pRows,List.map_cons,z134 xs (j + 1) (fun i h1 h2=>hh i (by omega) (by simp only [List.length_cons];omega))]
  congr 1
  simp only [pRow,List.map_cons,List.map_nil,AV.mapN]
  rw [hh j (Nat.le_refl _) (by simp)]
theorem z811 {a L:Nat} (h:a<L) (b:Nat) (l:List Path) (j:Nat):((pRows L j l).map fun r=>r.map (AV.mapN (mv a b)))=pRows L j l:=z134 l j fun i _ _=>by unfold mv;rw [if_neg (by omega)]
theorem z305 {m:List (Option Blk)} {L:Nat}:∀ (l:List Path) (j:Nat),j + l.length≤(m.drop L).length→(m.drop L).all Option.isSome=true→((pRows L j l).all fun r=>r.all (liveB m))=true
 | [],_,_,_=>rfl
 | x::xs,j,h1,h2=>by
  rw [pRows,List.all_cons,z305 xs (j + 1) (by simp only [List.length_cons] at h1;omega) h2,Bool.and_true]
  have hl:liveB m (.own (j + L))=true:=by
   simp only [liveB,AV.refs,List.all_cons,List.all_nil,Bool.and_true]
   simp only [List.length_cons] at h1
   obtain ⟨y,hy⟩:∃ y,(m.drop L)[j]?=some y:=⟨_,List.getElem?_eq_getElem (by omega)⟩
   have h3:=List.all_eq_true.1 h2 y (List.mem_of_getElem? hy)
   rw [List.getElem?_drop,Nat.add_comm] at hy
   rw [hy]
   cases y with
   | none=>cases h3
   | some b=>rfl
  simp only [pRow,List.all_cons,List.all_nil,Bool.and_true]
  rw [hl]
  rfl
theorem z166 (L:Nat) (ps:List Path):upRows L (ps.map opRows) (pRows L 0 ps) (ps.map Path.row):=by
 refine ⟨by rw [z27,List.length_map],fun i r' hi=>?_⟩
 simp only [List.getElem?_map,Option.map_eq_some_iff] at hi
 obtain ⟨x,hx,rfl⟩:=hi
 refine ⟨pRow L i x,by have:=z229 L ps 0 i x hx;simpa using this,rfl,fun j d hj=>?_⟩
 match j,hj with
 | 0,hj=>cases hj;exact ⟨_,rfl,.inl rfl⟩
 | 1,hj=>cases hj;exact ⟨_,rfl,.inl rfl⟩
 | 2,hj=>cases hj;exact ⟨_,rfl,.inl rfl⟩
 | 3,hj=>cases hj;exact ⟨_,rfl,.inl rfl⟩
 | 4,hj=>cases hj;exact ⟨_,rfl,.inl rfl⟩
 | 5,hj=>cases hj;exact ⟨_,rfl,.inl rfl⟩
 | 6,hj=>cases hj;exact ⟨_,rfl,.inl rfl⟩
 | 7,hj=>cases hj;exact ⟨_,rfl,.inr ⟨i,opRows x,rfl,by simp [hx],rfl⟩⟩
 | j + 8,hj=>simp [Path.row] at hj
theorem z750 (L:Nat):pRows L 0 []=[]:=rfl
theorem z276 (l:List Span):headIs 2 (l.map Span.row)=true:=by cases l <;> rfl
def opBlks (l:List Path):List Blk:=(l.map opRows).map fun r=>Blk.arr 26 2 r
theorem z600 {s:St} {gs:List Nat} {e z:Nat} {rs:List (List (List DV))} {L k:Nat} (hk:rs.length=k) (h:∀ j r,rs[j]?=some r→s.m[j + L]?=some (some (.arr e z r))):blksG s gs (rowN L k) (rs.map fun r=>Blk.arr e z r):=by
 subst hk
 exact z483 h
theorem z894 (n:Net) (hs:n.Small):FnG Try.prog 14 [] [] (List.map AV.d [.agg n.cells]) (.agg [.d (.i n.places),.own 0]) (.arrA 49 8 (pRows 1 0 n.paths)::opBlks n.paths):=by
 have hpl:=hs.paths
 refine z614 33 Try.call14 Try.func14 rfl (by decide) (30::rowN 33 n.paths.length) [] (by
  have h1:=z298 33 n.paths.length
  refine List.nodup_cons.2 ⟨fun h=>?_,h1⟩
  have:=z354.1 h
  omega) (by kernel_rfl) fun J=>?_
 simp only [go_sem,St.startG,Try.ntmps14,Try.results14,Net.cells,List.map_cons,List.map_nil,List.range_succ]
 repeat (first | refine nx ?_ | (refine z3 fun K hK=>?_;simp only [go_sem];apply hK;clear hK K))
 refine z635 [] [] [(3,some (.box [.d (.i n.places),.own 30])),(30,some (.arr 49 8 []))] ?_ ?_
 ·simp only [go_sem]
  refine z39 [30] ?_ ?_ rfl rfl <;> simp [lessT,lessM,lessB,AV.less]
 simp only [go_sem]
 refine z721 30 ?_
 simp only [go_sem]
 refine z221 33 (fun (i:Nat)=>[(4,.d (.i (i:Int)))]) (fun i=>[(3,some (.box [.d (.i n.places),.own 30])),(30,some (.arrA 49 8 (pRows 33 0 (n.paths.take i))))]) (fun i=>arrs 26 2 ((n.paths.take i).map opRows)) (fun i=>i≤n.paths.length) (fun i=>n.paths.length - i) 0 ?_ (Nat.zero_le _) ?_
 ·simp only [go_sem,List.take_zero,List.map_nil,z840,z750]
  refine weA ?_ ?_ <;> simp
 ·intro i hi
  simp only [go_sem]
  repeat (first | refine nx ?_ | (refine z3 fun K hK=>?_;simp only [go_sem];apply hK;clear hK K))
  refine z5 rfl (fun hb=>?_) (fun hb=>?_)
  ·have hlt:i<n.paths.length:=by simpa using hb
   have hw:IntKind.i64.wrap ((i:Int) + 1)=((i + 1:Nat):Int):=by rw [z12 (by omega)];simp
   obtain ⟨x,hx⟩:∃ x,n.paths[i]?=some x:=⟨_,List.getElem?_eq_getElem hlt⟩
   have hxo:=hs.opens x (List.mem_of_getElem? hx)
   have h1:x.opens.length≤549755813888:=by omega
   have hlt2:(n.paths.take i).length + 1≤549755813888:=by rw [List.length_take];omega
   have hti:(n.paths.take i).length=i:=by rw [List.length_take];omega
   have hs21:=fun f=>z48 (n:=21) (L:=33) (by decide) f (n.paths.take i) 0
   have hs30:=fun f=>z48 (n:=30) (L:=33) (by decide) f (n.paths.take i) 0
   have hk30:killN 30 (pRows 33 0 (n.paths.take i))=pRows 33 0 (n.paths.take i):=hs30 _
   have htk:n.paths.take (i + 1)=n.paths.take i++[x]:=by rw [List.take_add_one,hx];rfl
   have hmv:(pRows 33 0 (n.paths.take i)++[[AV.d (.i x.frm),AV.d (.i x.to),AV.d (.i x.grade),AV.d (.i x.time.lo),AV.d (.i x.time.hi),AV.d (.i x.snow.lo),AV.d (.i x.snow.hi),AV.own 21]]).map (fun r=>r.map (AV.mapN (mv 21 (i + 33))))=pRows 33 0 (n.paths.take (i + 1)):=by
    rw [List.map_append,z811 (by decide),htk,← z302,hti,Nat.zero_add]
    rfl
   have hax:arrs 26 2 ((n.paths.take i).map opRows)++[some (.arr 26 2 (x.opens.map Span.row))]=arrs 26 2 ((n.paths.take (i + 1)).map opRows):=by rw [z782,htk,List.map_append];rfl
   repeat (first | refine nx ?_ | (refine z3 fun K hK=>?_;simp only [go_sem,hx,List.getElem?_map,Path.row,h1,z276,hs21,z38,List.nil_append,List.length_nil,Nat.zero_add,List.length_map];apply hK;clear hK K))
   refine z57 [3,0] fun K hK=>?_
   simp only [go_sem,runX,List.take_succ_cons,List.take_zero,List.drop_succ_cons,List.drop_zero,hlt2,hs30,hk30,z27,z38,List.length_cons,List.length_nil,Nat.zero_add]
   apply hK
   clear hK K
   repeat refine nx ?_
   refine z220 21 (i + 33) ?_ _ rfl ?_
   ·simp only [go_sem,z625,List.length_map,List.length_take,Nat.min_eq_left hi]
   simp only [go_sem,hmv,z783,hax]
   repeat (first | refine nx ?_ | (refine z3 fun K hK=>?_;simp only [go_sem,hw];apply hK;clear hK K))
   refine ⟨rfl,i + 1,?_,hlt,by omega⟩
   refine z39 [] ?_ ?_ rfl ?_
   ·simp [lessT,AV.less]
   ·simp [lessT,lessM,lessB,AV.less,z697]
   ·simp only [liveM,z232,List.all_cons,List.all_nil,Bool.and_true]
    exact Bool.and_eq_true_iff.2 ⟨rfl,z305 _ 0 (by simp [z625] <;> omega) (z841 26 2 _)⟩
  ·have he:i=n.paths.length:=by (have:¬ i<n.paths.length:=by simpa using hb);omega
   subst he
   rw [List.take_length]
   repeat (first | refine nx ?_ | (refine z3 fun K hK=>?_;simp only [go_sem];apply hK;clear hK K))
   simp only [go_sem,retG,namesG,List.range_zero,List.map_nil,List.nil_append,inv]
   refine ⟨congrArg (Blk.arrA 49 8) (z134 (h:=inv (30::rowN 33 n.paths.length)) n.paths 0 fun j _ hj=>z826 (by decide) (by omega)).symm,?_⟩
   exact z600 (by simp) fun j r hj=>by
    simp only [List.getElem?_cons_succ]
    exact z69 hj
end Go.Ab
namespace Go.Ab
open Go.RowKit Go.Proofs
set_option maxHeartbeats 4000000
set_option maxRecDepth 20000
attribute [local irreducible] WalkL Walk
end Go.Ab
namespace Go.Ab
open Go.RowKit Go.Proofs
set_option maxHeartbeats 4000000
set_option maxRecDepth 20000
attribute [local irreducible] WalkL Walk
def onB (n:Net) (p:Party) (f i:Int):Option Int :=
 if withinB i 0 (n.paths.length - 1) then match n.paths[i.toNat]? with
  | some x=>if x.grade≤p.grade∧x.frm=f then some x.to else none
  | none=>none
 else none
def walkR (n:Net) (p:Party) (f:Int) (l:List Int):Option Int:=l.foldl (fun s i=>s.bind fun g=>onB n p g i) (some f)
def isRouteB (n:Net) (p:Party) (f:Int) (l:List Int):Bool:=(walkR n p f l).isSome && decide ((l.length:Int)≤30)
end Go.Ab
namespace Go.Ab
open Go.RowKit Go.Proofs
set_option maxHeartbeats 4000000
set_option maxRecDepth 20000
attribute [local irreducible] WalkL Walk
def noPath:Path:=⟨0,0,0,⟨0,0⟩,⟨0,0⟩,[]⟩
def pathAt (n:Net) (v:Int):Path:=n.paths.getD v.toNat noPath
def roundW (n:Net) (p:Party) (waits times:List Int) (i:Nat) (v at0:Int):Option Int :=
 let e:=enterF (pathAt n v).opens (if i<waits.length then wr (at0 + getI waits i) else at0)
 if e ≥ 1073741824 then none else some (wr (e + if i<times.length then getI times i else (spanW (pathAt n v) p).hi))
def walkedAt (n:Net) (p:Party) (route waits times:List Int) (start:Int):Nat→Option Int
 | 0=>some start
 | i + 1=>(walkedAt n p route waits times start i).bind (roundW n p waits times i (getI route i))
def walkedF (n:Net) (p:Party) (route:List Int) (start:Int) (waits times:List Int):Int:=(walkedAt n p route waits times start route.length).getD 1073741824
def onNet (n:Net) (v:Int):Prop:=0≤v∧v<n.paths.length
end Go.Ab
namespace Go.Ab
open Go.RowKit Go.Proofs
set_option maxHeartbeats 4000000
set_option maxRecDepth 20000
attribute [local irreducible] WalkL Walk
end Go.Ab
namespace Go.Ab
open Go.RowKit Go.Proofs
set_option maxHeartbeats 4000000
set_option maxRecDepth 20000
attribute [local irreducible] WalkL Walk
def turnF (n:Net) (p:Party) (by1:List Int):List Int→Int→Nat→Int
 | [],_,k=>k
 | v::r,t,k=>if arriveF (pathAt n v).opens t (spanW (pathAt n v) p).hi > getI by1 (pathAt n v).to then k else turnF n p by1 r (arriveF (pathAt n v).opens t (spanW (pathAt n v) p).hi) (k + 1)
def turnL (n:Net) (p:Party) (route:List Int) (frm start home deadline:Int):Int × Int :=
 if openF n p [frm,home] [start,deadline]=0 then
  if isRouteB n p frm route then
   if start > getI (deadlinesL n p home deadline) frm then (-1,0) else (turnF n p (deadlinesL n p home deadline) route start 0,0)
  else (0,12)
 else (0,openF n p [frm,home] [start,deadline])
end Go.Ab
namespace Go.Ab
open Go.RowKit Go.Proofs
def goOn (n:Net) (p:Party) (s:Int × Int) (v:Int):Int × Int:=((pathAt n v).to,arriveF (pathAt n v).opens s.2 (spanW (pathAt n v) p).hi)
def posR (n:Net) (p:Party) (s:Int × Int) (l:List Int) (i:Nat):Int × Int:=(l.take i).foldl (goOn n p) s
end Go.Ab
/- Plain law of layer 1: the document's table is the program's arrivals. -/
namespace Go.Ab
open Go.RowKit Go.Proofs
set_option maxHeartbeats 1000000
theorem z218 (p:Party) (but:Int):∀ (l:List Path) (i j:Nat) (x:Path),l[j]?=some x→((i + j:Nat):Int)≠but→x.grade≤p.grade→(i + j,x) ∈ waysFrom p but l i
 | [],i,j,x,h,_,_=>by simp at h
 | y::l,i,0,x,h,h1,h2=>by
  simp at h;subst h
  unfold waysFrom
  rw [if_pos ⟨by simpa using h1,h2⟩]
  simp
 | y::l,i,j + 1,x,h,h1,h2=>by
  have:=z218 p but l (i + 1) j x (by simpa using h) (by rw [show i + 1 + j=i + (j + 1) by omega];exact h1) h2
  rw [show i + 1 + j=i + (j + 1) by omega] at this
  unfold waysFrom
  split
  ·exact List.mem_cons_of_mem _ this
  ·exact this
theorem z379 {n:Net} {p:Party} {but:Int} {w:Nat × Path}:w ∈ waysL n p but↔n.paths[w.1]?=some w.2∧w.2.grade≤p.grade∧(w.1:Int)≠but:=by
 constructor
 ·intro h
  obtain ⟨_,h2,h3,h4⟩:=z89 p but n.paths 0 w h
  exact ⟨by simpa using h2,h3,h4⟩
 ·rintro ⟨h1,h2,h3⟩
  have:=z218 p but n.paths 0 w.1 w.2 h1 (by simpa using h3) h2
  simpa [waysL] using this
def endOf (high:Bool) (s:Span):Int:=if high then s.hi else s.lo
section
variable {n:Net} {p:Party} {high:Bool} {but frm start:Int}
def TabInv (n:Net) (p:Party) (high:Bool) (but frm start:Int) (l:List Int):Prop :=
 l.length=n.places.toNat∧∀ y,0≤y→y<n.places→getI l y=never∨(0≤getI l y∧getI l y≤2880∧Reach (waysL n p but) (fun x=>endOf high (spanW x p)) frm start y (getI l y))
def lower (m:Nat) (d:Int→Int) (y:Int):Nat:=((List.range m).filter fun (i:Nat)=>decide (d i<d y)).length
end
end Go.Ab
namespace Go.Ab
open Go.RowKit Go.Proofs
set_option maxHeartbeats 4000000
set_option maxRecDepth 20000
structure Ease1 where
 later:Int
 pace:Int
 load:Int
 path:Int
 grade:Int
 snow:Int
 opens:Int
 more:Path
structure Path.Easier (x' x:Path):Prop where
 frm:x'.frm=x.frm
 to:x'.to=x.to
 grade:x'.grade≤x.grade
 time:x'.time=x.time
 snow:x'.snow.hi≤x.snow.hi
 opens:∀ s ∈ x.opens,s ∈ x'.opens
theorem Path.Easier.refl (x:Path):x.Easier x:=⟨rfl,rfl,Int.le_refl _,rfl,Int.le_refl _,fun _ h=>h⟩
structure EasyWay (n m:Net) (p q:Party):Prop where
 places:m.places=n.places
 paths:∀ (i:Nat) (x:Path),n.paths[i]?=some x→∃ x':Path,m.paths[i]?=some x'∧x'.Easier x
 grade:p.grade≤q.grade
 load:q.load≤p.load
 pace:q.pace.hi≤p.pace.hi
theorem z563 {n m:Net} {p q:Party} {x x':Path} (hx:x.Good n) (hx':x'.Good m) (hp:p.Good) (hq:q.Good) (h:x'.Easier x) (hl:q.load≤p.load) (hc:q.pace.hi≤p.pace.hi):(spanW x' q).hi≤(spanW x p).hi:=by
 obtain ⟨t1,t2,t3⟩:=hx.time
 obtain ⟨s1,s2,s3⟩:=hx.snow
 obtain ⟨p1,p2,p3⟩:=hp.pace
 obtain ⟨u1,u2,u3⟩:=hx'.time
 obtain ⟨v1,v2,v3⟩:=hx'.snow
 obtain ⟨q1,q2,q3⟩:=hq.pace
 obtain ⟨a1,_⟩:=z321 (t:=x.time.hi) (pace:=p.pace.hi) (snow:=x.snow.hi) (load:=p.load) (by omega) (by omega) (by omega) hp.load
 obtain ⟨b1,_⟩:=z321 (t:=x'.time.hi) (pace:=q.pace.hi) (snow:=x'.snow.hi) (load:=q.load) (by omega) (by omega) (by omega) hq.load
 have hl1:=hp.load
 have hl2:=hq.load
 have hs:=h.snow
 show timeW _ _ _ _≤timeW _ _ _ _
 rw [a1,b1,h.time]
 have h1:x.time.hi * q.pace.hi≤x.time.hi * p.pace.hi:=Int.mul_le_mul_of_nonneg_left hc (by omega)
 have h2:x.time.hi * q.pace.hi * (100 + 5 * x'.snow.hi + q.load)≤x.time.hi * p.pace.hi * (100 + 5 * x.snow.hi + p.load):=by
  refine Int.mul_le_mul h1 (by omega) (by omega) ?_
  exact Int.mul_nonneg (by omega) (by omega)
 omega
theorem z370 {opens opens':List Span} {t t' d d':Int} (ht:0≤t') (htt:t'≤t) (hd:okTime d) (hd':okTime d') (hdd:d'≤d) (ho:∀ s ∈ opens,s ∈ opens') (hle:arriveF opens t d≤2880):arriveF opens' t' d'≤arriveF opens t d:=by
 obtain ⟨s,hs,h1,h2⟩:=(z79 (by omega) hd hle).1 (Int.le_refl _)
 exact (z79 ht hd' hle).2 ⟨s,ho s hs,by omega,by omega⟩
theorem Reach.easier {n m:Net} {p q:Party} (hn:n.Good) (hm:m.Good) (hp:p.Good) (hq:q.Good) (h:EasyWay n m p q) {x s y t:Int} (hs:0≤s∧s≤2880) (hx:0≤x∧x<n.places) (hr:Reach (waysL n p (-1)) (fun x=>spanHi (spanW x p)) x s y t) :
  ∃ t',t'≤t∧Reach (waysL m q (-1)) (fun x=>spanHi (spanW x q)) x s y t':=by
 have hw:=(z150 hm hq (-1)).1
 have hwn:=(z150 hn hp (-1)).1
 induction hr with
 | refl=>exact ⟨s,Int.le_refl _,.refl⟩
 | @step y t w hr hmem hf hle ih =>
  obtain ⟨t',ht',hr'⟩:=ih
  obtain ⟨h1,h2,h3⟩:=z379.1 hmem
  obtain ⟨x',hx1,hx2⟩:=h.paths _ _ h1
  have hmem':(w.1,x') ∈ waysL m q (-1):=z379.2 ⟨hx1,by have:=hx2.grade;have:=h.grade;dsimp only;omega,h3⟩
  have hrg:=hr'.range hw hs (by rw [h.places];exact hx)
  have hg:=hn.path w.2 (List.mem_of_getElem? h1)
  have hg':=hm.path x' (List.mem_of_getElem? hx1)
  have h4:=z370 (opens:=w.2.opens) (opens':=x'.opens) (t:=t) (t':=t') (d:=(spanW w.2 p).hi) (d':=(spanW x' q).hi) (by omega) ht' (z562 hg hp).1 (z562 hg' hq).1 (z563 hg hg' hp hq hx2 h.load h.pace) hx2.opens hle
  have h5:Reach (waysL m q (-1)) (fun x=>spanHi (spanW x q)) x s x'.to (arriveF x'.opens t' (spanW x' q).hi):=.step (w.1,x') hr' hmem' (by rw [hx2.frm];exact hf) (by
   have:arriveF w.2.opens t (spanW w.2 p).hi≤2880:=hle
   exact Int.le_trans h4 this)
  rw [hx2.to] at h5
  exact ⟨_,h4,h5⟩
theorem z211 {n:Net} {p:Party} (hn:n.Good) (hp:p.Good) {frm start:Int} (hf:0≤frm∧frm<n.places) (hs:0≤start∧start≤2880) {y:Int} (hy:0≤y∧y<n.places):getI (arrivalsL n p spanHi frm start (-1)) y≤never:=by
 have hv:never=1073741824:=rfl
 rcases (z140 (q:=spanHi) (z150 hn hp (-1)).1 hf hs).1 y hy.1 hy.2 with h | h
 ·omega
 ·omega
theorem z714 {n m:Net} {p q:Party} (hn:n.Good) (hm:m.Good) (hp:p.Good) (hq:q.Good) (h:EasyWay n m p q) {frm start:Int} (hf:0≤frm∧frm<n.places) (hs:0≤start∧start≤2880) {y:Int} (hy:0≤y∧y<n.places) :
  getI (arrivalsL m q spanHi frm start (-1)) y≤getI (arrivalsL n p spanHi frm start (-1)) y:=by
 have hf':0≤frm∧frm<m.places:=by rw [h.places];exact hf
 rcases (z140 (q:=spanHi) (z150 hn hp (-1)).1 hf hs).1 y hy.1 hy.2 with h1 | ⟨_,_,h1⟩
 ·rw [h1]
  exact z211 hm hq hf' hs (by rw [h.places];exact hy)
 ·obtain ⟨t',h2,h3⟩:=h1.easier hn hm hp hq h hs hf
  exact Int.le_trans ((z140 (q:=spanHi) (z150 hm hq (-1)).1 hf' hs).2 y t' h3) h2
theorem z784 {n:Net} {p:Party} (hn:n.Good) (hp:p.Good) {frm start s2:Int} (hf:0≤frm∧frm<n.places) (hs:0≤start∧start≤s2) (h2:s2≤2880) {y:Int} (hy:0≤y∧y<n.places) :
  getI (arrivalsL n p spanHi frm start (-1)) y≤getI (arrivalsL n p spanHi frm s2 (-1)) y:=by
 have hw:=(z150 hn hp (-1)).1
 rcases (z140 (q:=spanHi) hw hf (start:=s2) (by omega)).1 y hy.1 hy.2 with h1 | ⟨_,_,h1⟩
 ·rw [h1]
  exact z211 hn hp hf (by omega) hy
 ·obtain ⟨t',h3,h4⟩:=h1.mono hw (s':=start) hs h2 hf
  exact Int.le_trans ((z140 (q:=spanHi) hw hf (by omega)).2 y t' h4) h3
def easePath (x:Path) (y:Ease1):Path :=
 ⟨x.frm,x.to,max 1 (wr (x.grade - y.grade)),x.time,⟨max 0 (wr (x.snow.lo - y.snow)),max 0 (wr (x.snow.hi - y.snow))⟩,
  if x.opens.length<6∧withinB y.opens 0 2880=true then x.opens++[⟨y.opens,min 2880 (wr (y.opens + 60))⟩] else x.opens⟩
def easeNet0 (n:Net) (y:Ease1):Net:=match n.paths[y.path.toNat]? with
 | some x=>if 0≤y.path then ⟨n.places,n.paths.set y.path.toNat (easePath x y)⟩ else n
 | none=>n
def easeNet1 (n:Net) (y:Ease1):Net:=⟨n.places,(easeNet0 n y).paths++[y.more]⟩
def easeNet (n:Net) (y:Ease1):Net:=if badNet (easeNet1 n y) then easeNet0 n y else easeNet1 n y
def easeParty (p:Party) (y:Ease1):Party:=⟨p.grade,max 0 (wr (p.load - y.load)),⟨max 50 (wr (p.pace.lo - y.pace)),max 50 (wr (p.pace.hi - y.pace))⟩⟩
structure EaseOk (y:Ease1):Prop where
 pace:0≤y.pace∧y.pace≤300
 load:0≤y.load∧y.load≤100
 grade:0≤y.grade∧y.grade≤10
 snow:0≤y.snow∧y.snow≤100
theorem z288 {p:Party} {y:Ease1} (hp:p.Good) (hy:EaseOk y):(easeParty p y).Good:=by
 obtain ⟨h1,h2⟩:=hy.pace
 obtain ⟨h3,h4⟩:=hy.load
 obtain ⟨p1,p2,p3⟩:=hp.pace
 have hl:=hp.load
 have e1:wr (p.load - y.load)=p.load - y.load:=z12 (by omega)
 have e2:wr (p.pace.lo - y.pace)=p.pace.lo - y.pace:=z12 (by omega)
 have e3:wr (p.pace.hi - y.pace)=p.pace.hi - y.pace:=z12 (by omega)
 refine ⟨hp.grade,?_,?_⟩
 ·show 50≤max 50 (wr (p.pace.lo - y.pace))∧max 50 (wr (p.pace.lo - y.pace))≤max 50 (wr (p.pace.hi - y.pace))∧max 50 (wr (p.pace.hi - y.pace))≤300
  rw [e2,e3];omega
 ·show 0≤max 0 (wr (p.load - y.load))∧max 0 (wr (p.load - y.load))≤40
  rw [e1];omega
theorem z594 {n:Net} {x:Path} {y:Ease1} (hx:x.Good n) (hy:EaseOk y):(easePath x y).Good n∧(easePath x y).Easier x:=by
 obtain ⟨h1,h2⟩:=hy.grade
 obtain ⟨h3,h4⟩:=hy.snow
 obtain ⟨s1,s2,s3⟩:=hx.snow
 have hg:=hx.grade
 have e1:wr (x.grade - y.grade)=x.grade - y.grade:=z12 (by omega)
 have e2:wr (x.snow.lo - y.snow)=x.snow.lo - y.snow:=z12 (by omega)
 have e3:wr (x.snow.hi - y.snow)=x.snow.hi - y.snow:=z12 (by omega)
 have hl:=hx.len
 have hop:∀ s ∈ (easePath x y).opens,0≤s.lo∧s.lo≤s.hi∧s.hi≤2880:=by
  intro s hs
  unfold easePath at hs
  dsimp only at hs
  split at hs
  ·rename_i hc
   have hw:=z34.1 hc.2
   rcases List.mem_append.1 hs with hs | hs
   ·exact hx.opens s hs
   ·have e4:wr (y.opens + 60)=y.opens + 60:=z12 (by omega)
    simp only [List.mem_singleton] at hs
    subst hs
    dsimp only
    rw [e4]
    omega
  ·exact hx.opens s hs
 have hlen:(easePath x y).opens.length≤6:=by
  unfold easePath
  dsimp only
  split
  ·rename_i hc
   rw [List.length_append,List.length_singleton]
   omega
  ·exact hl
 refine ⟨⟨hx.frm,hx.to,hx.ne,?_,hx.time,?_,hlen,hop⟩,⟨rfl,rfl,?_,rfl,?_,fun s hs=>?_⟩⟩
 ·show 1≤max 1 (wr (x.grade - y.grade))∧max 1 (wr (x.grade - y.grade))≤6
  rw [e1];omega
 ·show 0≤max 0 (wr (x.snow.lo - y.snow))∧max 0 (wr (x.snow.lo - y.snow))≤max 0 (wr (x.snow.hi - y.snow))∧max 0 (wr (x.snow.hi - y.snow))≤30
  rw [e2,e3];omega
 ·show max 1 (wr (x.grade - y.grade))≤x.grade
  rw [e1];omega
 ·show max 0 (wr (x.snow.hi - y.snow))≤x.snow.hi
  rw [e3];omega
 ·unfold easePath
  dsimp only
  split
  ·exact List.mem_append_left _ hs
  ·exact hs
theorem z111 {n m:Net} {x:Path} (h:x.Good n) (e:m.places=n.places):x.Good m:=⟨by rw [e];exact h.frm,by rw [e];exact h.to,h.ne,h.grade,h.time,h.snow,h.len,h.opens⟩
theorem z595 {n:Net} {y:Ease1} (hn:n.Good) (hy:EaseOk y):(easeNet0 n y).Good∧(easeNet0 n y).places=n.places∧(easeNet0 n y).paths.length=n.paths.length∧∀ (i:Nat) (x:Path),n.paths[i]?=some x→∃ x':Path,(easeNet0 n y).paths[i]?=some x'∧x'.Easier x:=by
 have same:n.Good∧n.places=n.places∧n.paths.length=n.paths.length∧∀ (i:Nat) (x:Path),n.paths[i]?=some x→∃ x':Path,n.paths[i]?=some x'∧x'.Easier x:=⟨hn,rfl,rfl,fun i x h=>⟨x,h,.refl x⟩⟩
 unfold easeNet0
 split
 ·rename_i x hx
  split
  ·obtain ⟨g1,g2⟩:=z594 (hn.path x (List.mem_of_getElem? hx)) hy
   refine ⟨⟨hn.places,by simpa using hn.paths,fun z hz=>?_⟩,rfl,by simp,fun i z hz=>?_⟩
   ·rcases List.mem_or_eq_of_mem_set hz with h | h
    ·exact z111 (hn.path z h) rfl
    ·subst h;exact z111 g1 rfl
   ·dsimp only
    rw [List.getElem?_set]
    split
    ·rename_i e
     subst e
     rw [hx] at hz;cases hz
     have hl:=(List.getElem?_eq_some_iff.1 hx).1
     exact ⟨_,by simp [hl],g2⟩
    ·exact ⟨z,hz,.refl z⟩
  ·exact same
 ·exact same
theorem z865 {n:Net} {p:Party} {y:Ease1} (hn:n.Good) (hp:p.Good) (hy:EaseOk y):(easeNet n y).Good∧EasyWay n (easeNet n y) p (easeParty p y):=by
 obtain ⟨h1,h2,h3,h4⟩:=z595 hn hy
 obtain ⟨y1,y2⟩:=hy.load
 obtain ⟨y3,y4⟩:=hy.pace
 have hl:=hp.load
 obtain ⟨p1,p2,p3⟩:=hp.pace
 have e1:wr (p.load - y.load)=p.load - y.load:=z12 (by omega)
 have e3:wr (p.pace.hi - y.pace)=p.pace.hi - y.pace:=z12 (by omega)
 have hload:(easeParty p y).load≤p.load:=by
  show max 0 (wr (p.load - y.load))≤p.load
  rw [e1];omega
 have hpace:(easeParty p y).pace.hi≤p.pace.hi:=by
  show max 50 (wr (p.pace.hi - y.pace))≤p.pace.hi
  rw [e3];omega
 unfold easeNet
 split
 ·exact ⟨h1,h2,h4,Int.le_refl _,hload,hpace⟩
 ·rename_i hb
  refine ⟨z176.1 hb,rfl,fun i x hx=>?_,Int.le_refl _,hload,hpace⟩
  obtain ⟨x',g1,g2⟩:=h4 i x hx
  exact ⟨x',by
   show ((easeNet0 n y).paths++[y.more])[i]?=some x'
   rw [List.getElem?_append_left (List.getElem?_eq_some_iff.1 g1).1];exact g1,g2⟩
end Go.Ab
namespace Go.Ab
open Go.RowKit Go.Proofs
set_option maxHeartbeats 16000000
set_option maxRecDepth 20000
attribute [local irreducible] WalkL Walk
def Ease1.row (y:Ease1):List DV:=[.i y.later,.i y.pace,.i y.load,.i y.path,.i y.grade,.i y.snow,.i y.opens,
 .i y.more.frm,.i y.more.to,.i y.more.grade,.i y.more.time.lo,.i y.more.time.hi,.i y.more.snow.lo,.i y.more.snow.hi,.sl (y.more.opens.map Span.row)]
theorem z77 (L:Nat) (ps:List Path) (m:Path):upRows L (ps.map opRows) (pRows L 0 ps++[m.row.map AV.d]) ((ps++[m]).map Path.row):=by
 obtain ⟨h1,h2⟩:=z166 L ps
 refine ⟨by simp [z27],fun i r' hi=>?_⟩
 rw [List.map_append] at hi
 rcases Nat.lt_or_ge i ps.length with hl | hl
 ·rw [List.getElem?_append_left (by simpa using hl)] at hi
  obtain ⟨r,p1,p2⟩:=h2 i r' hi
  exact ⟨r,by rw [List.getElem?_append_left (by rw [z27];exact hl)];exact p1,p2⟩
 ·rw [List.getElem?_append_right (by simpa using hl),List.length_map] at hi
  rcases Nat.eq_zero_or_pos (i - ps.length) with e | e
  ·rw [e] at hi
   simp at hi
   subst hi
   refine ⟨m.row.map AV.d,by rw [List.getElem?_append_right (by rw [z27];exact hl),z27,e];rfl,by simp,fun j d hj=>⟨.d d,by simp [hj],.inl rfl⟩⟩
  ·rw [List.getElem?_eq_none (by simp;omega)] at hi
   cases hi
theorem z145 {L:Nat} (f:AV→AV) (r:List AV):∀ (l:List Path) (k i:Nat),i<l.length→((pRows L k l).map fun r=>r.map (AV.sub (k + i + L) f)).set i r=(pRows L k l).set i r
 | [],_,_,h=>by simp at h
 | x::l,k,0,_=>by
  have:((pRows L (k + 1) l).map fun r=>r.map (AV.sub (k + 0 + L) f))=pRows L (k + 1) l:=by
   have key:∀ (l:List Path) (q:Nat),k<q→((pRows L q l).map fun r=>r.map (AV.sub (k + 0 + L) f))=pRows L q l:=by
    intro l
    induction l with
    | nil=>intros;rfl
    | cons y l ih =>
     intro q hq
     rw [pRows,List.map_cons,ih (q + 1) (by omega)]
     congr 1
     simp only [pRow,List.map_cons,List.map_nil,AV.sub]
     rw [if_neg (by omega)]
   exact key l (k + 1) (by omega)
  simp only [pRows,List.map_cons,List.set_cons_zero]
  rw [this]
 | x::l,k,i + 1,h=>by
  have ih:=z145 (L:=L) f r l (k + 1) i (by simpa using h)
  simp only [pRows,List.map_cons,List.set_cons_succ]
  rw [show k + (i + 1) + L=k + 1 + i + L by omega,ih]
  congr 1
  simp only [pRow,List.map_cons,List.map_nil,AV.sub]
  rw [if_neg (by omega)]
theorem z204 {l:List Path} {j:Nat} {x x':Path} (h:l[j]?=some x) (e:opRows x'=opRows x):(l.set j x').map opRows=l.map opRows:=by
 apply List.ext_getElem?
 intro i
 rw [List.map_set,List.getElem?_set]
 split
 ·rename_i e2
  subst e2
  have hl:=(List.getElem?_eq_some_iff.1 h).1
  simp [hl,e,h]
  rw [List.getElem?_eq_getElem hl] at h
  cases h
  rfl
 ·rfl
theorem z928 (n:Net) (p:Party) (y:Ease1) (hs:n.Small) (hn:n.paths.length<2 ^ 20) (hso:∀ x ∈ n.paths,x.opens.length<2 ^ 20) (hm:y.more.opens.length<2 ^ 30) :
  Fn Try.prog 25 [.agg n.cells,.agg p.cells,.agg y.row] (.tup [.agg (easeNet n y).cells,.agg (easeParty p y).cells]):=by
 have hpl:=hs.paths
 have h14:FnG Try.prog 14 [] [] (List.map AV.d [.agg n.cells]) (.agg [.d (.i n.places),.own 0]) (.arrA 49 8 (pRows 1 0 n.paths)::(n.paths.map opRows).map fun r=>Blk.arr 26 2 r):=z894 n hs
 have h33:=z927 n y.path (by omega)
 have h58:=z887 y.opens
 have hpm:(pRows 1 0 n.paths).map (fun r=>r.map (AV.mapN fun i=>(11::rowN 115 n.paths.length)[i]?))=pRows 115 0 n.paths:=z134 n.paths 0 fun j _ hj=>z808 (by omega)
 cases q:withinB y.path 0 (n.paths.length - 1) with
 | false =>
  rw [q] at h33
  rw [Net.cells] at h14 h33
  refine z10 115 Try.call25 Try.func25 rfl (by decide) fun J=>?_
  simp only [go_sem,St.start,Try.ntmps25,Try.results25,Net.cells,Party.cells,Ease1.row]
  repeat (first | refine nx ?_ | (refine z3 fun K hK=>?_;simp only [go_sem];apply hK;clear hK K))
  refine z124 (n.paths.map opRows).length ?_
  refine z3 fun K hK=>?_
  simp only [go_sem]
  refine ⟨_,.madeB 11 115 (hf:=h14) (hd:=rfl) (hx:=rfl) (hdL:=by decide) (hl:=by simp) (hfr:=rfl) (hm:=by simp only [List.drop_succ_cons,List.drop_zero,List.length_map]),?_⟩
  simp only [go_sem,List.take_succ_cons,List.take_zero,List.length_map,List.set_cons_succ,List.set_cons_zero,hpm,List.getElem?_cons_zero,List.cons_append,List.nil_append]
  apply hK
  clear hK K
  repeat refine nx ?_
  refine z3 fun K hK=>?_
  simp only [go_sem]
  refine ⟨_,.lentUp [.agg [.i n.places,.sl (n.paths.map Path.row)],.i y.path] (hu:=⟨z605 ⟨z843 _ _ _,z604 (n.paths.map opRows) rfl (z166 115 n.paths) (fun j r hj=>by
   simp only [List.getElem?_cons_succ]
   exact z69 hj),trivial⟩,z843 _ _ _,trivial⟩) (hf:=h33) (hr:=rfl),?_⟩
  simp only [go_sem]
  apply hK
  clear hK K
  refine z4 rfl ?_
  obtain ⟨ps,hps⟩:∃ ps,ps=n.paths:=⟨_,rfl⟩
  have h0:easeNet0 n y=⟨n.places,ps⟩:=by
   rw [easeNet0,hps]
   split
   ·rename_i x hx
    have hl:=(List.getElem?_eq_some_iff.1 hx).1
    rw [if_neg]
    intro h
    have:withinB y.path 0 (n.paths.length - 1)=true:=z34.2 ⟨h,by omega⟩
    rw [q] at this
    cases this
   ·rfl
  have hs1:Net.Small ⟨n.places,ps++[y.more]⟩:=⟨by rw [hps];simp;omega,fun x hx=>by
   rcases List.mem_append.1 hx with h | h
   ·exact hs.opens x (hps ▸ h)
   ·simp at h;subst h;exact hm⟩
  have hpl:ps.length<2 ^ 20:=by rw [hps];exact hn
  rw [← hps]
  repeat refine nx ?_
  have hk11:killN 11 (pRows 115 0 ps)=pRows 115 0 ps:=z48 (by decide) _ _ _
  have hs11:=fun f=>z48 (n:=11) (L:=115) (by decide) f ps 0
  have hlt2:ps.length + 1≤549755813888:=by omega
  refine z57 [4,0] fun K hK=>?_
  simp only [go_sem,runX,List.take_succ_cons,List.take_zero,List.drop_succ_cons,List.drop_zero,hk11,hs11,z27,hlt2,z38,List.length_cons,List.length_nil,Nat.zero_add]
  apply hK
  clear hK K
  repeat refine nx ?_
  refine z98 (L:=115) (d:=11) (e:=49) (z:=8) (e1:=26) (z1:=2) (ps.map opRows) ((ps++[y.more]).map Path.row) (by decide) (by simp) rfl (z77 115 ps y.more) (fun j r hj=>by
   simp only [List.getElem?_cons_succ]
   exact z69 hj) ?_
  simp only [go_sem,List.take_succ_cons,List.take_zero,List.map_cons,List.map_nil]
  have h27:=z850 ⟨n.places,ps++[y.more]⟩ hs1
  have hnet:easeNet n y=if badNet ⟨n.places,ps++[y.more]⟩ then ⟨n.places,ps⟩ else ⟨n.places,ps++[y.more]⟩:=by rw [easeNet,easeNet1,h0]
  rw [hnet]
  cases hb:badNet ⟨n.places,ps++[y.more]⟩ with
  | false =>
   have e:checkF ⟨n.places,ps++[y.more]⟩=0:=by rw [checkF,hb];rfl
   rw [e,Net.cells] at h27
   rw [if_neg (by decide)]
   dsimp only [easeParty]
   repeat (first | refine z7 rfl ?_ | refine z4 rfl ?_ | refine nx ?_ | (refine z3 fun K hK=>?_;simp only [go_sem];(repeat (first | (refine ⟨_,.lent (hf:=h27) (hd:=rfl) (hr:=rfl),?_⟩;simp only [go_sem]) | (refine ⟨_,.given (hf:=h27) (hd:=rfl) (ha:=rfl),?_⟩;simp only [go_sem])));apply hK;clear hK K))
   refine z15 (by kernel_rfl) (by kernel_rfl) fun K hK=>?_
   simp only [go_sem]
   refine ⟨by kernel_rfl,hK _ ?_⟩
   clear hK K
   repeat (first | refine nx ?_ | (refine z3 fun K hK=>?_;simp only [go_sem];apply hK;clear hK K))
   simp only [go_sem]
  | true =>
   have e:checkF ⟨n.places,ps++[y.more]⟩=10:=by rw [checkF,hb];rfl
   rw [e,Net.cells] at h27
   rw [if_pos rfl]
   dsimp only [easeParty]
   repeat (first | refine z7 rfl ?_ | refine z4 rfl ?_ | refine nx ?_ | (refine z3 fun K hK=>?_;simp only [go_sem];(repeat (first | (refine ⟨_,.lent (hf:=h27) (hd:=rfl) (hr:=rfl),?_⟩;simp only [go_sem]) | (refine ⟨_,.given (hf:=h27) (hd:=rfl) (ha:=rfl),?_⟩;simp only [go_sem])));apply hK;clear hK K))
   refine z3 fun K hK=>?_
   have hw1:IntKind.i64.wrap (((ps.length + 1:Nat):Int) - 1)=(ps.length:Int):=by rw [z12 (by omega)];omega
   have hw2:(0:Int)≤(ps.length:Int):=by omega
   have hw3:(ps.length:Int)≤((ps.length + 1:Nat):Int):=by omega
   simp only [go_sem,List.length_map,List.length_append,List.length_cons,List.length_nil,Nat.zero_add,hw1,hw2,hw3,Nat.sub_zero]
   apply hK
   clear hK K
   repeat (first | refine z7 rfl ?_ | refine z4 rfl ?_ | refine nx ?_ | (refine z3 fun K hK=>?_;simp only [go_sem];apply hK;clear hK K))
   refine z15 (by kernel_rfl) (by kernel_rfl) fun K hK=>?_
   simp only [go_sem]
   refine ⟨by kernel_rfl,hK _ ?_⟩
   clear hK K
   repeat (first | refine nx ?_ | (refine z3 fun K hK=>?_;simp only [go_sem];apply hK;clear hK K))
   have hl1:ps.length≤ps.length + 1:=Nat.le_succ _
   have htk:((ps++[y.more]).map Path.row).take ps.length=ps.map Path.row:=by rw [List.map_append,List.take_append_of_le_length (by simp),List.take_of_length_le (by simp)]
   simp only [go_sem,List.length_map,List.length_append,List.length_cons,List.length_nil,Nat.zero_add,hl1,htk,List.drop_zero]
   try trace_state
 | true =>
  have hw:=z34.1 q
  rw [q] at h33
  obtain ⟨j,hj⟩:∃ j:Nat,y.path=(j:Int):=⟨y.path.toNat,by omega⟩
  have hlt:j<n.paths.length:=by omega
  obtain ⟨x,hx⟩:∃ x,n.paths[j]?=some x:=⟨_,List.getElem?_eq_getElem hlt⟩
  have hn0:¬ ((j:Int)<0):=by omega
  have hxo:=hso x (List.mem_of_getElem? hx)
  have g1:(pRows 115 0 n.paths)[j]?=some [.d (.i x.frm),.d (.i x.to),.d (.i x.grade),.d (.i x.time.lo),.d (.i x.time.hi),.d (.i x.snow.lo),.d (.i x.snow.hi),.own (j + 115)]:=by
   have:=z229 115 n.paths 0 j x hx
   rw [Nat.zero_add] at this
   exact this
  have ga:(arrs 26 2 (n.paths.map opRows))[j]?=some (some (.arr 26 2 (x.opens.map Span.row))):=z69 (by simp [hx,opRows])
  have hj11:(j + 115=11)=False:=by simp
  have hj115:(j + 115<115)=False:=by simp
  have hjt:y.path.toNat=j:=by omega
  have h00:easeNet0 n y=⟨n.places,n.paths.set j (easePath x y)⟩:=by
   rw [easeNet0,hjt,hx]
   dsimp only
   rw [if_pos hw.1]
  rw [hj] at h33
  cases b1:decide ((x.opens.length:Int)<6) with
  | false =>
   rw [Net.cells] at h14 h33
   refine z10 115 Try.call25 Try.func25 rfl (by decide) fun J=>?_
   simp only [go_sem,St.start,Try.ntmps25,Try.results25,Net.cells,Party.cells,Ease1.row,hj]
   repeat (first | refine nx ?_ | (refine z3 fun K hK=>?_;simp only [go_sem];apply hK;clear hK K))
   refine z124 (n.paths.map opRows).length ?_
   refine z3 fun K hK=>?_
   simp only [go_sem]
   refine ⟨_,.madeB 11 115 (hf:=h14) (hd:=rfl) (hx:=rfl) (hdL:=by decide) (hl:=by simp) (hfr:=rfl) (hm:=by simp only [List.drop_succ_cons,List.drop_zero,List.length_map]),?_⟩
   simp only [go_sem,List.take_succ_cons,List.take_zero,List.length_map,List.set_cons_succ,List.set_cons_zero,hpm,List.getElem?_cons_zero,List.cons_append,List.nil_append]
   apply hK
   clear hK K
   repeat refine nx ?_
   refine z3 fun K hK=>?_
   simp only [go_sem]
   refine ⟨_,.lentUp [.agg [.i n.places,.sl (n.paths.map Path.row)],.i (j:Int)] (hu:=⟨z605 ⟨z843 _ _ _,z604 (n.paths.map opRows) rfl (z166 115 n.paths) (fun j r hj=>by
    simp only [List.getElem?_cons_succ]
    exact z69 hj),trivial⟩,z843 _ _ _,trivial⟩) (hf:=h33) (hr:=rfl),?_⟩
   simp only [go_sem]
   apply hK
   clear hK K
   refine z7 rfl ?_
   repeat (first | refine z7 rfl ?_ | refine z4 rfl ?_ | refine nx ?_ | (refine z3 fun K hK=>?_;simp only [go_sem,hn0,g1,ga,z27,List.length_map,hlt,b1,Int.toNat_natCast];(repeat (first | (refine ⟨_,.lent (hf:=h58) (hd:=rfl) (hr:=rfl),?_⟩;simp only [go_sem,hn0,g1,ga,z27,List.length_map,hlt,b1,Int.toNat_natCast]) | (refine ⟨_,.given (hf:=h58) (hd:=rfl) (ha:=rfl),?_⟩;simp only [go_sem,hn0,g1,ga,z27,List.length_map,hlt,b1,Int.toNat_natCast])));apply hK;clear hK K))
   obtain ⟨ps,hps⟩:∃ ps,ps=n.paths.set j (easePath x y):=⟨_,rfl⟩
   have h0:easeNet0 n y=⟨n.places,ps⟩:=by rw [h00,hps]
   have hpn:ps.length=n.paths.length:=by rw [hps];simp
   have hpl:ps.length<2 ^ 20:=by rw [hpn];exact hn
   have heo:(easePath x y).opens.length≤x.opens.length + 1:=by
    unfold easePath
    dsimp only
    split <;> simp
   have hs1:Net.Small ⟨n.places,ps++[y.more]⟩:=⟨by simp;omega,fun z hz=>by
    rcases List.mem_append.1 hz with h | h
    ·rw [hps] at h
     rcases List.mem_or_eq_of_mem_set h with h | h
     ·exact hs.opens z h
     ·subst h;omega
    ·simp at h;subst h;exact hm⟩
   have hopn:(easePath x y).opens=x.opens:=by
    unfold easePath
    dsimp only
    rw [if_neg]
    rintro ⟨h1,h2⟩
    simp only [decide_eq_false_iff_not] at b1
    omega
   have hset:(pRows 115 0 n.paths).set j [.d (.i x.frm),.d (.i x.to),.d (.i (max 1 (wr (x.grade - y.grade)))),.d (.i x.time.lo),.d (.i x.time.hi),.d (.i (max 0 (wr (x.snow.lo - y.snow)))),.d (.i (max 0 (wr (x.snow.hi - y.snow)))),.own (j + 115)]=pRows 115 0 ps:=by
    have:=z167 115 (easePath x y) n.paths 0 j hlt
    rw [Nat.zero_add] at this
    rw [hps]
    exact this
   have hops:n.paths.map opRows=ps.map opRows:=by
    rw [hps]
    exact (z204 hx (by rw [opRows,hopn];rfl)).symm
   rw [hops]
   simp only [go_sem,hset]
   repeat refine nx ?_
   have hk11:killN 11 (pRows 115 0 ps)=pRows 115 0 ps:=z48 (by decide) _ _ _
   have hs11:=fun f=>z48 (n:=11) (L:=115) (by decide) f ps 0
   have hlt2:ps.length + 1≤549755813888:=by omega
   refine z57 [4,0] fun K hK=>?_
   simp only [go_sem,runX,List.take_succ_cons,List.take_zero,List.drop_succ_cons,List.drop_zero,hk11,hs11,z27,hlt2,z38,List.length_cons,List.length_nil,Nat.zero_add,hj11,hj115]
   apply hK
   clear hK K
   repeat refine nx ?_
   refine z98 (L:=115) (d:=11) (e:=49) (z:=8) (e1:=26) (z1:=2) (ps.map opRows) ((ps++[y.more]).map Path.row) (by decide) (by simp) rfl (z77 115 ps y.more) (fun j r hj=>by
    simp only [List.getElem?_cons_succ]
    exact z69 hj) ?_
   simp only [go_sem,List.take_succ_cons,List.take_zero,List.map_cons,List.map_nil,hj11,hj115]
   have h27:=z850 ⟨n.places,ps++[y.more]⟩ hs1
   have hnet:easeNet n y=if badNet ⟨n.places,ps++[y.more]⟩ then ⟨n.places,ps⟩ else ⟨n.places,ps++[y.more]⟩:=by rw [easeNet,easeNet1,h0]
   rw [hnet]
   cases hb:badNet ⟨n.places,ps++[y.more]⟩ with
   | false =>
    have e:checkF ⟨n.places,ps++[y.more]⟩=0:=by rw [checkF,hb];rfl
    rw [e,Net.cells] at h27
    rw [if_neg (by decide)]
    dsimp only [easeParty]
    repeat (first | refine z7 rfl ?_ | refine z4 rfl ?_ | refine nx ?_ | (refine z3 fun K hK=>?_;simp only [go_sem];(repeat (first | (refine ⟨_,.lent (hf:=h27) (hd:=rfl) (hr:=rfl),?_⟩;simp only [go_sem]) | (refine ⟨_,.given (hf:=h27) (hd:=rfl) (ha:=rfl),?_⟩;simp only [go_sem])));apply hK;clear hK K))
    refine z15 (by kernel_rfl) (by kernel_rfl) fun K hK=>?_
    simp only [go_sem]
    refine ⟨by kernel_rfl,hK _ ?_⟩
    clear hK K
    repeat (first | refine nx ?_ | (refine z3 fun K hK=>?_;simp only [go_sem];apply hK;clear hK K))
    simp only [go_sem]
   | true =>
    have e:checkF ⟨n.places,ps++[y.more]⟩=10:=by rw [checkF,hb];rfl
    rw [e,Net.cells] at h27
    rw [if_pos rfl]
    dsimp only [easeParty]
    repeat (first | refine z7 rfl ?_ | refine z4 rfl ?_ | refine nx ?_ | (refine z3 fun K hK=>?_;simp only [go_sem];(repeat (first | (refine ⟨_,.lent (hf:=h27) (hd:=rfl) (hr:=rfl),?_⟩;simp only [go_sem]) | (refine ⟨_,.given (hf:=h27) (hd:=rfl) (ha:=rfl),?_⟩;simp only [go_sem])));apply hK;clear hK K))
    refine z3 fun K hK=>?_
    have hw1:IntKind.i64.wrap (((ps.length + 1:Nat):Int) - 1)=(ps.length:Int):=by rw [z12 (by omega)];omega
    have hw2:(0:Int)≤(ps.length:Int):=by omega
    have hw3:(ps.length:Int)≤((ps.length + 1:Nat):Int):=by omega
    simp only [go_sem,List.length_map,List.length_append,List.length_cons,List.length_nil,Nat.zero_add,hw1,hw2,hw3,Nat.sub_zero]
    apply hK
    clear hK K
    repeat (first | refine z7 rfl ?_ | refine z4 rfl ?_ | refine nx ?_ | (refine z3 fun K hK=>?_;simp only [go_sem];apply hK;clear hK K))
    refine z15 (by kernel_rfl) (by kernel_rfl) fun K hK=>?_
    simp only [go_sem]
    refine ⟨by kernel_rfl,hK _ ?_⟩
    clear hK K
    repeat (first | refine nx ?_ | (refine z3 fun K hK=>?_;simp only [go_sem];apply hK;clear hK K))
    have hl1:ps.length≤ps.length + 1:=Nat.le_succ _
    have htk:((ps++[y.more]).map Path.row).take ps.length=ps.map Path.row:=by rw [List.map_append,List.take_append_of_le_length (by simp),List.take_of_length_le (by simp)]
    simp only [go_sem,List.length_map,List.length_append,List.length_cons,List.length_nil,Nat.zero_add,hl1,htk,List.drop_zero]
    try trace_state
  | true =>
  cases b2:withinB y.opens 0 2880 with
  | false =>
   rw [b2] at h58
   rw [Net.cells] at h14 h33
   refine z10 115 Try.call25 Try.func25 rfl (by decide) fun J=>?_
   simp only [go_sem,St.start,Try.ntmps25,Try.results25,Net.cells,Party.cells,Ease1.row,hj]
   repeat (first | refine nx ?_ | (refine z3 fun K hK=>?_;simp only [go_sem];apply hK;clear hK K))
   refine z124 (n.paths.map opRows).length ?_
   refine z3 fun K hK=>?_
   simp only [go_sem]
   refine ⟨_,.madeB 11 115 (hf:=h14) (hd:=rfl) (hx:=rfl) (hdL:=by decide) (hl:=by simp) (hfr:=rfl) (hm:=by simp only [List.drop_succ_cons,List.drop_zero,List.length_map]),?_⟩
   simp only [go_sem,List.take_succ_cons,List.take_zero,List.length_map,List.set_cons_succ,List.set_cons_zero,hpm,List.getElem?_cons_zero,List.cons_append,List.nil_append]
   apply hK
   clear hK K
   repeat refine nx ?_
   refine z3 fun K hK=>?_
   simp only [go_sem]
   refine ⟨_,.lentUp [.agg [.i n.places,.sl (n.paths.map Path.row)],.i (j:Int)] (hu:=⟨z605 ⟨z843 _ _ _,z604 (n.paths.map opRows) rfl (z166 115 n.paths) (fun j r hj=>by
    simp only [List.getElem?_cons_succ]
    exact z69 hj),trivial⟩,z843 _ _ _,trivial⟩) (hf:=h33) (hr:=rfl),?_⟩
   simp only [go_sem]
   apply hK
   clear hK K
   refine z7 rfl ?_
   repeat (first | refine z7 rfl ?_ | refine z4 rfl ?_ | refine nx ?_ | (refine z3 fun K hK=>?_;simp only [go_sem,hn0,g1,ga,z27,List.length_map,hlt,b1,Int.toNat_natCast];(repeat (first | (refine ⟨_,.lent (hf:=h58) (hd:=rfl) (hr:=rfl),?_⟩;simp only [go_sem,hn0,g1,ga,z27,List.length_map,hlt,b1,Int.toNat_natCast]) | (refine ⟨_,.given (hf:=h58) (hd:=rfl) (ha:=rfl),?_⟩;simp only [go_sem,hn0,g1,ga,z27,List.length_map,hlt,b1,Int.toNat_natCast])));apply hK;clear hK K))
   obtain ⟨ps,hps⟩:∃ ps,ps=n.paths.set j (easePath x y):=⟨_,rfl⟩
   have h0:easeNet0 n y=⟨n.places,ps⟩:=by rw [h00,hps]
   have hpn:ps.length=n.paths.length:=by rw [hps];simp
   have hpl:ps.length<2 ^ 20:=by rw [hpn];exact hn
   have heo:(easePath x y).opens.length≤x.opens.length + 1:=by
    unfold easePath
    dsimp only
    split <;> simp
   have hs1:Net.Small ⟨n.places,ps++[y.more]⟩:=⟨by simp;omega,fun z hz=>by
    rcases List.mem_append.1 hz with h | h
    ·rw [hps] at h
     rcases List.mem_or_eq_of_mem_set h with h | h
     ·exact hs.opens z h
     ·subst h;omega
    ·simp at h;subst h;exact hm⟩
   have hopn:(easePath x y).opens=x.opens:=by
    unfold easePath
    dsimp only
    rw [if_neg]
    rintro ⟨h1,h2⟩
    rw [b2] at h2
    cases h2
   have hset:(pRows 115 0 n.paths).set j [.d (.i x.frm),.d (.i x.to),.d (.i (max 1 (wr (x.grade - y.grade)))),.d (.i x.time.lo),.d (.i x.time.hi),.d (.i (max 0 (wr (x.snow.lo - y.snow)))),.d (.i (max 0 (wr (x.snow.hi - y.snow)))),.own (j + 115)]=pRows 115 0 ps:=by
    have:=z167 115 (easePath x y) n.paths 0 j hlt
    rw [Nat.zero_add] at this
    rw [hps]
    exact this
   have hops:n.paths.map opRows=ps.map opRows:=by
    rw [hps]
    exact (z204 hx (by rw [opRows,hopn];rfl)).symm
   rw [hops]
   simp only [go_sem,hset]
   repeat refine nx ?_
   have hk11:killN 11 (pRows 115 0 ps)=pRows 115 0 ps:=z48 (by decide) _ _ _
   have hs11:=fun f=>z48 (n:=11) (L:=115) (by decide) f ps 0
   have hlt2:ps.length + 1≤549755813888:=by omega
   refine z57 [4,0] fun K hK=>?_
   simp only [go_sem,runX,List.take_succ_cons,List.take_zero,List.drop_succ_cons,List.drop_zero,hk11,hs11,z27,hlt2,z38,List.length_cons,List.length_nil,Nat.zero_add,hj11,hj115]
   apply hK
   clear hK K
   repeat refine nx ?_
   refine z98 (L:=115) (d:=11) (e:=49) (z:=8) (e1:=26) (z1:=2) (ps.map opRows) ((ps++[y.more]).map Path.row) (by decide) (by simp) rfl (z77 115 ps y.more) (fun j r hj=>by
    simp only [List.getElem?_cons_succ]
    exact z69 hj) ?_
   simp only [go_sem,List.take_succ_cons,List.take_zero,List.map_cons,List.map_nil,hj11,hj115]
   have h27:=z850 ⟨n.places,ps++[y.more]⟩ hs1
   have hnet:easeNet n y=if badNet ⟨n.places,ps++[y.more]⟩ then ⟨n.places,ps⟩ else ⟨n.places,ps++[y.more]⟩:=by rw [easeNet,easeNet1,h0]
   rw [hnet]
   cases hb:badNet ⟨n.places,ps++[y.more]⟩ with
   | false =>
    have e:checkF ⟨n.places,ps++[y.more]⟩=0:=by rw [checkF,hb];rfl
    rw [e,Net.cells] at h27
    rw [if_neg (by decide)]
    dsimp only [easeParty]
    repeat (first | refine z7 rfl ?_ | refine z4 rfl ?_ | refine nx ?_ | (refine z3 fun K hK=>?_;simp only [go_sem];(repeat (first | (refine ⟨_,.lent (hf:=h27) (hd:=rfl) (hr:=rfl),?_⟩;simp only [go_sem]) | (refine ⟨_,.given (hf:=h27) (hd:=rfl) (ha:=rfl),?_⟩;simp only [go_sem])));apply hK;clear hK K))
    refine z15 (by kernel_rfl) (by kernel_rfl) fun K hK=>?_
    simp only [go_sem]
    refine ⟨by kernel_rfl,hK _ ?_⟩
    clear hK K
    repeat (first | refine nx ?_ | (refine z3 fun K hK=>?_;simp only [go_sem];apply hK;clear hK K))
    simp only [go_sem]
   | true =>
    have e:checkF ⟨n.places,ps++[y.more]⟩=10:=by rw [checkF,hb];rfl
    rw [e,Net.cells] at h27
    rw [if_pos rfl]
    dsimp only [easeParty]
    repeat (first | refine z7 rfl ?_ | refine z4 rfl ?_ | refine nx ?_ | (refine z3 fun K hK=>?_;simp only [go_sem];(repeat (first | (refine ⟨_,.lent (hf:=h27) (hd:=rfl) (hr:=rfl),?_⟩;simp only [go_sem]) | (refine ⟨_,.given (hf:=h27) (hd:=rfl) (ha:=rfl),?_⟩;simp only [go_sem])));apply hK;clear hK K))
    refine z3 fun K hK=>?_
    have hw1:IntKind.i64.wrap (((ps.length + 1:Nat):Int) - 1)=(ps.length:Int):=by rw [z12 (by omega)];omega
    have hw2:(0:Int)≤(ps.length:Int):=by omega
    have hw3:(ps.length:Int)≤((ps.length + 1:Nat):Int):=by omega
    simp only [go_sem,List.length_map,List.length_append,List.length_cons,List.length_nil,Nat.zero_add,hw1,hw2,hw3,Nat.sub_zero]
    apply hK
    clear hK K
    repeat (first | refine z7 rfl ?_ | refine z4 rfl ?_ | refine nx ?_ | (refine z3 fun K hK=>?_;simp only [go_sem];apply hK;clear hK K))
    refine z15 (by kernel_rfl) (by kernel_rfl) fun K hK=>?_
    simp only [go_sem]
    refine ⟨by kernel_rfl,hK _ ?_⟩
    clear hK K
    repeat (first | refine nx ?_ | (refine z3 fun K hK=>?_;simp only [go_sem];apply hK;clear hK K))
    have hl1:ps.length≤ps.length + 1:=Nat.le_succ _
    have htk:((ps++[y.more]).map Path.row).take ps.length=ps.map Path.row:=by rw [List.map_append,List.take_append_of_le_length (by simp),List.take_of_length_le (by simp)]
    simp only [go_sem,List.length_map,List.length_append,List.length_cons,List.length_nil,Nat.zero_add,hl1,htk,List.drop_zero]
    try trace_state
  | true =>
   rw [b2] at h58
   rw [Net.cells] at h14 h33
   refine z10 115 Try.call25 Try.func25 rfl (by decide) fun J=>?_
   simp only [go_sem,St.start,Try.ntmps25,Try.results25,Net.cells,Party.cells,Ease1.row,hj]
   repeat (first | refine nx ?_ | (refine z3 fun K hK=>?_;simp only [go_sem];apply hK;clear hK K))
   refine z124 (n.paths.map opRows).length ?_
   refine z3 fun K hK=>?_
   simp only [go_sem]
   refine ⟨_,.madeB 11 115 (hf:=h14) (hd:=rfl) (hx:=rfl) (hdL:=by decide) (hl:=by simp) (hfr:=rfl) (hm:=by simp only [List.drop_succ_cons,List.drop_zero,List.length_map]),?_⟩
   simp only [go_sem,List.take_succ_cons,List.take_zero,List.length_map,List.set_cons_succ,List.set_cons_zero,hpm,List.getElem?_cons_zero,List.cons_append,List.nil_append]
   apply hK
   clear hK K
   repeat refine nx ?_
   refine z3 fun K hK=>?_
   simp only [go_sem]
   refine ⟨_,.lentUp [.agg [.i n.places,.sl (n.paths.map Path.row)],.i (j:Int)] (hu:=⟨z605 ⟨z843 _ _ _,z604 (n.paths.map opRows) rfl (z166 115 n.paths) (fun j r hj=>by
    simp only [List.getElem?_cons_succ]
    exact z69 hj),trivial⟩,z843 _ _ _,trivial⟩) (hf:=h33) (hr:=rfl),?_⟩
   simp only [go_sem]
   apply hK
   clear hK K
   refine z7 rfl ?_
   obtain ⟨ps,hps⟩:∃ ps,ps=n.paths.set j (easePath x y):=⟨_,rfl⟩
   have h0:easeNet0 n y=⟨n.places,ps⟩:=by rw [h00,hps]
   have hpn:ps.length=n.paths.length:=by rw [hps];simp
   have hpl:ps.length<2 ^ 20:=by rw [hpn];exact hn
   have heo:(easePath x y).opens.length≤x.opens.length + 1:=by
    unfold easePath
    dsimp only
    split <;> simp
   have hs1:Net.Small ⟨n.places,ps++[y.more]⟩:=⟨by simp;omega,fun z hz=>by
    rcases List.mem_append.1 hz with h | h
    ·rw [hps] at h
     rcases List.mem_or_eq_of_mem_set h with h | h
     ·exact hs.opens z h
     ·subst h;omega
    ·simp at h;subst h;exact hm⟩
   have hopn:(easePath x y).opens=x.opens++[⟨y.opens,min 2880 (wr (y.opens + 60))⟩]:=by
    unfold easePath
    dsimp only
    rw [if_pos]
    simp only [decide_eq_true_eq] at b1
    exact ⟨by omega,b2⟩
   have hap:x.opens.length + 1≤549755813888:=by omega
   have gK:((pRows 115 0 n.paths).map fun r=>r.map (AV.sub (j + 115) fun _=>.undef))[j]?=some [.d (.i x.frm),.d (.i x.to),.d (.i x.grade),.d (.i x.time.lo),.d (.i x.time.hi),.d (.i x.snow.lo),.d (.i x.snow.hi),.undef]:=by
    rw [List.getElem?_map,g1]
    simp [AV.sub]
   have lK:((pRows 115 0 n.paths).map fun r=>r.map (AV.sub (j + 115) fun _=>.undef)).length=n.paths.length:=by rw [List.length_map,z27]
   have hset:((pRows 115 0 n.paths).map fun r=>r.map (AV.sub (j + 115) fun _=>.undef)).set j [.d (.i x.frm),.d (.i x.to),.d (.i (max 1 (wr (x.grade - y.grade)))),.d (.i x.time.lo),.d (.i x.time.hi),.d (.i (max 0 (wr (x.snow.lo - y.snow)))),.d (.i (max 0 (wr (x.snow.hi - y.snow)))),.own (j + 115)]=pRows 115 0 ps:=by
    have h1:=z145 (L:=115) (fun _=>.undef) [.d (.i x.frm),.d (.i x.to),.d (.i (max 1 (wr (x.grade - y.grade)))),.d (.i x.time.lo),.d (.i x.time.hi),.d (.i (max 0 (wr (x.snow.lo - y.snow)))),.d (.i (max 0 (wr (x.snow.hi - y.snow)))),.own (j + 115)] n.paths 0 j hlt
    rw [Nat.zero_add] at h1
    rw [h1]
    have:=z167 115 (easePath x y) n.paths 0 j hlt
    rw [Nat.zero_add] at this
    rw [hps]
    exact this
   have hat:(arrs 26 2 (n.paths.map opRows)).set j (some (.arr 26 2 (x.opens.map Span.row++[[.i y.opens,.i (min 2880 (wr (y.opens + 60)))]])))=arrs 26 2 (ps.map opRows):=by
    have:opRows (easePath x y)=x.opens.map Span.row++[[.i y.opens,.i (min 2880 (wr (y.opens + 60)))]]:=by rw [opRows,hopn,List.map_append];rfl
    rw [hps,List.map_set,this,z839]
   repeat (first | refine z7 rfl ?_ | refine z4 rfl ?_ | refine nx ?_ | (refine z3 fun K hK=>?_;simp only [go_sem,hn0,g1,ga,z27,List.length_map,hlt,b1,Int.toNat_natCast,Nat.reduceEqDiff,z38,hat,hap,gK,lK,List.length_cons,List.length_nil,Nat.zero_add];(repeat (first | (refine ⟨_,.lent (hf:=h58) (hd:=rfl) (hr:=rfl),?_⟩;simp only [go_sem,hn0,g1,ga,z27,List.length_map,hlt,b1,Int.toNat_natCast,Nat.reduceEqDiff,z38,hat,hap,gK,lK,List.length_cons,List.length_nil,Nat.zero_add]) | (refine ⟨_,.given (hf:=h58) (hd:=rfl) (ha:=rfl),?_⟩;simp only [go_sem,hn0,g1,ga,z27,List.length_map,hlt,b1,Int.toNat_natCast,Nat.reduceEqDiff,z38,hat,hap,gK,lK,List.length_cons,List.length_nil,Nat.zero_add])));apply hK;clear hK K))
   simp only [go_sem,hset]
   repeat refine nx ?_
   have hk11:killN 11 (pRows 115 0 ps)=pRows 115 0 ps:=z48 (by decide) _ _ _
   have hs11:=fun f=>z48 (n:=11) (L:=115) (by decide) f ps 0
   have hlt2:ps.length + 1≤549755813888:=by omega
   refine z57 [4,0] fun K hK=>?_
   simp only [go_sem,runX,List.take_succ_cons,List.take_zero,List.drop_succ_cons,List.drop_zero,hk11,hs11,z27,hlt2,z38,List.length_cons,List.length_nil,Nat.zero_add,hj11,hj115]
   apply hK
   clear hK K
   repeat refine nx ?_
   refine z98 (L:=115) (d:=11) (e:=49) (z:=8) (e1:=26) (z1:=2) (ps.map opRows) ((ps++[y.more]).map Path.row) (by decide) (by simp) rfl (z77 115 ps y.more) (fun j r hj=>by
    simp only [List.getElem?_cons_succ]
    exact z69 hj) ?_
   simp only [go_sem,List.take_succ_cons,List.take_zero,List.map_cons,List.map_nil,hj11,hj115]
   have h27:=z850 ⟨n.places,ps++[y.more]⟩ hs1
   have hnet:easeNet n y=if badNet ⟨n.places,ps++[y.more]⟩ then ⟨n.places,ps⟩ else ⟨n.places,ps++[y.more]⟩:=by rw [easeNet,easeNet1,h0]
   rw [hnet]
   cases hb:badNet ⟨n.places,ps++[y.more]⟩ with
   | false =>
    have e:checkF ⟨n.places,ps++[y.more]⟩=0:=by rw [checkF,hb];rfl
    rw [e,Net.cells] at h27
    rw [if_neg (by decide)]
    dsimp only [easeParty]
    repeat (first | refine z7 rfl ?_ | refine z4 rfl ?_ | refine nx ?_ | (refine z3 fun K hK=>?_;simp only [go_sem];(repeat (first | (refine ⟨_,.lent (hf:=h27) (hd:=rfl) (hr:=rfl),?_⟩;simp only [go_sem]) | (refine ⟨_,.given (hf:=h27) (hd:=rfl) (ha:=rfl),?_⟩;simp only [go_sem])));apply hK;clear hK K))
    refine z15 (by kernel_rfl) (by kernel_rfl) fun K hK=>?_
    simp only [go_sem]
    refine ⟨by kernel_rfl,hK _ ?_⟩
    clear hK K
    repeat (first | refine nx ?_ | (refine z3 fun K hK=>?_;simp only [go_sem];apply hK;clear hK K))
    simp only [go_sem]
   | true =>
    have e:checkF ⟨n.places,ps++[y.more]⟩=10:=by rw [checkF,hb];rfl
    rw [e,Net.cells] at h27
    rw [if_pos rfl]
    dsimp only [easeParty]
    repeat (first | refine z7 rfl ?_ | refine z4 rfl ?_ | refine nx ?_ | (refine z3 fun K hK=>?_;simp only [go_sem];(repeat (first | (refine ⟨_,.lent (hf:=h27) (hd:=rfl) (hr:=rfl),?_⟩;simp only [go_sem]) | (refine ⟨_,.given (hf:=h27) (hd:=rfl) (ha:=rfl),?_⟩;simp only [go_sem])));apply hK;clear hK K))
    refine z3 fun K hK=>?_
    have hw1:IntKind.i64.wrap (((ps.length + 1:Nat):Int) - 1)=(ps.length:Int):=by rw [z12 (by omega)];omega
    have hw2:(0:Int)≤(ps.length:Int):=by omega
    have hw3:(ps.length:Int)≤((ps.length + 1:Nat):Int):=by omega
    simp only [go_sem,List.length_map,List.length_append,List.length_cons,List.length_nil,Nat.zero_add,hw1,hw2,hw3,Nat.sub_zero]
    apply hK
    clear hK K
    repeat (first | refine z7 rfl ?_ | refine z4 rfl ?_ | refine nx ?_ | (refine z3 fun K hK=>?_;simp only [go_sem];apply hK;clear hK K))
    refine z15 (by kernel_rfl) (by kernel_rfl) fun K hK=>?_
    simp only [go_sem]
    refine ⟨by kernel_rfl,hK _ ?_⟩
    clear hK K
    repeat (first | refine nx ?_ | (refine z3 fun K hK=>?_;simp only [go_sem];apply hK;clear hK K))
    have hl1:ps.length≤ps.length + 1:=Nat.le_succ _
    have htk:((ps++[y.more]).map Path.row).take ps.length=ps.map Path.row:=by rw [List.map_append,List.take_append_of_le_length (by simp),List.take_of_length_le (by simp)]
    simp only [go_sem,List.length_map,List.length_append,List.length_cons,List.length_nil,Nat.zero_add,hl1,htk,List.drop_zero]
    try trace_state
end Go.Ab
namespace Go.Ab
open Go.RowKit Go.Proofs
set_option maxHeartbeats 16000000
set_option maxRecDepth 20000
attribute [local irreducible] WalkL Walk
theorem z385 {a b:Int} (ha:a=never∨(0≤a∧a≤2880)) (hb:b=never∨(0≤b∧b≤2880)) (h:a≤b) (ht:told1 b ≥ 0):told1 a ≥ 0∧told1 a≤told1 b:=by
 have hv:never=1073741824:=rfl
 unfold told1 at ht ⊢
 rcases hb with hb | hb
 ·rw [if_pos hb] at ht;omega
 ·rcases ha with ha | ha
  ·omega
  ·rw [if_neg (by omega),if_neg (by omega)];omega
theorem z371 {n:Net} {p:Party} (hn:n.Good) (hp:p.Good) {frm start:Int} (hf:0≤frm∧frm<n.places) (hs:0≤start∧start≤2880) {y:Int} (hy:0≤y∧y<n.places) :
  getI (arrivalsL n p spanHi frm start (-1)) y=never∨(0≤getI (arrivalsL n p spanHi frm start (-1)) y∧getI (arrivalsL n p spanHi frm start (-1)) y≤2880):=by
 rcases (z140 (q:=spanHi) (z150 hn hp (-1)).1 hf hs).1 y hy.1 hy.2 with h | h
 ·exact .inl h
 ·exact .inr ⟨h.1,h.2.1⟩
theorem z495 {l:List Int} {i N:Nat} (hl:l.length=N) (hi:i<N):(intRows (l.map told1))[i]?=some [.i (told1 (getI l (i:Int)))]:=by
 have h1:l[i]?=some l[i]:=List.getElem?_eq_getElem (by omega)
 have h2:getI l (i:Int)=l[i]:=by
  unfold getI
  rw [Int.toNat_natCast,List.getD_eq_getElem?_getD,h1];rfl
 rw [h2]
 exact z193 (by simp [h1])
theorem z123 {n:Net} {p:Party} {frm start:Int} (hn:n.Good) (hp:p.Good) (hf:0≤frm∧frm<n.places) (hs:0≤start∧start≤2880) :
  arriveL n p frm start=((arrivalsL n p spanHi frm start (-1)).map told1,(arrivalsL n p spanLo frm start (-1)).map told1,0):=by
 rw [arriveL,if_pos (z212.2 ⟨hn,hp,by simpa using hf,by simpa using hs⟩)]
theorem zf6 (n:Net) (p:Party) (x:Trip) (y:Ease1) (hs:n.Small) (hm:y.more.opens.length<2 ^ 30):Fn Try.prog 6 [.agg n.cells,.agg p.cells,.agg x.row,.agg y.row] (.bool true):=by
 have h20:=z929 n p x hs
 have h13:=z933
 cases b0:fitsB n p x with
 | false =>
  rw [b0] at h20
  rw [Net.cells,Party.cells,Trip.row] at h20
  refine z10 220 Try.call6 Try.func6 rfl (by decide) fun J=>?_
  simp only [go_sem,St.start,Try.ntmps6,Try.results6,Net.cells,Party.cells,Trip.row,Ease1.row]
  repeat (first | refine z24 ?_ | (refine z3 fun K hK=>?_;simp only [go_sem];apply hK;clear hK K) | refine z8 ?_)
  simp only [List.append_eq,List.cons_append,List.nil_append]
  repeat (first | refine z7 rfl ?_ | refine z4 rfl ?_ | refine nx ?_ | (refine z3 fun K hK=>?_;simp only [go_sem];(repeat (first | (refine ⟨_,.lent (hf:=h20) (hd:=rfl) (hr:=rfl),?_⟩;simp only [go_sem]) | (refine ⟨_,.lent (hf:=h13) (hd:=rfl) (hr:=rfl),?_⟩;simp only [go_sem]) | (refine ⟨_,.given (hf:=h20) (hd:=rfl) (ha:=rfl),?_⟩;simp only [go_sem]) | (refine ⟨_,.given (hf:=h13) (hd:=rfl) (ha:=rfl),?_⟩;simp only [go_sem])));apply hK;clear hK K))
  simp only [go_sem]
 | true =>
 rw [b0] at h20
 cases b1:decide ((n.paths.length:Int) > 9) with
 | true =>
  rw [Net.cells,Party.cells,Trip.row] at h20
  refine z10 220 Try.call6 Try.func6 rfl (by decide) fun J=>?_
  simp only [go_sem,St.start,Try.ntmps6,Try.results6,Net.cells,Party.cells,Trip.row,Ease1.row]
  repeat (first | refine z24 ?_ | (refine z3 fun K hK=>?_;simp only [go_sem];apply hK;clear hK K) | refine z8 ?_)
  simp only [List.append_eq,List.cons_append,List.nil_append]
  repeat (first | refine z7 rfl ?_ | refine z4 rfl ?_ | refine nx ?_ | (refine z3 fun K hK=>?_;simp only [go_sem,b1,List.length_map];(repeat (first | (refine ⟨_,.lent (hf:=h20) (hd:=rfl) (hr:=rfl),?_⟩;simp only [go_sem,b1,List.length_map]) | (refine ⟨_,.lent (hf:=h13) (hd:=rfl) (hr:=rfl),?_⟩;simp only [go_sem,b1,List.length_map]) | (refine ⟨_,.given (hf:=h20) (hd:=rfl) (ha:=rfl),?_⟩;simp only [go_sem,b1,List.length_map]) | (refine ⟨_,.given (hf:=h13) (hd:=rfl) (ha:=rfl),?_⟩;simp only [go_sem,b1,List.length_map])));apply hK;clear hK K))
  simp only [go_sem]
 | false =>
 cases b2:decide (y.later<0) with
 | true =>
  rw [Net.cells,Party.cells,Trip.row] at h20
  refine z10 220 Try.call6 Try.func6 rfl (by decide) fun J=>?_
  simp only [go_sem,St.start,Try.ntmps6,Try.results6,Net.cells,Party.cells,Trip.row,Ease1.row]
  repeat (first | refine z24 ?_ | (refine z3 fun K hK=>?_;simp only [go_sem];apply hK;clear hK K) | refine z8 ?_)
  simp only [List.append_eq,List.cons_append,List.nil_append]
  repeat (first | refine z7 rfl ?_ | refine z4 rfl ?_ | refine nx ?_ | (refine z3 fun K hK=>?_;simp only [go_sem,b1,b2,List.length_map];(repeat (first | (refine ⟨_,.lent (hf:=h20) (hd:=rfl) (hr:=rfl),?_⟩;simp only [go_sem,b1,b2,List.length_map]) | (refine ⟨_,.lent (hf:=h13) (hd:=rfl) (hr:=rfl),?_⟩;simp only [go_sem,b1,b2,List.length_map]) | (refine ⟨_,.given (hf:=h20) (hd:=rfl) (ha:=rfl),?_⟩;simp only [go_sem,b1,b2,List.length_map]) | (refine ⟨_,.given (hf:=h13) (hd:=rfl) (ha:=rfl),?_⟩;simp only [go_sem,b1,b2,List.length_map])));apply hK;clear hK K))
  simp only [go_sem]
 | false =>
 cases b3:decide (y.later > 2880) with
 | true =>
  rw [Net.cells,Party.cells,Trip.row] at h20
  refine z10 220 Try.call6 Try.func6 rfl (by decide) fun J=>?_
  simp only [go_sem,St.start,Try.ntmps6,Try.results6,Net.cells,Party.cells,Trip.row,Ease1.row]
  repeat (first | refine z24 ?_ | (refine z3 fun K hK=>?_;simp only [go_sem];apply hK;clear hK K) | refine z8 ?_)
  simp only [List.append_eq,List.cons_append,List.nil_append]
  repeat (first | refine z7 rfl ?_ | refine z4 rfl ?_ | refine nx ?_ | (refine z3 fun K hK=>?_;simp only [go_sem,b1,b2,b3,List.length_map];(repeat (first | (refine ⟨_,.lent (hf:=h20) (hd:=rfl) (hr:=rfl),?_⟩;simp only [go_sem,b1,b2,b3,List.length_map]) | (refine ⟨_,.lent (hf:=h13) (hd:=rfl) (hr:=rfl),?_⟩;simp only [go_sem,b1,b2,b3,List.length_map]) | (refine ⟨_,.given (hf:=h20) (hd:=rfl) (ha:=rfl),?_⟩;simp only [go_sem,b1,b2,b3,List.length_map]) | (refine ⟨_,.given (hf:=h13) (hd:=rfl) (ha:=rfl),?_⟩;simp only [go_sem,b1,b2,b3,List.length_map])));apply hK;clear hK K))
  simp only [go_sem]
 | false =>
 cases b4:decide (y.pace<0) with
 | true =>
  rw [Net.cells,Party.cells,Trip.row] at h20
  refine z10 220 Try.call6 Try.func6 rfl (by decide) fun J=>?_
  simp only [go_sem,St.start,Try.ntmps6,Try.results6,Net.cells,Party.cells,Trip.row,Ease1.row]
  repeat (first | refine z24 ?_ | (refine z3 fun K hK=>?_;simp only [go_sem];apply hK;clear hK K) | refine z8 ?_)
  simp only [List.append_eq,List.cons_append,List.nil_append]
  repeat (first | refine z7 rfl ?_ | refine z4 rfl ?_ | refine nx ?_ | (refine z3 fun K hK=>?_;simp only [go_sem,b1,b2,b3,b4,List.length_map];(repeat (first | (refine ⟨_,.lent (hf:=h20) (hd:=rfl) (hr:=rfl),?_⟩;simp only [go_sem,b1,b2,b3,b4,List.length_map]) | (refine ⟨_,.lent (hf:=h13) (hd:=rfl) (hr:=rfl),?_⟩;simp only [go_sem,b1,b2,b3,b4,List.length_map]) | (refine ⟨_,.given (hf:=h20) (hd:=rfl) (ha:=rfl),?_⟩;simp only [go_sem,b1,b2,b3,b4,List.length_map]) | (refine ⟨_,.given (hf:=h13) (hd:=rfl) (ha:=rfl),?_⟩;simp only [go_sem,b1,b2,b3,b4,List.length_map])));apply hK;clear hK K))
  simp only [go_sem]
 | false =>
 cases b5:decide (y.pace > 300) with
 | true =>
  rw [Net.cells,Party.cells,Trip.row] at h20
  refine z10 220 Try.call6 Try.func6 rfl (by decide) fun J=>?_
  simp only [go_sem,St.start,Try.ntmps6,Try.results6,Net.cells,Party.cells,Trip.row,Ease1.row]
  repeat (first | refine z24 ?_ | (refine z3 fun K hK=>?_;simp only [go_sem];apply hK;clear hK K) | refine z8 ?_)
  simp only [List.append_eq,List.cons_append,List.nil_append]
  repeat (first | refine z7 rfl ?_ | refine z4 rfl ?_ | refine nx ?_ | (refine z3 fun K hK=>?_;simp only [go_sem,b1,b2,b3,b4,b5,List.length_map];(repeat (first | (refine ⟨_,.lent (hf:=h20) (hd:=rfl) (hr:=rfl),?_⟩;simp only [go_sem,b1,b2,b3,b4,b5,List.length_map]) | (refine ⟨_,.lent (hf:=h13) (hd:=rfl) (hr:=rfl),?_⟩;simp only [go_sem,b1,b2,b3,b4,b5,List.length_map]) | (refine ⟨_,.given (hf:=h20) (hd:=rfl) (ha:=rfl),?_⟩;simp only [go_sem,b1,b2,b3,b4,b5,List.length_map]) | (refine ⟨_,.given (hf:=h13) (hd:=rfl) (ha:=rfl),?_⟩;simp only [go_sem,b1,b2,b3,b4,b5,List.length_map])));apply hK;clear hK K))
  simp only [go_sem]
 | false =>
 cases b6:decide (y.load<0) with
 | true =>
  rw [Net.cells,Party.cells,Trip.row] at h20
  refine z10 220 Try.call6 Try.func6 rfl (by decide) fun J=>?_
  simp only [go_sem,St.start,Try.ntmps6,Try.results6,Net.cells,Party.cells,Trip.row,Ease1.row]
  repeat (first | refine z24 ?_ | (refine z3 fun K hK=>?_;simp only [go_sem];apply hK;clear hK K) | refine z8 ?_)
  simp only [List.append_eq,List.cons_append,List.nil_append]
  repeat (first | refine z7 rfl ?_ | refine z4 rfl ?_ | refine nx ?_ | (refine z3 fun K hK=>?_;simp only [go_sem,b1,b2,b3,b4,b5,b6,List.length_map];(repeat (first | (refine ⟨_,.lent (hf:=h20) (hd:=rfl) (hr:=rfl),?_⟩;simp only [go_sem,b1,b2,b3,b4,b5,b6,List.length_map]) | (refine ⟨_,.lent (hf:=h13) (hd:=rfl) (hr:=rfl),?_⟩;simp only [go_sem,b1,b2,b3,b4,b5,b6,List.length_map]) | (refine ⟨_,.given (hf:=h20) (hd:=rfl) (ha:=rfl),?_⟩;simp only [go_sem,b1,b2,b3,b4,b5,b6,List.length_map]) | (refine ⟨_,.given (hf:=h13) (hd:=rfl) (ha:=rfl),?_⟩;simp only [go_sem,b1,b2,b3,b4,b5,b6,List.length_map])));apply hK;clear hK K))
  simp only [go_sem]
 | false =>
 cases b7:decide (y.load > 100) with
 | true =>
  rw [Net.cells,Party.cells,Trip.row] at h20
  refine z10 220 Try.call6 Try.func6 rfl (by decide) fun J=>?_
  simp only [go_sem,St.start,Try.ntmps6,Try.results6,Net.cells,Party.cells,Trip.row,Ease1.row]
  repeat (first | refine z24 ?_ | (refine z3 fun K hK=>?_;simp only [go_sem];apply hK;clear hK K) | refine z8 ?_)
  simp only [List.append_eq,List.cons_append,List.nil_append]
  repeat (first | refine z7 rfl ?_ | refine z4 rfl ?_ | refine nx ?_ | (refine z3 fun K hK=>?_;simp only [go_sem,b1,b2,b3,b4,b5,b6,b7,List.length_map];(repeat (first | (refine ⟨_,.lent (hf:=h20) (hd:=rfl) (hr:=rfl),?_⟩;simp only [go_sem,b1,b2,b3,b4,b5,b6,b7,List.length_map]) | (refine ⟨_,.lent (hf:=h13) (hd:=rfl) (hr:=rfl),?_⟩;simp only [go_sem,b1,b2,b3,b4,b5,b6,b7,List.length_map]) | (refine ⟨_,.given (hf:=h20) (hd:=rfl) (ha:=rfl),?_⟩;simp only [go_sem,b1,b2,b3,b4,b5,b6,b7,List.length_map]) | (refine ⟨_,.given (hf:=h13) (hd:=rfl) (ha:=rfl),?_⟩;simp only [go_sem,b1,b2,b3,b4,b5,b6,b7,List.length_map])));apply hK;clear hK K))
  simp only [go_sem]
 | false =>
 cases b8:decide (y.grade<0) with
 | true =>
  rw [Net.cells,Party.cells,Trip.row] at h20
  refine z10 220 Try.call6 Try.func6 rfl (by decide) fun J=>?_
  simp only [go_sem,St.start,Try.ntmps6,Try.results6,Net.cells,Party.cells,Trip.row,Ease1.row]
  repeat (first | refine z24 ?_ | (refine z3 fun K hK=>?_;simp only [go_sem];apply hK;clear hK K) | refine z8 ?_)
  simp only [List.append_eq,List.cons_append,List.nil_append]
  repeat (first | refine z7 rfl ?_ | refine z4 rfl ?_ | refine nx ?_ | (refine z3 fun K hK=>?_;simp only [go_sem,b1,b2,b3,b4,b5,b6,b7,b8,List.length_map];(repeat (first | (refine ⟨_,.lent (hf:=h20) (hd:=rfl) (hr:=rfl),?_⟩;simp only [go_sem,b1,b2,b3,b4,b5,b6,b7,b8,List.length_map]) | (refine ⟨_,.lent (hf:=h13) (hd:=rfl) (hr:=rfl),?_⟩;simp only [go_sem,b1,b2,b3,b4,b5,b6,b7,b8,List.length_map]) | (refine ⟨_,.given (hf:=h20) (hd:=rfl) (ha:=rfl),?_⟩;simp only [go_sem,b1,b2,b3,b4,b5,b6,b7,b8,List.length_map]) | (refine ⟨_,.given (hf:=h13) (hd:=rfl) (ha:=rfl),?_⟩;simp only [go_sem,b1,b2,b3,b4,b5,b6,b7,b8,List.length_map])));apply hK;clear hK K))
  simp only [go_sem]
 | false =>
 cases b9:decide (y.grade > 10) with
 | true =>
  rw [Net.cells,Party.cells,Trip.row] at h20
  refine z10 220 Try.call6 Try.func6 rfl (by decide) fun J=>?_
  simp only [go_sem,St.start,Try.ntmps6,Try.results6,Net.cells,Party.cells,Trip.row,Ease1.row]
  repeat (first | refine z24 ?_ | (refine z3 fun K hK=>?_;simp only [go_sem];apply hK;clear hK K) | refine z8 ?_)
  simp only [List.append_eq,List.cons_append,List.nil_append]
  repeat (first | refine z7 rfl ?_ | refine z4 rfl ?_ | refine nx ?_ | (refine z3 fun K hK=>?_;simp only [go_sem,b1,b2,b3,b4,b5,b6,b7,b8,b9,List.length_map];(repeat (first | (refine ⟨_,.lent (hf:=h20) (hd:=rfl) (hr:=rfl),?_⟩;simp only [go_sem,b1,b2,b3,b4,b5,b6,b7,b8,b9,List.length_map]) | (refine ⟨_,.lent (hf:=h13) (hd:=rfl) (hr:=rfl),?_⟩;simp only [go_sem,b1,b2,b3,b4,b5,b6,b7,b8,b9,List.length_map]) | (refine ⟨_,.given (hf:=h20) (hd:=rfl) (ha:=rfl),?_⟩;simp only [go_sem,b1,b2,b3,b4,b5,b6,b7,b8,b9,List.length_map]) | (refine ⟨_,.given (hf:=h13) (hd:=rfl) (ha:=rfl),?_⟩;simp only [go_sem,b1,b2,b3,b4,b5,b6,b7,b8,b9,List.length_map])));apply hK;clear hK K))
  simp only [go_sem]
 | false =>
 cases b10:decide (y.snow<0) with
 | true =>
  rw [Net.cells,Party.cells,Trip.row] at h20
  refine z10 220 Try.call6 Try.func6 rfl (by decide) fun J=>?_
  simp only [go_sem,St.start,Try.ntmps6,Try.results6,Net.cells,Party.cells,Trip.row,Ease1.row]
  repeat (first | refine z24 ?_ | (refine z3 fun K hK=>?_;simp only [go_sem];apply hK;clear hK K) | refine z8 ?_)
  simp only [List.append_eq,List.cons_append,List.nil_append]
  repeat (first | refine z7 rfl ?_ | refine z4 rfl ?_ | refine nx ?_ | (refine z3 fun K hK=>?_;simp only [go_sem,b1,b2,b3,b4,b5,b6,b7,b8,b9,b10,List.length_map];(repeat (first | (refine ⟨_,.lent (hf:=h20) (hd:=rfl) (hr:=rfl),?_⟩;simp only [go_sem,b1,b2,b3,b4,b5,b6,b7,b8,b9,b10,List.length_map]) | (refine ⟨_,.lent (hf:=h13) (hd:=rfl) (hr:=rfl),?_⟩;simp only [go_sem,b1,b2,b3,b4,b5,b6,b7,b8,b9,b10,List.length_map]) | (refine ⟨_,.given (hf:=h20) (hd:=rfl) (ha:=rfl),?_⟩;simp only [go_sem,b1,b2,b3,b4,b5,b6,b7,b8,b9,b10,List.length_map]) | (refine ⟨_,.given (hf:=h13) (hd:=rfl) (ha:=rfl),?_⟩;simp only [go_sem,b1,b2,b3,b4,b5,b6,b7,b8,b9,b10,List.length_map])));apply hK;clear hK K))
  simp only [go_sem]
 | false =>
 cases b11:decide (y.snow > 100) with
 | true =>
  rw [Net.cells,Party.cells,Trip.row] at h20
  refine z10 220 Try.call6 Try.func6 rfl (by decide) fun J=>?_
  simp only [go_sem,St.start,Try.ntmps6,Try.results6,Net.cells,Party.cells,Trip.row,Ease1.row]
  repeat (first | refine z24 ?_ | (refine z3 fun K hK=>?_;simp only [go_sem];apply hK;clear hK K) | refine z8 ?_)
  simp only [List.append_eq,List.cons_append,List.nil_append]
  repeat (first | refine z7 rfl ?_ | refine z4 rfl ?_ | refine nx ?_ | (refine z3 fun K hK=>?_;simp only [go_sem,b1,b2,b3,b4,b5,b6,b7,b8,b9,b10,b11,List.length_map];(repeat (first | (refine ⟨_,.lent (hf:=h20) (hd:=rfl) (hr:=rfl),?_⟩;simp only [go_sem,b1,b2,b3,b4,b5,b6,b7,b8,b9,b10,b11,List.length_map]) | (refine ⟨_,.lent (hf:=h13) (hd:=rfl) (hr:=rfl),?_⟩;simp only [go_sem,b1,b2,b3,b4,b5,b6,b7,b8,b9,b10,b11,List.length_map]) | (refine ⟨_,.given (hf:=h20) (hd:=rfl) (ha:=rfl),?_⟩;simp only [go_sem,b1,b2,b3,b4,b5,b6,b7,b8,b9,b10,b11,List.length_map]) | (refine ⟨_,.given (hf:=h13) (hd:=rfl) (ha:=rfl),?_⟩;simp only [go_sem,b1,b2,b3,b4,b5,b6,b7,b8,b9,b10,b11,List.length_map])));apply hK;clear hK K))
  simp only [go_sem]
 | false =>
 cases b12:decide ((y.more.opens.length:Int) > 20) with
 | true =>
  rw [Net.cells,Party.cells,Trip.row] at h20
  refine z10 220 Try.call6 Try.func6 rfl (by decide) fun J=>?_
  simp only [go_sem,St.start,Try.ntmps6,Try.results6,Net.cells,Party.cells,Trip.row,Ease1.row]
  repeat (first | refine z24 ?_ | (refine z3 fun K hK=>?_;simp only [go_sem];apply hK;clear hK K) | refine z8 ?_)
  simp only [List.append_eq,List.cons_append,List.nil_append]
  repeat (first | refine z7 rfl ?_ | refine z4 rfl ?_ | refine nx ?_ | (refine z3 fun K hK=>?_;simp only [go_sem,b1,b2,b3,b4,b5,b6,b7,b8,b9,b10,b11,b12,List.length_map];(repeat (first | (refine ⟨_,.lent (hf:=h20) (hd:=rfl) (hr:=rfl),?_⟩;simp only [go_sem,b1,b2,b3,b4,b5,b6,b7,b8,b9,b10,b11,b12,List.length_map]) | (refine ⟨_,.lent (hf:=h13) (hd:=rfl) (hr:=rfl),?_⟩;simp only [go_sem,b1,b2,b3,b4,b5,b6,b7,b8,b9,b10,b11,b12,List.length_map]) | (refine ⟨_,.given (hf:=h20) (hd:=rfl) (ha:=rfl),?_⟩;simp only [go_sem,b1,b2,b3,b4,b5,b6,b7,b8,b9,b10,b11,b12,List.length_map]) | (refine ⟨_,.given (hf:=h13) (hd:=rfl) (ha:=rfl),?_⟩;simp only [go_sem,b1,b2,b3,b4,b5,b6,b7,b8,b9,b10,b11,b12,List.length_map])));apply hK;clear hK K))
  simp only [go_sem]
 | false =>
 simp only [fitsB,Bool.and_eq_true,beq_iff_eq,z34] at b0
 obtain ⟨_,hc,hf,_,hst,_⟩:=b0
 obtain ⟨hn,hp⟩:=z148.1 hc
 simp only [decide_eq_false_iff_not] at b1 b2 b3 b4 b5 b6 b7 b8 b9 b10 b11 b12
 have hy:EaseOk y:=⟨by omega,by omega,by omega,by omega⟩
 obtain ⟨hE,hW⟩:=z865 hn hp hy
 have hq:=z288 hp hy
 have hpl:=hn.places
 have hf:0≤x.frm∧x.frm<n.places:=by omega
 have hsm:∀ m:Net,m.Good→m.Small:=fun m h=>⟨by have:=h.paths;omega,fun z hz=>by have:=(h.path z hz).len;omega⟩
 have hwl:wr (x.start + y.later)=x.start + y.later:=z12 (by omega)
 obtain ⟨s2,hs2⟩:∃ s2,s2=min 2880 (wr (x.start + y.later)):=⟨_,rfl⟩
 have hs2r:x.start≤s2∧s2≤2880:=by rw [hs2,hwl];omega
 have h21a:=z893 n p x.frm x.start hs
 have h21b:=z893 n p x.frm s2 hs
 have h21c:=z893 (easeNet n y) (easeParty p y) x.frm x.start (hsm _ hE)
 have h25:=z928 n p y hs (by have:=hn.paths;omega) (fun z hz=>by have:=(hn.path z hz).len;omega) hm
 have hfE:0≤x.frm∧x.frm<(easeNet n y).places:=by rw [hW.places];exact hf
 rw [z123 hn hp hf hst] at h21a
 rw [z123 hn hp hf (by omega)] at h21b
 rw [z123 hE hq hfE hst] at h21c
 dsimp only at h21a h21b h21c
 obtain ⟨N,hN⟩:∃ N:Nat,n.places=(N:Int):=⟨n.places.toNat,by omega⟩
 have la:(arrivalsL n p spanHi x.frm x.start (-1)).length=N:=by rw [z56];omega
 have lb:(arrivalsL n p spanHi x.frm s2 (-1)).length=N:=by rw [z56];omega
 have lc:(arrivalsL (easeNet n y) (easeParty p y) spanHi x.frm x.start (-1)).length=N:=by rw [z56,hW.places];omega
 have key1:∀ i:Nat,i<N→told1 (getI (arrivalsL n p spanHi x.frm s2 (-1)) (i:Int)) ≥ 0→told1 (getI (arrivalsL n p spanHi x.frm x.start (-1)) (i:Int)) ≥ 0∧told1 (getI (arrivalsL n p spanHi x.frm x.start (-1)) (i:Int))≤told1 (getI (arrivalsL n p spanHi x.frm s2 (-1)) (i:Int)):=fun i hi =>
  z385 (z371 hn hp hf hst (by omega)) (z371 hn hp hf (by omega) (by omega)) (z784 hn hp hf ⟨hst.1,hs2r.1⟩ hs2r.2 (by omega))
 have key2:∀ i:Nat,i<N→told1 (getI (arrivalsL n p spanHi x.frm x.start (-1)) (i:Int)) ≥ 0→told1 (getI (arrivalsL (easeNet n y) (easeParty p y) spanHi x.frm x.start (-1)) (i:Int)) ≥ 0∧told1 (getI (arrivalsL (easeNet n y) (easeParty p y) spanHi x.frm x.start (-1)) (i:Int))≤told1 (getI (arrivalsL n p spanHi x.frm x.start (-1)) (i:Int)):=fun i hi =>
  z385 (z371 hE hq hfE hst (by rw [hW.places];omega)) (z371 hn hp hf hst (by omega)) (z714 hn hE hp hq hW hf hst (by omega))
 obtain ⟨A,hA⟩:∃ A,A=arrivalsL n p spanHi x.frm x.start (-1):=⟨_,rfl⟩
 obtain ⟨B,hB⟩:∃ A,A=arrivalsL n p spanHi x.frm s2 (-1):=⟨_,rfl⟩
 obtain ⟨C,hC⟩:∃ A,A=arrivalsL (easeNet n y) (easeParty p y) spanHi x.frm x.start (-1):=⟨_,rfl⟩
 rw [← hA] at h21a la key1 key2
 rw [← hB] at h21b lb key1
 rw [← hC] at h21c lc key2
 obtain ⟨A2,hA2⟩:∃ l,l=(arrivalsL n p spanLo x.frm x.start (-1)).map told1:=⟨_,rfl⟩
 obtain ⟨B2,hB2⟩:∃ l,l=(arrivalsL n p spanLo x.frm s2 (-1)).map told1:=⟨_,rfl⟩
 obtain ⟨C2,hC2⟩:∃ l,l=(arrivalsL (easeNet n y) (easeParty p y) spanLo x.frm x.start (-1)).map told1:=⟨_,rfl⟩
 rw [← hA2] at h21a
 rw [← hB2] at h21b
 rw [← hC2] at h21c
 obtain ⟨m,hm2⟩:∃ m,m=easeNet n y:=⟨_,rfl⟩
 obtain ⟨q,hq2⟩:∃ q,q=easeParty p y:=⟨_,rfl⟩
 rw [← hm2,← hq2] at h21c h25
 have lA:(intRows (A.map told1)).length=N:=by rw [z21,List.length_map,la]
 have lB:(intRows (B.map told1)).length=N:=by rw [z21,List.length_map,lb]
 have lC:(intRows (C.map told1)).length=N:=by rw [z21,List.length_map,lc]
 have nN:((N:Int) != (N:Int))=false:=by simp
 have b1:decide ((n.paths.length:Int) > 9)=false:=decide_eq_false b1
 have b2:decide (y.later<0)=false:=decide_eq_false b2
 have b3:decide (y.later > 2880)=false:=decide_eq_false b3
 have b4:decide (y.pace<0)=false:=decide_eq_false b4
 have b5:decide (y.pace > 300)=false:=decide_eq_false b5
 have b6:decide (y.load<0)=false:=decide_eq_false b6
 have b7:decide (y.load > 100)=false:=decide_eq_false b7
 have b8:decide (y.grade<0)=false:=decide_eq_false b8
 have b9:decide (y.grade > 10)=false:=decide_eq_false b9
 have b10:decide (y.snow<0)=false:=decide_eq_false b10
 have b11:decide (y.snow > 100)=false:=decide_eq_false b11
 have b12:decide ((y.more.opens.length:Int) > 20)=false:=decide_eq_false b12
 simp only [Net.cells,Party.cells,Trip.row,Ease1.row] at h20 h21a h21b h21c h25
 rw [hN] at h20 h21a h21b h25
 refine z10 220 Try.call6 Try.func6 rfl (by decide) fun J=>?_
 simp only [go_sem,St.start,Try.ntmps6,Try.results6,Net.cells,Party.cells,Trip.row,Ease1.row,hN]
 repeat (first | refine z24 ?_ | (refine z3 fun K hK=>?_;simp only [go_sem];apply hK;clear hK K) | refine z8 ?_)
 simp only [List.append_eq,List.cons_append,List.nil_append]
 repeat (first | refine z7 rfl ?_ | refine z4 rfl ?_ | refine nx ?_ | (refine z3 fun K hK=>?_;simp only [go_sem,b1,b2,b3,b4,b5,b6,b7,b8,b9,b10,b11,b12,List.length_map,← hs2,lA,lB,lC,nN];(repeat (first | (refine ⟨_,.lent (hf:=h20) (hd:=rfl) (hr:=rfl),?_⟩;simp only [go_sem,b1,b2,b3,b4,b5,b6,b7,b8,b9,b10,b11,b12,List.length_map,← hs2,lA,lB,lC,nN]) | (refine ⟨_,.lent (hf:=h21a) (hd:=rfl) (hr:=rfl),?_⟩;simp only [go_sem,b1,b2,b3,b4,b5,b6,b7,b8,b9,b10,b11,b12,List.length_map,← hs2,lA,lB,lC,nN]) | (refine ⟨_,.lent (hf:=h21b) (hd:=rfl) (hr:=rfl),?_⟩;simp only [go_sem,b1,b2,b3,b4,b5,b6,b7,b8,b9,b10,b11,b12,List.length_map,← hs2,lA,lB,lC,nN]) | (refine ⟨_,.lent (hf:=h25) (hd:=rfl) (hr:=rfl),?_⟩;simp only [go_sem,b1,b2,b3,b4,b5,b6,b7,b8,b9,b10,b11,b12,List.length_map,← hs2,lA,lB,lC,nN]) | (refine ⟨_,.lent (hf:=h21c) (hd:=rfl) (hr:=rfl),?_⟩;simp only [go_sem,b1,b2,b3,b4,b5,b6,b7,b8,b9,b10,b11,b12,List.length_map,← hs2,lA,lB,lC,nN]) | (refine ⟨_,.given (hf:=h20) (hd:=rfl) (ha:=rfl),?_⟩;simp only [go_sem,b1,b2,b3,b4,b5,b6,b7,b8,b9,b10,b11,b12,List.length_map,← hs2,lA,lB,lC,nN]) | (refine ⟨_,.given (hf:=h21a) (hd:=rfl) (ha:=rfl),?_⟩;simp only [go_sem,b1,b2,b3,b4,b5,b6,b7,b8,b9,b10,b11,b12,List.length_map,← hs2,lA,lB,lC,nN]) | (refine ⟨_,.given (hf:=h21b) (hd:=rfl) (ha:=rfl),?_⟩;simp only [go_sem,b1,b2,b3,b4,b5,b6,b7,b8,b9,b10,b11,b12,List.length_map,← hs2,lA,lB,lC,nN]) | (refine ⟨_,.given (hf:=h25) (hd:=rfl) (ha:=rfl),?_⟩;simp only [go_sem,b1,b2,b3,b4,b5,b6,b7,b8,b9,b10,b11,b12,List.length_map,← hs2,lA,lB,lC,nN]) | (refine ⟨_,.given (hf:=h21c) (hd:=rfl) (ha:=rfl),?_⟩;simp only [go_sem,b1,b2,b3,b4,b5,b6,b7,b8,b9,b10,b11,b12,List.length_map,← hs2,lA,lB,lC,nN])));apply hK;clear hK K))
 refine z25 (fun (i:Nat)=>[(20,.d (.i (i:Int)))]) (fun _=>[]) (fun i=>i≤N) (fun i=>N - i) 0 ?_ (Nat.zero_le _) ?_
 ·simp only [go_sem]
  refine weA ?_ ?_ <;> simp
 ·intro i hi
  simp only [go_sem]
  repeat (first | refine nx ?_ | (refine z3 fun K hK=>?_;simp only [go_sem];apply hK;clear hK K))
  refine z5 rfl (fun hb=>?_) (fun hb=>?_)
  ·have hlt:i<N:=by simpa using hb
   have hw:IntKind.i64.wrap ((i:Int) + 1)=((i + 1:Nat):Int):=by rw [z12 (by omega)];simp
   have hni:¬ ((i:Int)<0):=by omega
   have gA:=z495 la hlt
   have gB:=z495 lb hlt
   have gC:=z495 lc hlt
   have k1:=key1 i hlt
   have k2:=key2 i hlt
   obtain ⟨a,ha⟩:∃ a,a=told1 (getI A (i:Int)):=⟨_,rfl⟩
   obtain ⟨b,hb2⟩:∃ b,b=told1 (getI B (i:Int)):=⟨_,rfl⟩
   obtain ⟨c,hc2⟩:∃ c,c=told1 (getI C (i:Int)):=⟨_,rfl⟩
   rw [← ha] at gA k1 k2
   rw [← hb2] at gB k1
   rw [← hc2] at gC k2
   by_cases hb0:b ≥ 0
   ·obtain ⟨k3,k4⟩:=k1 hb0
    obtain ⟨k5,k6⟩:=k2 k3
    have e1:decide (b ≥ 0)=true:=decide_eq_true hb0
    have e2:decide (a<0)=false:=decide_eq_false (by omega)
    have e3:decide (a > b)=false:=decide_eq_false (by omega)
    have e4:decide (a ≥ 0)=true:=decide_eq_true k3
    have e5:decide (c<0)=false:=decide_eq_false (by omega)
    have e6:decide (c > a)=false:=decide_eq_false (by omega)
    repeat refine nx ?_
    refine z15 (by kernel_rfl) (by kernel_rfl) fun K hK=>?_
    simp only [go_sem,hni,gA,gB,gC,hlt,lA,lB,lC,e1,e2,e3,e4,e5,e6]
    refine ⟨by kernel_rfl,hK _ ?_⟩
    clear hK K
    repeat (first | refine z7 rfl ?_ | refine z4 rfl ?_ | refine nx ?_ | (refine z3 fun K hK=>?_;simp only [go_sem,hw];apply hK;clear hK K))
    refine ⟨rfl,i + 1,?_,hlt,by omega⟩
    refine weA ?_ ?_ <;> simp
   ·have e1:decide (b ≥ 0)=false:=decide_eq_false hb0
    by_cases ha0:a ≥ 0
    ·obtain ⟨k5,k6⟩:=k2 ha0
     have e4:decide (a ≥ 0)=true:=decide_eq_true ha0
     have e5:decide (c<0)=false:=decide_eq_false (by omega)
     have e6:decide (c > a)=false:=decide_eq_false (by omega)
     repeat refine nx ?_
     refine z15 (by kernel_rfl) (by kernel_rfl) fun K hK=>?_
     simp only [go_sem,hni,gA,gB,gC,hlt,lA,lB,lC,e1,e4,e5,e6]
     refine ⟨by kernel_rfl,hK _ ?_⟩
     clear hK K
     repeat (first | refine z7 rfl ?_ | refine z4 rfl ?_ | refine nx ?_ | (refine z3 fun K hK=>?_;simp only [go_sem,hw];apply hK;clear hK K))
     refine ⟨rfl,i + 1,?_,hlt,by omega⟩
     refine weA ?_ ?_ <;> simp
    ·have e4:decide (a ≥ 0)=false:=decide_eq_false ha0
     repeat refine nx ?_
     refine z15 (by kernel_rfl) (by kernel_rfl) fun K hK=>?_
     simp only [go_sem,hni,gA,gB,gC,hlt,lA,lB,lC,e1,e4]
     refine ⟨by kernel_rfl,hK _ ?_⟩
     clear hK K
     repeat (first | refine z7 rfl ?_ | refine z4 rfl ?_ | refine nx ?_ | (refine z3 fun K hK=>?_;simp only [go_sem,hw];apply hK;clear hK K))
     refine ⟨rfl,i + 1,?_,hlt,by omega⟩
     refine weA ?_ ?_ <;> simp
  ·have he:i=N:=by (have:¬ i<N:=by simpa using hb);omega
   subst he
   repeat (first | refine z7 rfl ?_ | refine z4 rfl ?_ | refine nx ?_ | (refine z3 fun K hK=>?_;simp only [go_sem];(repeat (first | (refine ⟨_,.lent (hf:=h13) (hd:=rfl) (hr:=rfl),?_⟩;simp only [go_sem]) | (refine ⟨_,.given (hf:=h13) (hd:=rfl) (ha:=rfl),?_⟩;simp only [go_sem])));apply hK;clear hK K))
   simp only [go_sem]
end Go.Ab
/- The z912 from a walked contract to a statement's contract,for a statement of four arguments: Net,Party,Trip,and numbers. -/
namespace Go.Ab
open Go.RowKit Go.Proofs Go.ChangeShapes Go.WideShapes Go.Proofs.Ytldnaopmkgikkaa
set_option linter.unusedVariables false
set_option maxRecDepth 100000
def easeS:List Sh:=[iS,iS,iS,iS,iS,iS,iS,iS,iS,iS,iS,iS,iS,iS,.sl spanS]
theorem z883:shapes Try.prog 20 52=some easeS:=by kernel_rfl
theorem z866 {N:Nat} {r:List DV} (h0:Sh.fitsL N easeS r):∃ y:Ease1,r=y.row∧y.more.opens.length≤N:=by
 simp only [easeS,iS,Sh.fitsL,Sh.fits] at h0
 obtain ⟨_,_,rfl,⟨a,rfl,_⟩,_,_,rfl,⟨b,rfl,_⟩,_,_,rfl,⟨c,rfl,_⟩,_,_,rfl,⟨d,rfl,_⟩,_,_,rfl,⟨e,rfl,_⟩,_,_,rfl,⟨f,rfl,_⟩,_,_,rfl,⟨g,rfl,_⟩,_,_,rfl,⟨h,rfl,_⟩,_,_,rfl,⟨i,rfl,_⟩,_,_,rfl,⟨j,rfl,_⟩,_,_,rfl,⟨k,rfl,_⟩,_,_,rfl,⟨l,rfl,_⟩,_,_,rfl,⟨m,rfl,_⟩,_,_,rfl,⟨n,rfl,_⟩,_,_,rfl,⟨rows,rfl,hl,hr⟩,rfl⟩:=h0
 obtain ⟨l0,rfl,_⟩:=z227 (fun r h=>z740 (hr r h))
 exact ⟨⟨a,b,c,d,e,f,g,⟨h,i,j,⟨k,l⟩,⟨m,n⟩,l0⟩⟩,rfl,by simpa using hl⟩
theorem z898 {f:FuncId} {fn:Func} (hf:∀ (n:Net) (p:Party) (x:Trip) (y:Ease1),n.Small→y.more.opens.length<2 ^ 30→Fn Try.prog f [.agg n.cells,.agg p.cells,.agg x.row,.agg y.row] (.bool true)) (hfn:fn.params=#[24,28,31,52]) (hr:fn.resultTypes=#[4])
  (s:ChangeSpec) (hv:s.vars=[]) (hs:∀ (H:Type) (a b c d:DataW H),s.fn H [a,b,c,d]={ results:=[.lit (.bool true)],args:=[a,b,c,d] })
  {H:Type} {enc:TypeId × Value→H} {W:World} {args:Array Value} {ds gs:List (DataW H)} {before:List MemPlace}
  {base:Nat} (hval:∀ (j:Nat) t v,fn.params[j]?=some t→args[j]?=some v→Value.okWide Try.prog W .any base t v) (hW:DataW.Whole enc Try.prog fn.params.toList s.vars false W args.toList ds gs before) (hk:Rows.uptoSmall H (ds++gs)=true) :
  Calls Try.prog f args W fun e W'=>∃ v,e=.returned v∧s.post enc Try.prog fn false true false false W args v W':=by
 have hW':=hW
 obtain ⟨p,q,hA,hV,rfl,hfz,hnd⟩:=hW
 rw [hfn] at hA
 rw [hv] at hV
 obtain ⟨v0,v1,v2,v3,d0,d1,d2,d3,p0,p1,p2,p3,rfl,rfl,rfl,h0,h1,h2,h3⟩:=trodAll_four hA
 obtain ⟨rfl,rfl⟩:=trodVars_none hV
 have hb:=of_decide_eq_true hk
 simp only [List.append_nil,Rows.uptoBulkAll] at hb
 obtain ⟨e0,hf0,r0⟩:=z109 z878 (by decide) h0 (by omega)
 obtain ⟨e1,hf1,r1⟩:=z109 z749 (by decide) h1 (by omega)
 obtain ⟨e2,hf2,r2⟩:=z109 z844 (by decide) h2 (by omega)
 obtain ⟨e3,hf3,r3⟩:=z109 z883 (by decide) h3 (by omega)
 obtain ⟨n,rfl,hsm⟩:=z846 (by decide) hf0
 obtain ⟨pa,rfl⟩:=z609 hf1
 obtain ⟨x,rfl,hxr⟩:=z723 hf2
 obtain ⟨y,rfl,hyr⟩:=z866 hf3
 have hc:=(hf n pa x y hsm (by omega)).2 W (fun _=>False) #[v0,v1,v2,v3] (fun _ h=>h.elim) (Hid.no (by kernel_rfl)) ⟨rfl,by
  intro i d v hd hv
  match i,hd,hv with
  | 0,hd,hv=>simp at hd hv;subst hd;subst hv;exact r0
  | 1,hd,hv=>simp at hd hv;subst hd;subst hv;exact r1
  | 2,hd,hv=>simp at hd hv;subst hd;subst hv;exact r2
  | 3,hd,hv=>simp at hd hv;subst hd;subst hv;exact r3
  | i + 4,hd,hv=>simp at hd⟩
 refine hc.mono fun e W' h=>?_
 obtain ⟨v,rfl,hrel,hbel⟩:=h
 cases hrel
 refine ⟨_,rfl,?_⟩
 have hlt:∀ y ∈ p0++p1++p2++p3,y.block<W.heap.size:=fun y hy=>hW'.lt y (by simpa using hy)
 have hargs:∀ sp:Nat→Bool,(∀ p ∈ p0++p1++p2++p3,sp p.block=true)→DataW.TrodAll enc Try.prog W' 0 sp true [24,28,31,52] [v0,v1,v2,v3] [d0,d1,d2,d3] (p0++(p1++(p2++p3))):=by
  intro sp hsp
  have st:∀ (t:TypeId) (v:Value) (d:DataW H) (ps:List MemPlace),Try.prog.readableRec t=true→t<Try.prog.types.size→(∀ y ∈ ps,y ∈ p0++p1++p2++p3)→DataW.Trod enc Try.prog W 0 (fun _=>true) true t v d ps→DataW.Trod enc Try.prog W' 0 sp true t v d ps :=
   fun t v d ps hr ht hin h=>WideElems.Trod_stays (by kernel_rfl) hr ht h (fun y hy=>hbel.same (hlt y (hin y hy))) (fun y hy=>hsp y (hin y hy))
  exact trodAll_mk4 (st 24 _ _ _ (by kernel_rfl) (of_decide_eq_true (by kernel_rfl)) (fun y hy=>by simp [hy]) h0) (st 28 _ _ _ (by kernel_rfl) (of_decide_eq_true (by kernel_rfl)) (fun y hy=>by simp [hy]) h1) (st 31 _ _ _ (by kernel_rfl) (of_decide_eq_true (by kernel_rfl)) (fun y hy=>by simp [hy]) h2) (st 52 _ _ _ (by kernel_rfl) (of_decide_eq_true (by kernel_rfl)) (fun y hy=>by simp [hy]) h3)
 have hok:Value.okWide Try.prog W' .any 0 4 (.bool true):=okWide_bool_mk (t:=4) Try.underlying4 true
 refine z164 (pa:=p0++(p1++(p2++p3))) (pv:=[]) hW' ?_ ?_ ?_ (by simp) hbel ?_
 ·intro b sp hd
  rw [hr,show ([d0,d1,d2,d3]++[]:List (DataW H))=[d0,d1,d2,d3] from rfl,hs]
  exact trodAll_mk1 (shut_bool Try.underlying4 _)
 ·intro sp hsp
  rw [hfn,show ([d0,d1,d2,d3]++[]:List (DataW H))=[d0,d1,d2,d3] from rfl,hs]
  exact hargs sp (fun y hy=>hsp y (by simpa using hy))
 ·intro sp hsp
  rw [hv,show ([d0,d1,d2,d3]++[]:List (DataW H))=[d0,d1,d2,d3] from rfl,hs]
  rfl
 ·exact ok_one hr rfl hok
end Go.Ab
