/- A walk engine over abstract states, and the contracts of the functions that the statement reaches: part 2. -/
import Derived.Test.YtfkbbaagifpjpaaDoorWa
import Derived.Laws.CopyRow
import Derived.Laws.IdiomCopy
import Derived.RangeFuncRecord
import Derived.RangeFuncSeq
set_option linter.unusedVariables false
set_option linter.unusedSimpArgs false
set_option linter.unnecessarySimpa false
/- All operations together;the contract of a function;a call. -/
namespace Go.Ab
open Go.RowKit
section
variable {P:Program} {base:Own} {out:Own} {st st':St} {μ:Pl} {tmps:Array Value} {w:World} {o:Oper}
def dstOk (o:Oper):Bool:=match o.op with
 | .store ..=>o.dst.isNone
 | .entryStore .. | .mapUpdate ..=>o.dst.isNone
 | _=>true
theorem z76 {α:Type} {a:Array α} {x y:α} (h:a.toList=[x,y]):a=#[x,y]:=Array.toList_inj.1 h
theorem z236 {α:Type} {a:Array α} {x:α} (h:a.toList=[x]):a=#[x]:=Array.toList_inj.1 h
theorem z1077 {α β:Type} {f:α→β} {a:Array α} {y:β} (h:a.toList.map f=[y]):∃ x,a=#[x]∧f x=y:=by
 cases hl:a.toList with
 | nil=>rw [hl] at h;cases h
 | cons x xs =>
  rw [hl] at h
  simp only [List.map_cons,List.cons.injEq,List.map_eq_nil_iff] at h
  obtain⟨h1,rfl⟩:=h
  exact⟨x,z236 hl,h1⟩
theorem z1076 {α β:Type} {f:α→β} {a:Array α} {y z:β} (h:a.toList.map f=[y,z]):∃ x1 x2,a=#[x1,x2]∧f x1=y∧f x2=z:=by
 cases hl:a.toList with
 | nil=>rw [hl] at h;cases h
 | cons x xs =>
  rw [hl] at h
  cases xs with
  | nil=>cases h
  | cons x2 xs =>
   simp only [List.map_cons,List.cons.injEq,List.map_eq_nil_iff] at h
   obtain⟨h1,h2,rfl⟩:=h
   exact⟨x,x2,z76 hl,h1,h2⟩
theorem z1060 {dst:Option Tmp} {x:Option AV} (h:putV st dst x=some st'):∃ r,x=some r∧st'=st.put dst r:=by
 unfold putV at h
 split at h
 ·cases h;exact⟨_,rfl,rfl⟩
 ·cases h
theorem z758 (h:StRel P base out st μ tmps w) {r:AV} (hs:valOp P o.op st=some r):OpOK P base out μ o (st.put o.dst r) tmps w:=by
 unfold valOp at hs
 split at hs
 ·rename_i x ho;cases hs;exact z1066 h (.inl ho)
 ·rename_i x ho;cases hs;exact z1066 h (.inr ho)
 ·rename_i ho;exact z1211 h ho hs
 ·rename_i ho;exact z1158 h ho hs
 ·rename_i ho;exact z1212 h ho hs
 ·rename_i ho;exact z868 h ho hs
 ·rename_i ho;exact z1214 h ho hs
 ·rename_i ho;exact z1309 h ho hs
 ·rename_i ho;exact z993 h ho hs
 ·rename_i ho;exact z870 h ho hs
 ·rename_i ho;exact z1153 h ho hs
 ·rename_i ho;exact z690 h ho hs
 ·rename_i ho;exact z1154 h ho hs
 ·rename_i ho;exact z689 h ho hs
 ·rename_i ho;exact z992 h ho hs
 ·rename_i ho;exact z1067 h ho hs
 ·rename_i ho
  split at hs
  ·rename_i t x hts hargs
   obtain⟨a,rfl,rfl⟩:=z1077 hargs
   have hts':=z236 hts
   subst hts'
   exact z1257 h ho hs
  ·cases hs
 ·rename_i ho;exact z686 (mx:=false) h ho hs
 ·rename_i ho;exact z686 (mx:=true) h ho hs
 ·cases hs
theorem z1237 (h:StRel P base out st μ tmps w) {x:AV} {v:Value} (hx:AVRel w (ownOf out μ) μ x v) {n off len:Nat} (hd:dstOf st x=some (n,off,len)) {e:TypeId} {rows:List (List DV)} (hn:st.m[n]?=some (some (.arr e 1 rows))) :
  ∃ a cap,v=.slice a len cap∧(0<len→∃ b c,μ n=some (.at b 1 rows.length c)∧a=some ⟨b,off,none⟩):=by
 unfold dstOf at hd
 split at hd
 ·split at hd
  ·rename_i e' z' rows' hn'
   cases hd
   rw [hn] at hn'
   cases hn'
   rcases h.mem.arr hn with ⟨h0,rfl⟩ | ⟨b,c,cs,hμ,_⟩
   ·rcases z29 hx with ⟨_,rfl⟩ | ⟨b,z,l,c,hμ,_⟩
    ·exact⟨none,0,rfl,fun h=>absurd h (by simp)⟩
    ·rw [h0] at hμ;cases hμ
   ·rcases z29 hx with ⟨h0,_⟩ | ⟨b2,z,l,c2,hμ2,rfl⟩
    ·rw [hμ] at h0;cases h0
    ·rw [hμ] at hμ2;cases hμ2
     exact⟨_,_,rfl,fun _=>⟨b,c,hμ,rfl⟩⟩
  ·cases hd
 ·cases hd
  obtain⟨a,cap,rfl,_,_,_,hp⟩:=z151 hx
  refine⟨a,cap,rfl,fun hl=>?_⟩
  obtain⟨b,z,l,c,hμ,ha,_⟩:=hp hl
  rcases h.mem.arr hn with ⟨h0,_⟩ | ⟨b2,c2,cs,hμ2,_⟩
  ·rw [h0] at hμ;cases hμ
  ·rw [hμ] at hμ2;cases hμ2
   exact⟨b,_,hμ,by simpa using ha⟩
 ·cases hd
theorem z188 {α:Type} (l xs:List α) (off:Nat) (hl:off + xs.length≤l.length) (p:Nat) :
  (l.take off++(xs++l.drop (off + xs.length)))[p]?=if off≤p∧p<off + xs.length then xs[p - off]? else l[p]? :=
 z105 (row:=l) (xs:=xs) (off:=off) (r:=l.take off++(xs++l.drop (off + xs.length))) (by simp [splice,hl]) p
theorem z922 {n:Nat} {b:Blk} {m:List (Option Blk)} (hn:m[n]?=some (some b)):m.set n (some b)=m:=by
 apply List.ext_getElem?
 intro i
 rw [List.getElem?_set]
 split
 ·rename_i hi;subst hi
  have:=(List.getElem?_eq_some_iff.1 hn).1
  rw [if_pos this,hn]
 ·rfl
theorem z1156 (h:StRel P base out st μ tmps w) {t t':TypeId} {x y:Operand} (ho:o.op=.call { callee:=.builtin .copy,args:=#[x,y],argTypes:=#[t,t'] }) {c n:Nat} {blk:Blk} (hs:opCopyA P st t (st.ev x) (st.ev y)=some (c,n,blk)) :
  OpOK P base out μ o { t:=(st.put o.dst (.d (.int .i64 c))).t,m:=st.m.set n (some blk) } tmps w:=by
 have hxv:=h.ev x []
 have hyv:=h.ev y []
 unfold opCopyA at hs
 split at hs
 ·rename_i e he
  split at hs
  ·rename_i s xs n' off len hsz hel hdst
   split at hs
   ·rename_i e' z rows hn
    split at hs
    ·rename_i hcond
     obtain⟨rfl,rfl,hhead,hfit⟩:=hcond
     cases hs
     obtain⟨a,cap,hxe,hpl⟩:=z1237 h hxv hdst hn
     obtain⟨a',cap',hye,_,_⟩:=z229 h hyv hel
     have hinfo:(P.info? e).map (·.size)=some 1:=hsz
     have fin:∀ w',(Builtin.copy_ #[t,t'] o.type #[val tmps x,val tmps y]).run P w=.ok (goInt (min xs.length len:Nat)) w'→StRel P base out { st with m:=st.m.set n (some (.arr e' 1 (rows.take off++(xs.take (min xs.length len)++rows.drop (off + min xs.length len))))) } μ tmps w' →
       KeepO base (ownOf out μ) w (ownOf out μ) w'→OpOK P base out μ o { t:=(st.put o.dst (.d (.int .i64 (min xs.length len:Nat)))).t,m:=st.m.set n (some (.arr e' 1 (rows.take off++(xs.take (min xs.length len)++rows.drop (off + min xs.length len))))) } tmps w:=by
      intro w' hr hst hk
      refine⟨.value (goInt (min xs.length len:Nat)),_,w',μ,fun ds=>?_,.inl rfl,?_,hk⟩
      ·unfold execOp
       rw [z22]
       simp only [val] at hr
       simp [ho,resolve,invoke,builtin,hr]
      ·have:=hst.put (x:=.d (.int .i64 (min xs.length len:Nat))) (v:=goInt (min xs.length len:Nat)) (.d (.int _ _)) o.dst
       have e1:∀ (B:Option Blk) (X:AV),({ st with m:=st.m.set n B }:St).put o.dst X={ t:=(st.put o.dst X).t,m:=st.m.set n B }:=fun B X=>by cases o.dst <;> rfl
       rw [e1] at this
       exact this
     by_cases hc0:min xs.length len=0
     ·refine fin w ?_ ?_ (.refl _ _ _)
      ·simp only [val] at hxe hye ⊢
       rw [hxe,hye,hc0]
       exact run_copy_none (P:=P) w t t' o.type e a a' len cap xs.length cap' (z12 he) hinfo hc0
      ·rw [hc0]
       have:rows.take off++(xs.take 0++rows.drop (off + 0))=rows:=by simp
       rw [this]
       have hm:st.m.set n (some (.arr e' 1 rows))=st.m:=by
        apply List.ext_getElem?
        intro i
        rw [List.getElem?_set]
        split
        ·rename_i hi;subst hi
         have:=(List.getElem?_eq_some_iff.1 hn).1
         rw [if_pos this,hn]
        ·rfl
       rw [hm];exact h
     ·have hx0:xs≠[]:=by rintro rfl;simp at hc0
      have hlen:0<len:=by omega
      obtain⟨b,cp,hμ,ha⟩:=hpl hlen
      subst ha
      obtain⟨hxz,b2,off2,cap2,hye2,f,hf⟩:=z49 h hyv hel hhead hx0
      obtain⟨hn1,hn2⟩:=z156 (out:=out) (μ:=μ) hxz hf
      rcases h.mem.arr hn with ⟨h0,_⟩ | ⟨b3,cp3,cur,hμ3,hh,hle,hcm,hcs,hzz,hdd⟩
      ·rw [h0] at hμ;cases hμ
      rw [hμ] at hμ3;cases hμ3
      have hfl:(flat xs.length 1 f).length=xs.length:=by rw [z14];omega
      have hcl:((flat xs.length 1 f).take (min xs.length len)).length=min xs.length len:=by rw [List.length_take,hfl];omega
      have hcur:cur.size=cp:=by rw [hcs];omega
      have hr:=run_copy_row P w t t' o.type e b off len cap ⟨b2,off2,none⟩ xs.length cap2 cur e' ((flat xs.length 1 f).take (min xs.length len)) (z12 he) hinfo hh (by rw [hcl])
       (fun j v hj=>hn1 j v (by rw [List.getElem?_take] at hj;split at hj;exact hj;cases hj)) (by rw [hcl,hcur];omega) (fun v hv=>hn2 v (List.mem_of_mem_take hv))
      rw [hcl] at hr
      have hW:Wrote b w (w.setRow b (cur.toList.take off++(flat xs.length 1 f).take (min xs.length len)++cur.toList.drop (off + min xs.length len)).toArray):=z30
      have hg:=hW.goes (own:=ownOf out μ) (.inr ⟨n,_,_,_,hμ⟩)
      refine fin _ ?_ (h.write hμ hW ?_) (hW.keepO hh (h.mem.base n b _ _ _ hμ).1 (.inr ⟨n,_,_,_,hμ⟩))
      ·simp only [val] at hxe hye2 ⊢
       rw [hxe,hye2]
       exact hr
      ·have hxl:(xs.take (min xs.length len)).length=min xs.length len:=by rw [List.length_take];omega
       have hrl:(rows.take off++(xs.take (min xs.length len)++rows.drop (off + min xs.length len))).length=rows.length:=by
        rw [List.length_append,List.length_append,hxl,List.length_take,List.length_drop];omega
       have hmidv:=z188 cur.toList ((flat xs.length 1 f).take (min xs.length len)) off (by rw [hcl];simp;omega)
       have hmidr:=z188 rows (xs.take (min xs.length len)) off (by rw [hxl];omega)
       rw [hcl] at hmidv
       rw [hxl] at hmidr
       refine .inr ⟨b,cp,_,by rw [hrl];exact hμ,setRow_heap w b cur _ e' _ hh,by rw [hrl];exact hle,hcm,?_,fun r hr'=>?_,fun i r j d hi hj=>?_⟩
       ·simp only [List.size_toArray,List.length_append,List.length_take,List.length_drop,hfl,Array.length_toList,hcur]
        omega
       ·rcases List.mem_append.1 hr' with hr' | hr'
        ·exact hzz r (List.mem_of_mem_take hr')
        ·rcases List.mem_append.1 hr' with hr' | hr'
         ·exact hxz r (List.mem_of_mem_take hr')
         ·exact hzz r (List.mem_of_mem_drop hr')
       ·have hj0:j=0:=by
         have hrz:r.length=1:=by
          rw [hmidr] at hi
          split at hi
          ·exact hxz r (List.mem_of_mem_take (List.mem_of_getElem? hi))
          ·exact hzz r (List.mem_of_getElem? hi)
         have:=(List.getElem?_eq_some_iff.1 hj).1
         omega
        subst hj0
        have hv:(cur.toList.take off++(flat xs.length 1 f).take (min xs.length len)++cur.toList.drop (off + min xs.length len)).toArray[i * 1 + 0]?=if off≤i∧i<off + min xs.length len then ((flat xs.length 1 f).take (min xs.length len))[i - off]? else cur.toList[i]?:=by
         rw [List.getElem?_toArray,List.append_assoc,hmidv];simp
        rw [hmidr] at hi
        by_cases hin:off≤i∧i<off + min xs.length len
        ·rw [if_pos hin] at hi hv
         rw [List.getElem?_take,if_pos (by omega)] at hi
         rw [List.getElem?_take,if_pos (by omega)] at hv
         have hil:i - off<xs.length:=(List.getElem?_eq_some_iff.1 hi).1
         have hfg:=z87 f hil (show 0<1 by omega)
         obtain⟨p1,p2,p3⟩:=hf _ _ _ _ hi hj
         exact⟨f (i - off) 0,by rw [hv];simpa using hfg,p2,p3.goes hg⟩
        ·rw [if_neg hin] at hi hv
         obtain⟨u,p1,p2,p3⟩:=hdd i r 0 d hi hj
         exact⟨u,by rw [hv];simpa using p1,p2,p3.goes hg⟩
    ·cases hs
   ·cases hs
  ·cases hs
 ·cases hs
theorem z1155 (h:StRel P base out st μ tmps w) {t t':TypeId} {x y:Operand} (ho:o.op=.call { callee:=.builtin .copy,args:=#[x,y],argTypes:=#[t,t'] }) {e:TypeId} (he:tslice P t=some e) {n off len:Nat} (hev:st.ev x=.bsl n off len) {c n':Nat} {blk:Blk}
  (hs:opCopyB P st e n off len (st.ev y)=some (c,n',blk)):OpOK P base out μ o { t:=(st.put o.dst (.d (.int .i64 c))).t,m:=st.m.set n' (some blk) } tmps w:=by
 have hxv:=h.ev x []
 have hyv:=h.ev y []
 unfold opCopyB at hs
 split at hs
 ·rename_i s xs row hsz hel hn
  split at hs
  ·rename_i hcond
   obtain⟨rfl,hhead,hfit⟩:=hcond
   cases hs
   rw [hev] at hxv
   obtain⟨b,cap,hμ,hxe,hlc⟩:=z874 hxv
   obtain⟨b',cs,ty,hμ',hh,hcs,hdd⟩:=h.mem.box hn
   rw [hμ] at hμ';cases hμ'
   obtain⟨a',cap',hye,_,_⟩:=z229 h hyv hel
   have hinfo:(P.info? e).map (·.size)=some 1:=hsz
   have fin:∀ w',(Builtin.copy_ #[t,t'] o.type #[val tmps x,val tmps y]).run P w=.ok (goInt (min xs.length len:Nat)) w'→StRel P base out { st with m:=st.m.set n (some (.box (row.take off++((xs.take (min xs.length len)).map (fun r=>AV.d (r.getD 0 .any))++row.drop (off + min xs.length len))))) } μ tmps w' →
     KeepO base (ownOf out μ) w (ownOf out μ) w'→OpOK P base out μ o { t:=(st.put o.dst (.d (.int .i64 (min xs.length len:Nat)))).t,m:=st.m.set n (some (.box (row.take off++((xs.take (min xs.length len)).map (fun r=>AV.d (r.getD 0 .any))++row.drop (off + min xs.length len))))) } tmps w:=by
    intro w' hr hst hk
    refine⟨.value (goInt (min xs.length len:Nat)),_,w',μ,fun ds=>?_,.inl rfl,?_,hk⟩
    ·unfold execOp
     rw [z22]
     simp only [val] at hr
     simp [ho,resolve,invoke,builtin,hr]
    ·have:=hst.put (x:=.d (.int .i64 (min xs.length len:Nat))) (v:=goInt (min xs.length len:Nat)) (.d (.int _ _)) o.dst
     have e1:∀ (B:Option Blk) (X:AV),({ st with m:=st.m.set n B }:St).put o.dst X={ t:=(st.put o.dst X).t,m:=st.m.set n B }:=fun B X=>by cases o.dst <;> rfl
     rw [e1] at this
     exact this
   by_cases hc0:min xs.length len=0
   ·refine fin w ?_ ?_ (.refl _ _ _)
    ·simp only [val] at hxe hye ⊢
     rw [hxe,hye,hc0]
     exact run_copy_none (P:=P) w t t' o.type e (some ⟨b,off,none⟩) a' len cap xs.length cap' (z12 he) hinfo hc0
    ·rw [hc0]
     have:row.take off++((xs.take 0).map (fun r=>AV.d (r.getD 0 .any))++row.drop (off + 0))=row:=by simp
     rw [this,z922 hn];exact h
   ·have hx0:xs≠[]:=by rintro rfl;simp at hc0
    obtain⟨hxz,b2,off2,cap2,hye2,f,hf⟩:=z49 h hyv hel hhead hx0
    obtain⟨hn1,hn2⟩:=z156 (out:=out) (μ:=μ) hxz hf
    have hfl:(flat xs.length 1 f).length=xs.length:=by rw [z14];omega
    have hcl:((flat xs.length 1 f).take (min xs.length len)).length=min xs.length len:=by rw [List.length_take,hfl];omega
    have hr:=run_copy_row P w t t' o.type e b off len cap ⟨b2,off2,none⟩ xs.length cap2 cs ty ((flat xs.length 1 f).take (min xs.length len)) (z12 he) hinfo hh (by rw [hcl])
     (fun j v hj=>hn1 j v (by rw [List.getElem?_take] at hj;split at hj;exact hj;cases hj)) (by rw [hcl];omega) (fun v hv=>hn2 v (List.mem_of_mem_take hv))
    rw [hcl] at hr
    have hW:Wrote b w (w.setRow b (cs.toList.take off++(flat xs.length 1 f).take (min xs.length len)++cs.toList.drop (off + min xs.length len)).toArray):=z30
    have hg:=hW.goes (own:=ownOf out μ) (.inr ⟨n,_,_,_,hμ⟩)
    refine fin _ ?_ (h.write hμ hW ?_) (hW.keepO hh (h.mem.base n b _ _ _ hμ).1 (.inr ⟨n,_,_,_,hμ⟩))
    ·simp only [val] at hxe hye2 ⊢
     rw [hxe,hye2]
     exact hr
    ·have hxl:(xs.take (min xs.length len)).length=min xs.length len:=by rw [List.length_take];omega
     have hml:((xs.take (min xs.length len)).map (fun r=>AV.d (r.getD 0 .any))).length=min xs.length len:=by rw [List.length_map,hxl]
     have hmidv:=z188 cs.toList ((flat xs.length 1 f).take (min xs.length len)) off (by rw [hcl];simp;omega)
     have hmidr:=z188 row ((xs.take (min xs.length len)).map (fun r=>AV.d (r.getD 0 .any))) off (by rw [hml];omega)
     rw [hcl] at hmidv
     rw [hml] at hmidr
     refine⟨b,_,ty,hμ,setRow_heap w b cs _ ty _ hh,?_,fun j x v hx hv=>?_⟩
     ·rw [List.length_append,List.length_append,hml,List.length_take,List.length_drop]
      simp only [List.size_toArray,List.length_append,List.length_take,List.length_drop,hfl,Array.length_toList]
      omega
     ·have hv':(cs.toList.take off++(flat xs.length 1 f).take (min xs.length len)++cs.toList.drop (off + min xs.length len)).toArray[j]?=if off≤j∧j<off + min xs.length len then ((flat xs.length 1 f).take (min xs.length len))[j - off]? else cs.toList[j]?:=by
       rw [List.getElem?_toArray,List.append_assoc,hmidv]
      rw [hv'] at hv
      rw [hmidr] at hx
      by_cases hin:off≤j∧j<off + min xs.length len
      ·rw [if_pos hin] at hx hv
       simp only [List.getElem?_map,Option.map_eq_some_iff] at hx
       obtain⟨r,hx,rfl⟩:=hx
       rw [List.getElem?_take,if_pos (by omega)] at hx
       rw [List.getElem?_take,if_pos (by omega)] at hv
       have hfg:=z87 f (m:=xs.length) (i:=j - off) (by omega) (show 0<1 by omega)
       rw [show (j - off) * 1 + 0=j - off by omega] at hfg
       rw [hfg] at hv
       cases hv
       have hr1:=hxz r (List.mem_of_getElem? hx)
       obtain⟨d,rfl⟩:∃ d,r=[d]:=by
        match r,hr1 with
        | [d],_=>exact⟨d,rfl⟩
       obtain⟨p1,p2,p3⟩:=hf (j - off) [d] 0 d hx rfl
       exact⟨p2,.d (p3.goes hg)⟩
      ·rw [if_neg hin] at hx hv
       obtain⟨p1,p2⟩:=hdd j x v hx (by simpa using hv)
       exact⟨p1,p2.goes hg (fun _ _ _=>rfl)⟩
  ·cases hs
 ·cases hs
theorem z1213 (h:StRel P base out st μ tmps w) {t t':TypeId} {x y:Operand} (ho:o.op=.call { callee:=.builtin .copy,args:=#[x,y],argTypes:=#[t,t'] }) {c n:Nat} {blk:Blk} (hs:opCopy P st t (st.ev x) (st.ev y)=some (c,n,blk)) :
  OpOK P base out μ o { t:=(st.put o.dst (.d (.int .i64 c))).t,m:=st.m.set n (some blk) } tmps w:=by
 unfold opCopy at hs
 split at hs
 ·rename_i n' off len hev
  split at hs
  ·rename_i e he
   exact z1155 h ho he hev hs
  ·cases hs
 ·exact z1156 h ho hs
theorem z1157 (h:StRel P base out st μ tmps w) (hdst:o.dst=none) {t:TypeId} {x:Operand} (ho:o.op=.call { callee:=.builtin .clear,args:=#[x],argTypes:=#[t] }) {n:Nat} {blk:Blk} (hs:opClear P st t (st.ev x)=some (n,blk)) :
  OpOK P base out μ o { t:=st.t,m:=st.m.set n (some blk) } tmps w:=by
 have hxv:=h.ev x []
 unfold opClear at hs
 split at hs
 ·rename_i e n' off len he hev
  rw [hev] at hxv
  obtain⟨a,cap,hv,_,_,_,hp⟩:=z151 hxv
  split at hs
  ·rename_i zr e' z rows hzr hn
   split at hs
   ·rename_i hcond
    obtain⟨hzl,hfit⟩:=hcond
    cases hs
    have fin:∀ w',(Builtin.clear_ #[t] o.type #[val tmps x]).run P w=.ok (.tuple #[]) w'→StRel P base out { st with m:=st.m.set n (some (.arr e' z (rows.take off++(List.replicate len zr++rows.drop (off + len))))) } μ tmps w' →
      KeepO base (ownOf out μ) w (ownOf out μ) w'→OpOK P base out μ o { t:=st.t,m:=st.m.set n (some (.arr e' z (rows.take off++(List.replicate len zr++rows.drop (off + len))))) } tmps w:=by
     intro w' hr hst hk
     refine⟨.value (.tuple #[]),_,w',μ,fun ds=>?_,.inl rfl,?_,hk⟩
     ·unfold execOp
      rw [z22]
      simp only [val] at hr
      simp [ho,resolve,invoke,builtin,hr]
     ·rw [hdst];exact hst
    by_cases hl0:len=0
    ·subst hl0
     refine fin w ?_ ?_ (.refl _ _ _)
     ·simp only [val] at hv ⊢
      rw [hv]
      cases a <;> simp [Builtin.clear_,run_underlying (z12 he)]
     ·have:rows.take off++(List.replicate 0 zr++rows.drop (off + 0))=rows:=by simp
      rw [this,z922 hn]
      exact h
    ·obtain⟨k,rfl⟩:∃ k,len=k + 1:=⟨len - 1,by omega⟩
     obtain⟨b,z2,l,c,hμ,rfl,_,_⟩:=hp (by omega)
     rcases h.mem.arr hn with ⟨h0,_⟩ | ⟨b3,cp3,cur,hμ3,hh,hle,hcm,hcs,hzz,hdd⟩
     ·rw [h0] at hμ;cases hμ
     rw [hμ] at hμ3;cases hμ3
     unfold zrowP at hzr
     split at hzr
     ·rename_i zv hzv
      split at hzr
      ·rename_i cs hcsz
       obtain⟨c1,c2,c3⟩:=z23 (z61 w (ownOf out μ) μ zv) hcsz
       obtain⟨a1,a2⟩:=z15 hzr
       have hzs:zv.cells.size=zr.length:=by rw [c1,← a1];simp
       rw [hzl] at hzs
       have hone:∀ (j:Nat) (hj:j<zv.cells.size),zv.cells[j].oneCell'=true∧∀ d,zr[j]?=some d→DRel w (ownOf out μ) d zv.cells[j]:=fun j hj=>by
        have hjc:j<cs.length:=by omega
        have hu:=c2 j cs[j] zv.cells[j] (List.getElem?_eq_getElem hjc) (by simp [hj])
        refine⟨hu.oneCell (c3 _ (List.getElem_mem hjc)),fun d hd=>?_⟩
        have h4:=a2 j d hd
        simp only [List.getElem?_map,Option.map_eq_some_iff] at h4
        obtain⟨q,hq,hrq⟩:=h4
        rw [List.getElem?_eq_getElem hjc] at hq
        cases hq
        exact z90 deep _ _ _ hu hrq
       obtain⟨Z,hZ⟩:∃ Z,Z=(Builtin.zeroCells zv.cells (k + 1)).toList:=⟨_,rfl⟩
       have hZl:Z.length=(k + 1) * z:=by rw [hZ];simp [size_zeroCells,hzs]
       have hZg:∀ p,p<(k + 1) * z→∃ hj:p % z<zv.cells.size,Z[p]?=some zv.cells[p % z]:=fun p hp=>by
        have hz0:0<z:=Nat.pos_of_ne_zero fun hc=>by rw [hc] at hp;simp at hp
        have hj:p % z<zv.cells.size:=by rw [hzs];exact Nat.mod_lt _ hz0
        refine⟨hj,?_⟩
        have hbang:zv.cells[p % z]! = zv.cells[p % z]:=getElem!_pos zv.cells _ hj
        rw [hZ]
        simp [Builtin.zeroCells,hzs,hp,hbang]
       have hZone:∀ v ∈ Z,v.oneCell'=true:=fun v hv=>by
        obtain⟨p,hp⟩:=List.getElem?_of_mem hv
        have hpl:p<(k + 1) * z:=by rw [← hZl];exact (List.getElem?_eq_some_iff.1 hp).1
        obtain⟨hj,hg⟩:=hZg p hpl
        rw [hg] at hp
        cases hp
        exact (hone _ hj).1
       have hfz:(off + (k + 1)) * z≤c * z:=Nat.mul_le_mul_right z (by omega)
       rw [Nat.add_mul] at hfz
       have hst:=run_storeCells_at P b (off * z) e' Z 0 cur w hh (by rw [hZl,hcs];omega) hZone
       simp only [Nat.add_zero] at hst
       have hr:(Builtin.clear_ #[t] o.type #[.slice (some ⟨b,off * z,none⟩) (k + 1) cap]).run P w=.ok (.tuple #[]) (w.setRow b (cur.toList.take (off * z)++Z++cur.toList.drop (off * z + Z.length)).toArray):=by
        rw [hZ] at hst ⊢
        simp [Builtin.clear_,run_underlying (z12 he),z184 hzv,hst]
       have hW:Wrote b w (w.setRow b (cur.toList.take (off * z)++Z++cur.toList.drop (off * z + Z.length)).toArray):=z30
       have hg:=hW.goes (own:=ownOf out μ) (.inr ⟨n,_,_,_,hμ⟩)
       refine fin _ ?_ (h.write hμ hW ?_) (hW.keepO hh (h.mem.base n b _ _ _ hμ).1 (.inr ⟨n,_,_,_,hμ⟩))
       ·simp only [val] at hv ⊢
        rw [hv]
        exact hr
       ·have hrl:(rows.take off++(List.replicate (k + 1) zr++rows.drop (off + (k + 1)))).length=rows.length:=by
         simp only [List.length_append,List.length_take,List.length_replicate,List.length_drop];omega
        have hmidv:=z188 cur.toList Z (off * z) (by rw [hZl];simp [hcs];omega)
        have hmidr:=z188 rows (List.replicate (k + 1) zr) off (by rw [List.length_replicate];exact hfit)
        rw [List.length_replicate] at hmidr
        rw [hZl] at hmidv
        refine .inr ⟨b,c,_,by rw [hrl];exact hμ,setRow_heap w b cur _ e' _ hh,by rw [hrl];exact hle,hcm,?_,fun r hr'=>?_,fun i r j d hi hj=>?_⟩
        ·simp only [List.size_toArray,List.length_append,List.length_take,List.length_drop,hZl,Array.length_toList,hcs]
         omega
        ·rcases List.mem_append.1 hr' with hr' | hr'
         ·exact hzz r (List.mem_of_mem_take hr')
         ·rcases List.mem_append.1 hr' with hr' | hr'
          ·rw [List.eq_of_mem_replicate hr'];exact hzl
          ·exact hzz r (List.mem_of_mem_drop hr')
        ·have hjz:j<z:=by
          have hrz:r.length=z:=by
           rw [hmidr] at hi
           split at hi
           ·rw [List.eq_of_mem_replicate (List.mem_of_getElem? hi)];exact hzl
           ·exact hzz r (List.mem_of_getElem? hi)
          rw [← hrz]
          exact (List.getElem?_eq_some_iff.1 hj).1
         have hv2:(cur.toList.take (off * z)++Z++cur.toList.drop (off * z + Z.length)).toArray[i * z + j]?=if off * z≤i * z + j∧i * z + j<off * z + (k + 1) * z then Z[i * z + j - off * z]? else cur.toList[i * z + j]?:=by
          rw [List.getElem?_toArray,List.append_assoc,hZl,hmidv]
         rw [hmidr] at hi
         by_cases hin:off≤i∧i<off + (k + 1)
         ·rw [if_pos hin] at hi
          have e1:off * z≤i * z:=Nat.mul_le_mul_right z hin.1
          have e2:(i + 1) * z≤(off + (k + 1)) * z:=Nat.mul_le_mul_right z hin.2
          rw [Nat.add_mul,Nat.add_mul off] at e2
          rw [if_pos (by omega)] at hv2
          have hp:i * z + j - off * z=(i - off) * z + j:=by rw [Nat.sub_mul];omega
          have hmod:(i * z + j - off * z) % z=j:=by rw [hp,Nat.mul_comm,Nat.mul_add_mod,Nat.mod_eq_of_lt hjz]
          obtain⟨hj2,hg2⟩:=hZg (i * z + j - off * z) (by omega)
          rw [hg2] at hv2
          rw [List.getElem?_replicate] at hi
          split at hi
          ·cases hi
           have hd2:=(hone _ hj2).2 d (by rw [hmod];exact hj)
           exact⟨_,hv2,(hone _ hj2).1,hd2.goes hg⟩
          ·cases hi
         ·rw [if_neg hin] at hi
          have hne:¬ (off * z≤i * z + j∧i * z + j<off * z + (k + 1) * z):=by
           rintro⟨q1,q2⟩
           refine hin ⟨?_,?_⟩
           ·refine Classical.byContradiction fun hc=>?_
            have:(i + 1) * z≤off * z:=Nat.mul_le_mul_right z (by omega)
            rw [Nat.add_mul] at this
            omega
           ·refine Classical.byContradiction fun hc=>?_
            have:(off + (k + 1)) * z≤i * z:=Nat.mul_le_mul_right z (by omega)
            rw [Nat.add_mul] at this
            omega
          rw [if_neg hne] at hv2
          obtain⟨u,p1,p2,p3⟩:=hdd i r j d hi hj
          exact⟨u,by rw [hv2];simpa using p1,p2,p3.goes hg⟩
      ·cases hzr
     ·cases hzr
   ·cases hs
  ·cases hs
 ·cases hs
theorem z275 (h:StRel P base out st μ tmps w) (hdst:dstOk o=true) (hs:stepOp P o st=some st'):OpOK P base out μ o st' tmps w:=by
 have hs0:=hs
 unfold stepOp at hs
 split at hs
 ·rename_i ho;rw [ho] at hs;exact z1159 h ho hs
 ·rename_i ho;rw [ho] at hs;exact z1258 h ho hs
 ·rename_i ho;rw [ho] at hs;exact z688 h ho hs
 ·rename_i ho;exact z991 h ho hs0
 ·rename_i ho;exact z542 h ho hs0
 ·rename_i ho
  have:o.dst=none:=by unfold dstOk at hdst;rw [ho] at hdst;simpa using hdst
  exact z1152 h this ho hs
 ·rename_i ho
  split at hs
  ·rename_i t t' s x hts hargs
   obtain⟨a,b,rfl,rfl,rfl⟩:=z1076 hargs
   have hts':=z76 hts
   subst hts'
   exact z1068 h ho hs
  ·cases hs
 ·rename_i ho
  split at hs
  ·rename_i t t' x y hts hargs
   obtain⟨a,b,rfl,rfl,rfl⟩:=z1076 hargs
   have hts':=z76 hts
   subst hts'
   split at hs
   ·rename_i hc
    cases hs
    exact z1213 h ho hc
   ·cases hs
  ·cases hs
 ·rename_i ho
  split at hs
  ·rename_i t x hdn hts hargs
   obtain⟨a,rfl,rfl⟩:=z1077 hargs
   have hts':=z236 hts
   subst hts'
   split at hs
   ·rename_i hc
    cases hs
    exact z1157 h hdn ho hc
   ·cases hs
  ·cases hs
 ·rename_i ho
  split at hs
  ·rename_i hc
   cases hs
   exact z869 h ho hc
  ·cases hs
 ·rename_i ho
  have:o.dst=none:=by unfold dstOk at hdst;rw [ho] at hdst;simpa using hdst
  split at hs
  ·rename_i hc
   cases hs
   obtain⟨μ1,h1,_,_,ho1,_⟩:=z40 (st.ev _).refs st μ h
   obtain⟨nx,v,w',μ',q1,q2,q3,q4⟩:=z687 h1 this ho hc
   exact⟨nx,v,w',μ',q1,q2,q3,(KeepO.less ho1).trans q4⟩
  ·cases hs
 ·rename_i ho
  have:o.dst=none:=by unfold dstOk at hdst;rw [ho] at hdst;simpa using hdst
  split at hs
  ·rename_i hc
   cases hs
   exact z541 h this ho hc
  ·cases hs
 ·obtain⟨r,hr,rfl⟩:=z1060 hs
  exact z758 h hr
end
def Enters (P:Program) (f:FuncId):Prop:=∀ args w,(callFunc f args).run P w=.ok (.enter f args) w
def DRels (w:World) (own:Own) (args:List DV) (vs:Array Value):Prop:=args.length=vs.size∧∀ (i:Nat) d v,args[i]?=some d→vs[i]?=some v→DRel w own d v
def Fn (P:Program) (f:FuncId) (args:List DV) (r:DV):Prop:=Enters P f ∧
 ∀ (w:World) (own:Own) (vs:Array Value),(∀ b,own b→b<w.heap.size)→Hid P w own→DRels w own args vs →
  Calls P f vs w fun e w'=>∃ v,e=.returned v∧DRel w' own r v∧Below w.heap.size w w'
def FnS (P:Program) (f:FuncId) (args:List DV) (e z:Nat) (rows:List (List DV)):Prop:=Enters P f ∧
 ∀ (w:World) (own:Own) (vs:Array Value),(∀ b,own b→b<w.heap.size)→Hid P w own→DRels w own args vs →
  Calls P f vs w fun en w'=>∃ v μ,en=.returned v∧AVRel w' (ownOf own μ) μ (.own 0) v∧MemRel (ltU w.heap.size) own w' μ [some (.arr e z rows)]∧Below w.heap.size w w'
def AV.mapN (h:Nat→Option Nat):AV→AV
 | .box n o=>match h n with | some k=>.box k o | none=>.undef
 | .elem n i o=>match h n with | some k=>.elem k i o | none=>.undef
 | .own n=>match h n with | some k=>.own k | none=>.undef
 | .view n o l=>match h n with | some k=>.view k o l | none=>.undef
 | .bsl n o l=>match h n with | some k=>.bsl k o l | none=>.undef
 | .mp n=>match h n with | some k=>.mp k | none=>.undef
 | .vh n l=>match h n with | some k=>.vh k l | none=>.undef
 | .vc n l=>match h n with | some k=>.vc k l | none=>.undef
 | .agg cs=>.agg (AV.mapNs h cs)
 | .tup cs=>.tup (AV.mapNs h cs)
 | .fn f cs=>.fn f (AV.mapNs h cs)
 | x=>x
where AV.mapNs (h:Nat→Option Nat):List AV→List AV
 | []=>[]
 | x::xs=>x.mapN h::AV.mapNs h xs
theorem AV.mapNs_eq (h:Nat→Option Nat) (l:List AV):AV.mapN.AV.mapNs h l=l.map (AV.mapN h):=by
 induction l with
 | nil=>rfl
 | cons x xs ih=>simp [AV.mapN.AV.mapNs,ih]
def AV.flatA:AV→Bool
 | .d x=>x.flat
 | .dfull _=>false
 | .agg cs=>AV.flatAs cs
 | .tup cs=>AV.flatAs cs
 | .fn _ cs=>AV.flatAs cs
 | _=>true
where AV.flatAs:List AV→Bool
 | []=>true
 | x::xs=>x.flatA && AV.flatAs xs
theorem AV.flatAs_get {l:List AV} (h:AV.flatA.AV.flatAs l=true) (i:Nat) (d:AV) (hi:l[i]?=some d):d.flatA=true:=by
 induction l generalizing i with
 | nil=>simp at hi
 | cons x xs ih =>
  simp only [AV.flatA.AV.flatAs,Bool.and_eq_true] at h
  cases i with
  | zero=>simp at hi;exact hi ▸ h.1
  | succ i=>simp at hi;exact ih h.2 i hi
theorem AVRel.mapN {w w':World} {own own':Own} {μ μ':Pl} {h:Nat→Option Nat} {x:AV} {v:Value} (hg:Goes w own w' own'∨x.flatA=true) (hx:AVRel w own μ x v)
  (hμ:∀ n ∈ x.refs,(μ n).isSome→∀ k,h n=some k→μ' k=μ n):AVRel w' own' μ' (x.mapN h) v:=by
 induction hx with
 | undef v=>exact .undef v
 | void=>exact .void
 | d hd=>rcases hg with hg | hg;exact .d (hd.goes hg);exact .d (hd.of_flat hg)
 | nil=>exact .nil
 | @box n _ _ _ _ off hp =>
  simp only [AV.mapN]
  split
  ·rename_i k hk;exact .box off (by rw [hμ n (by simp [AV.refs]) (by simp [hp]) k hk];exact hp)
  ·exact .undef _
 | @elem n _ _ _ _ i off hp =>
  simp only [AV.mapN]
  split
  ·rename_i k hk;exact .elem i off (by rw [hμ n (by simp [AV.refs]) (by simp [hp]) k hk];exact hp)
  ·exact .undef _
 | @ownNil n hp =>
  simp only [AV.mapN]
  split
  ·rename_i k hk;exact .ownNil (by rw [hμ n (by simp [AV.refs]) (by simp [hp]) k hk];exact hp)
  ·exact .undef _
 | @own n _ _ _ _ hp =>
  simp only [AV.mapN]
  split
  ·rename_i k hk;exact .own (by rw [hμ n (by simp [AV.refs]) (by simp [hp]) k hk];exact hp)
  ·exact .undef _
 | view n off len cap a hs hle hn hp =>
  simp only [AV.mapN]
  split
  ·rename_i k hk
   have e:=hμ n (by simp [AV.refs]) hs k hk
   exact .view k off len cap a (by rw [e];exact hs) hle hn (by rw [e];exact hp)
  ·exact .undef _
 | @bsl n _ off len cap hp hle =>
  simp only [AV.mapN]
  split
  ·rename_i k hk;exact .bsl off len cap (by rw [hμ n (by simp [AV.refs]) (by simp [hp]) k hk];exact hp) hle
  ·exact .undef _
 | @mp n _ hp =>
  simp only [AV.mapN]
  split
  ·rename_i k hk;exact .mp (by rw [hμ n (by simp [AV.refs]) (by simp [hp]) k hk];exact hp)
  ·exact .undef _
 | @vh n _ _ _ len hp hle =>
  simp only [AV.mapN]
  split
  ·rename_i k hk;exact .vh len (by rw [hμ n (by simp [AV.refs]) (by simp [hp]) k hk];exact hp) hle
  ·exact .undef _
 | @vc n _ _ _ len hp hlt =>
  simp only [AV.mapN]
  split
  ·rename_i k hk;exact .vc len (by rw [hμ n (by simp [AV.refs]) (by simp [hp]) k hk];exact hp) hlt
  ·exact .undef _
 | dfull hd =>
  rcases hg with hg | hg
  ·exact .dfull (hd.goes hg)
  ·simp [AV.flatA] at hg
 | agg cells vs hl hd ih =>
  simp only [AV.mapN,AV.mapNs_eq]
  refine .agg _ vs (by simpa using hl) (fun i x v h1 h2=>?_)
  simp only [List.getElem?_map,Option.map_eq_some_iff] at h1
  obtain⟨y,h1,rfl⟩:=h1
  exact ih i y v h1 h2 (hg.imp id fun hf=>AV.flatAs_get (by simpa [AV.flatA] using hf) i y h1) (fun n hn=>hμ n (by simpa [AV.refs] using AV.refss_get h1 hn))
 | tup cells vs hl hd ih =>
  simp only [AV.mapN,AV.mapNs_eq]
  refine .tup _ vs (by simpa using hl) (fun i x v h1 h2=>?_)
  simp only [List.getElem?_map,Option.map_eq_some_iff] at h1
  obtain⟨y,h1,rfl⟩:=h1
  exact ih i y v h1 h2 (hg.imp id fun hf=>AV.flatAs_get (by simpa [AV.flatA] using hf) i y h1) (fun n hn=>hμ n (by simpa [AV.refs] using AV.refss_get h1 hn))
 | fn f cells vs hl hd ih =>
  simp only [AV.mapN,AV.mapNs_eq]
  refine .fn f _ vs (by simpa using hl) (fun i x v h1 h2=>?_)
  simp only [List.getElem?_map,Option.map_eq_some_iff] at h1
  obtain⟨y,h1,rfl⟩:=h1
  exact ih i y v h1 h2 (hg.imp id fun hf=>AV.flatAs_get (by simpa [AV.flatA] using hf) i y h1) (fun n hn=>hμ n (by simpa [AV.refs] using AV.refss_get h1 hn))
def Blk.mapN (h:Nat→Option Nat):Blk→Blk
 | .box row=>.box (row.map (AV.mapN h))
 | .arrA e z rows=>.arrA e z (rows.map fun r=>r.map (AV.mapN h))
 | b=>b
def Blk.flatB:Blk→Bool
 | .box row=>row.all AV.flatA
 | .arr _ _ rows=>rows.all fun r=>r.all DV.flat
 | .arrP _ _ rows=>rows.all fun r=>r.all DV.flat
 | .arrA _ _ rows=>rows.all fun r=>r.all AV.flatA
 | .mp _ es _=>es.all fun e=>e.2.1.flat
theorem BlkRel.mapN {w w':World} {own own':Own} {μ μ':Pl} {h:Nat→Option Nat} {n n':Nat} {b:Blk} (hg:Goes w own w' own'∨b.flatB=true) (hn:μ' n'=μ n)
  (hμ:∀ k,(μ k).isSome→∀ j,h k=some j→μ' j=μ k) (hh:∀ b z l c,μ n=some (.at b z l c)→w'.heap[b]?=w.heap[b]?) (hb:BlkRel w own μ n b):BlkRel w' own' μ' n' (b.mapN h):=by
 cases b with
 | box row =>
  obtain⟨b,cs,ty,h1,h2,h3,h4⟩:=hb
  refine⟨b,cs,ty,by rw [hn];exact h1,by rw [hh b _ _ _ h1];exact h2,by simpa using h3,fun j x v hx hv=>?_⟩
  simp only [List.getElem?_map,Option.map_eq_some_iff] at hx
  obtain⟨y,hx,rfl⟩:=hx
  exact⟨(h4 j y v hx hv).1,(h4 j y v hx hv).2.mapN (hg.imp id fun hf=>by simp only [Blk.flatB,List.all_eq_true] at hf;exact hf y (List.mem_of_getElem? hx)) (fun n _ hs k hk=>hμ n hs k hk)⟩
 | arr e z rows =>
  rcases hb with ⟨h1,h2⟩ | ⟨b,cap,cs,h1,h2,h3,h4,h5,h6,h7⟩
  ·exact .inl ⟨by rw [hn];exact h1,h2⟩
  ·refine .inr ⟨b,cap,cs,by rw [hn];exact h1,by rw [hh b _ _ _ h1];exact h2,h3,h4,h5,h6,fun i r j d hi hj=>?_⟩
   obtain⟨v,p,q,q'⟩:=h7 i r j d hi hj
   refine⟨v,p,q,?_⟩
   rcases hg with hg | hg
   ·exact q'.goes hg
   ·simp only [Blk.flatB,List.all_eq_true] at hg
    exact q'.of_flat (hg r (List.mem_of_getElem? hi) d (List.mem_of_getElem? hj))
 | arrP e z rows =>
  obtain⟨b,cap,cs,h1,h2,h3,h4,h5,h6,h7⟩:=hb
  refine⟨b,cap,cs,by rw [hn];exact h1,by rw [hh b _ _ _ h1];exact h2,h3,h4,h5,h6,fun i r j d hi hj=>?_⟩
  obtain⟨v,p,q,q'⟩:=h7 i r j d hi hj
  refine⟨v,p,q,?_⟩
  rcases hg with hg | hg
  ·exact q'.goes hg
  ·simp only [Blk.flatB,List.all_eq_true] at hg
   exact q'.of_flat (hg r (List.mem_of_getElem? hi) d (List.mem_of_getElem? hj))
 | arrA e z rows =>
  rcases hb with ⟨h1,h2⟩ | ⟨b,cap,cs,h1,h2,h3,h4,h5,h6,h7⟩
  ·exact .inl ⟨by rw [hn];exact h1,by rw [h2];rfl⟩
  ·refine .inr ⟨b,cap,cs,by rw [hn,List.length_map];exact h1,by rw [hh b _ _ _ h1];exact h2,by rw [List.length_map];exact h3,h4,h5,fun r hr=>?_,fun i r j d hi hj=>?_⟩
   ·obtain⟨r0,hr0,rfl⟩:=List.mem_map.1 hr
    rw [List.length_map]
    exact h6 r0 hr0
   ·simp only [List.getElem?_map,Option.map_eq_some_iff] at hi
    obtain⟨r0,hr0,rfl⟩:=hi
    simp only [List.getElem?_map,Option.map_eq_some_iff] at hj
    obtain⟨x0,hx0,rfl⟩:=hj
    obtain⟨v,p,q,q'⟩:=h7 i r0 j x0 hr0 hx0
    exact⟨v,p,q,q'.mapN (hg.imp id fun hf=>by simp only [Blk.flatB,List.all_eq_true] at hf;exact hf r0 (List.mem_of_getElem? hr0) x0 (List.mem_of_getElem? hx0)) (fun n _ hs k hk=>hμ n hs k hk)⟩
 | mp kk es clock =>
  obtain⟨b,mes,h1,h2,h3,h4⟩:=hb
  refine⟨b,mes,by rw [hn];exact h1,by rw [hh b _ _ _ h1];exact h2,h3,fun i e m hi hm=>?_⟩
  obtain⟨p,q,q'⟩:=h4 i e m hi hm
  refine⟨p,q,?_⟩
  rcases hg with hg | hg
  ·exact q'.goes hg
  ·simp only [Blk.flatB,List.all_eq_true] at hg
   exact q'.of_flat (hg e (List.mem_of_getElem? hi))
def inv:List Nat→Nat→Option Nat
 | [],_=>none
 | a::l,n=>if n=a then some 0 else (inv l n).map (· + 1)
theorem z71:∀ {l:List Nat} {n i:Nat},inv l n=some i→l[i]?=some n
 | [],_,_,h=>by simp [inv] at h
 | a::l,n,i,h=>by
  unfold inv at h
  split at h
  ·rename_i e;cases h;simp [e]
  ·rw [Option.map_eq_some_iff] at h
   obtain⟨k,hk,rfl⟩:=h
   simpa using z71 hk
theorem z224:∀ {l:List Nat} {n:Nat},inv l n=none→n ∉ l
 | [],_,_=>by simp
 | a::l,n,h=>by
  unfold inv at h
  split at h
  ·cases h
  ·rename_i e
   rw [Option.map_eq_none_iff] at h
   simp [e,z224 h]
theorem z1229 {l:List Nat} {n:Nat} (h:n ∈ l):∃ i,inv l n=some i:=by
 cases hi:inv l n with
 | none=>exact absurd h (z224 hi)
 | some i=>exact⟨i,rfl⟩
theorem z132 {l:List Nat} (h:l.Nodup) {i j n:Nat} (hi:l[i]?=some n) (hj:l[j]?=some n):i=j:=by
 obtain⟨h1,h2⟩:=List.getElem?_eq_some_iff.1 hi
 obtain⟨h3,h4⟩:=List.getElem?_eq_some_iff.1 hj
 exact (List.getElem_inj h).1 (h2.trans h4.symm)
theorem z1230 {l:List Nat} (h:l.Nodup) {i n:Nat} (hi:l[i]?=some n):inv l n=some i:=by
 obtain⟨j,hj⟩:=z1229 (List.mem_of_getElem? hi)
 rw [hj,z132 h (z71 hj) hi]
def kp (bads:List Nat) (n:Nat):Option Nat:=if bads.contains n then none else some n
def St.keep (bads:List Nat) (st:St):St:=match bads with
 | []=>st
 | _=>{ t:=st.t.map (AV.mapN (kp bads)),m:=st.m.map (Option.map (Blk.mapN (kp bads))) }
def putM:List Nat→List Blk→List (Option Blk)→List (Option Blk)
 | n::ns,b::bs,m=>putM ns bs (m.set n (some b))
 | _,_,m=>m
theorem z186:∀ (ns:List Nat) (bs:List Blk) (m:List (Option Blk)) (k:Nat),k ∉ ns→(putM ns bs m)[k]?=m[k]?
 | [],_,_,_,_=>rfl
 | _::_,[],_,_,_=>rfl
 | n::ns,b::bs,m,k,h=>by
  simp only [List.mem_cons,not_or] at h
  rw [putM,z186 ns bs _ k h.2,List.getElem?_set_ne (Ne.symm h.1)]
theorem z865:∀ (ns:List Nat) (bs:List Blk) (m:List (Option Blk)) (i k:Nat) (b:Blk),ns.Nodup→ns[i]?=some k→bs[i]?=some b→k<m.length→(putM ns bs m)[k]?=some (some b)
 | [],_,_,i,_,_,_,h,_,_=>by simp at h
 | _::_,[],_,i,_,_,_,_,h,_=>by simp at h
 | n::ns,b'::bs,m,i,k,b,hd,h1,h2,h3=>by
  rw [List.nodup_cons] at hd
  cases i with
  | zero =>
   simp only [List.getElem?_cons_zero,Option.some.injEq] at h1 h2
   subst h1;subst h2
   rw [putM,z186 ns bs _ _ hd.1,List.getElem?_set_self h3]
  | succ i =>
   simp only [List.getElem?_cons_succ] at h1 h2
   rw [putM]
   exact z865 ns bs _ i k b hd.2 h1 h2 (by simpa using h3)
structure FnG (P:Program) (f:FuncId) (m0:List Blk) (pins:List Nat) (args:List AV) (r:AV) (m1:List Blk):Prop where
 enters:Enters P f
 calls:∀ (base:Own) (w:World) (own:Own) (μ0:Pl) (vs:Array Value),(∀ b,own b→base b)→(∀ b,base b→b<w.heap.size)→MemRel base own w μ0 (m0.map some)→Hid P w (ownOf own μ0)→args.length=vs.size →
  (∀ (i:Nat) x v,args[i]?=some x→vs[i]?=some v→AVRel w (ownOf own μ0) μ0 x v) →
  Calls P f vs w fun en w'=>∃ v μ1,en=.returned v∧AVRel w' (ownOf own μ1) μ1 r v∧MemRel base own w' μ1 (m1.map some)∧KeepO base (ownOf own μ0) w (ownOf own μ1) w'∧∀ i ∈ pins,μ1 i=μ0 i
def argG (st:St) (ns rd:List Nat) (x y:AV):Prop :=
 (∃ d,y=.d d∧reify st.m deep x=some d∧∀ n ∈ x.refs,n ∈ rd)∨y=x.mapN (inv ns)
def shutG (st:St) (rd:List Nat):Prop:=∀ n ∈ rd,∀ row,st.m[n]?=some (some (.box row))→∀ k ∈ AV.refs.AV.refss row,k ∈ rd
def calleeOf (st:St) (f:Operand) (args:List Operand):Option (FuncId × List AV):=match st.ev f with
 | .d (.fn g caps)=>some (g,args.map st.ev++caps.map .d)
 | .fn g caps=>some (g,args.map st.ev++caps)
 | .d (.bnd g first)=>some (g,first.map .d++args.map st.ev)
 | _=>none
def reifyAll (st:St) (xs:List AV):Option (List DV):=allSome (xs.map (reify st.m deep))
def rowsFlat (rows:List (List DV)):Prop:=∀ r ∈ rows,∀ d ∈ r,d.flat=true
def keepsOk:List DV→List AV→Prop
 | [],[]=>True
 | d::ds,y::ys=>(y=.undef∨(y=.d d∧d.flat=true))∧keepsOk ds ys
 | _,_=>False
theorem z341:∀ {ds:List DV} {ys:List AV},keepsOk ds ys→ds.length=ys.length∧∀ (i:Nat) d y,ds[i]?=some d→ys[i]?=some y→y=.undef∨(y=.d d∧d.flat=true)
 | [],[],_=>⟨rfl,fun i d y h=>by simp at h⟩
 | [],_::_,h=>h.elim
 | _::_,[],h=>h.elim
 | d::ds,y::ys,h=>by
  obtain⟨h1,h2⟩:=z341 h.2
  refine⟨by simp [h1],fun i d' y' a b=>?_⟩
  cases i with
  | zero=>simp at a b;subst a;subst b;exact h.1
  | succ i=>exact h2 i d' y' (by simpa using a) (by simpa using b)
def veil1:AV→Option DV
 | .d x=>some x
 | .mp _ | .box _ _ | .own _=>some .any
 | _=>none
def veil:AV→Option DV
 | .agg cs=>(allSome (cs.map veil1)).map .agg
 | x=>veil1 x
theorem z580 {w:World} {own:Own} {μ:Pl} {x:AV} {v:Value} {d:DV} (h:AVRel w own μ x v) (hv:veil1 x=some d):DRel w own d v:=by
 cases h with
 | d h=>cases hv;exact h
 | mp h=>cases hv;exact .any _ rfl
 | box off h=>cases hv;exact .any _ rfl
 | ownNil h=>cases hv;exact .any _ rfl
 | own h=>cases hv;exact .any _ rfl
 | _=>cases hv
theorem z1124 {w:World} {own:Own} {μ:Pl} {x:AV} {v:Value} {d:DV} (h:AVRel w own μ x v) (hv:veil x=some d):DRel w own d v:=by
 unfold veil at hv
 split at hv
 ·rename_i cs
  simp only [Option.map_eq_some_iff] at hv
  obtain⟨ds,hds,rfl⟩:=hv
  obtain⟨a1,a2⟩:=z15 hds
  cases h with
  | agg _ vs hl hd =>
   refine .agg ds vs (by rw [← a1];simpa using hl) (fun i d u h1 h2=>?_)
   have h3:=a2 i d h1
   simp only [List.getElem?_map,Option.map_eq_some_iff] at h3
   obtain⟨c,hc,h4⟩:=h3
   exact z580 (hd i c u hc h2) h4
 ·exact z580 h hv
inductive CallR (P:Program) (st:St) (dst:Option Tmp) (g:FuncId) (xs:List AV):St→Prop where
 | lent (ds:List DV) (r:DV) (hd:reifyAll st xs=some ds) (hf:Fn P g ds r) (hr:r.flat=true):CallR P st dst g xs (st.put dst (.d r))
 | lentF (ds rs:List DV) (ys:List AV) (hd:reifyAll st xs=some ds) (hf:Fn P g ds (.tup rs)) (hk:keepsOk rs ys):CallR P st dst g xs (st.put dst (.tup ys))
 | given (ds:List DV) (r:DV) (hd:reifyAll st xs=some ds) (hf:Fn P g ds r) (ha:st.arrs (AV.refsAll xs)=true):CallR P st dst g xs ((releaseAll (AV.refsAll xs) st).put dst (.d r))
 | veiled (ds:List DV) (r:DV) (hd:allSome (xs.map veil)=some ds) (hf:Fn P g ds r):CallR P st dst g xs (st.put dst (.d r))
 | lentS (ds:List DV) (e z:Nat) (rows:List (List DV)) (d:Tmp) (hdst:dst=some d) (hd:reifyAll st xs=some ds) (hf:FnS P g ds e z rows) (hr:rowsFlat rows) (hfr:st.fresh d=true) :
   CallR P st dst g xs (st.addBlk d (.own d) (.arr e z rows))
 | givenS (ds:List DV) (e z:Nat) (rows:List (List DV)) (d:Tmp) (hdst:dst=some d) (hd:reifyAll st xs=some ds) (hf:FnS P g ds e z rows) (ha:st.arrs (AV.refsAll xs)=true) (hfr:st.fresh d=true) :
   CallR P st dst g xs ((releaseAll (AV.refsAll xs) st).addBlk d (.own d) (.arr e z rows))
 | lentG (ds:List DV) (r:DV) (hd:∀ (base out:Own) (μ:Pl) (tmps:Array Value) (w:World) (vs:Array Value),StRel P base out st μ tmps w→xs.length=vs.size→(∀ (i:Nat) x v,xs[i]?=some x→vs[i]?=some v→AVRel w (ownOf out μ) μ x v)→DRels w out ds vs)
   (hf:Fn P g ds r) (hr:r.flat=true):CallR P st dst g xs (st.put dst (.d r))
 | gen (m0:List Blk) (pins:List Nat) (args:List AV) (r:AV) (m1:List Blk) (ns news rd bads:List Nat) (hf:FnG P g m0 pins args r m1) (hnd:(ns++news).Nodup) (hl0:ns.length=m0.length) (hl1:(ns++news).length=m1.length)
   (hm:∀ (i:Nat) b,m0[i]?=some b→∃ (n:Nat) (b':Blk),ns[i]?=some n∧st.m[n]?=some (some b')∧b=b'.mapN (inv ns)) (hnew:∀ n ∈ news,st.m[n]?=some none) (hla:xs.length=args.length)
   (ha:∀ (i:Nat) x y,xs[i]?=some x→args[i]?=some y→argG st ns rd x y) (hrd:∀ n ∈ rd,n ∉ ns) (hsh:shutG st rd) (hb:∀ (i n:Nat),ns[i]?=some n→n ∉ bads→i ∈ pins) (hfl:rd=[]∨(r.flatA=true∧m1.all Blk.flatB=true)) :
   CallR P st dst g xs ({ (st.keep bads) with m:=putM (ns++news) (m1.map (Blk.mapN fun i=>(ns++news)[i]?)) (st.keep bads).m }.put dst (r.mapN fun i=>(ns++news)[i]?))
section
variable {P:Program} {base:Own} {out:Own} {st st':St} {μ:Pl} {tmps:Array Value} {w:World} {o:Oper}
theorem z32 (h:StRel P base out st μ tmps w):∀ b,ownOf out μ b→b<w.heap.size:=by
 rintro b (hb | ⟨n,z,l,c,hb⟩)
 ·exact h.le b (h.out b hb)
 ·exact z31 h.mem hb
theorem z219 (h:StRel P base out st μ tmps w) {xs:List AV} {vs:Array Value} (hl:xs.length=vs.size) (hv:∀ (i:Nat) x v,xs[i]?=some x→vs[i]?=some v→AVRel w (ownOf out μ) μ x v)
  {ds:List DV} (hd:reifyAll st xs=some ds):DRels w out ds vs:=by
 obtain⟨h1,h2⟩:=z15 hd
 refine⟨by rw [← h1];simpa using hl,fun i d v hi hvi=>?_⟩
 have h3:=h2 i d hi
 simp only [List.getElem?_map,Option.map_eq_some_iff] at h3
 obtain⟨x,hx,hr⟩:=h3
 refine z39 h.mem out (fun b hb=>.inl hb) (fun _=>True) (fun n b z l c _ hb hc=>?_) deep x v d (hv i x v hx hvi) hr (fun _ _=>trivial) (.inl fun _ _ _ _ _ _=>trivial)
 exact (h.mem.base n b z l c hb).2.2 hc
theorem z259 (h:StRel P base out st μ tmps w) {xs:List AV} {vs:Array Value} (hl:xs.length=vs.size) (hv:∀ (i:Nat) x v,xs[i]?=some x→vs[i]?=some v→AVRel w (ownOf out μ) μ x v)
  {ds:List DV} (hd:reifyAll st xs=some ds) (ha:st.arrs (AV.refsAll xs)=true):∃ μ',StRel P base out (releaseAll (AV.refsAll xs) st) μ' tmps w∧(∀ b,ownOf out μ' b→ownOf out μ b)∧DRels w (ownOf out μ') ds vs:=by
 obtain⟨μ',h1,_,hless,hdeep⟩:=z294 h ha
 obtain⟨a1,a2⟩:=z15 hd
 refine⟨μ',h1,hless,by rw [← a1];simpa using hl,fun i d v hi hvi=>?_⟩
 have h3:=a2 i d hi
 simp only [List.getElem?_map,Option.map_eq_some_iff] at h3
 obtain⟨x,hx,hr⟩:=h3
 exact hdeep deep x v d (hv i x v hx hvi) hr (z199 hx)
theorem z348 (h:StRel P base out st μ tmps w) {w':World} (hB:Below w.heap.size w w') {d:Nat} (hf:st.fresh d=true) {e z:Nat} {rows:List (List DV)} {v:Value} {own:Own} {μc:Pl}
  (hv:AVRel w' (ownOf own μc) μc (.own 0) v) (hM:MemRel (ltU w.heap.size) own w' μc [some (.arr e z rows)]) (_hown:∀ b,own b→b<w.heap.size)
  (hcell:∀ (i:Nat) r (j:Nat) x u,rows[i]?=some r→r[j]?=some x→DRel w' (ownOf own μc) x u→∀ own',(∀ b,own' b→ownOf out μ b∨μc.owns b)→DRel w' own' x u) :
  ∃ μ',StRel P base out (st.addBlk d (.own d) (.arr e z rows)) μ' (tmps.setIfInBounds d v) w'∧KeepO base (ownOf out μ) w (ownOf out μ') w':=by
 have h0:([some (Blk.arr e z rows)]:List (Option Blk))[0]?=some (some (.arr e z rows)):=rfl
 rcases hM.arr h0 with ⟨h1,rfl⟩ | ⟨b,cap,cs,h1,h2,h3,h4,h5,h6,h7⟩
 ·rcases z29 hv with ⟨hμ,rfl⟩ | ⟨b,z,l,c,hμ,rfl⟩
  ·exact⟨_,h.add hB (z19 hf) .none0 (fun _ _ _ _ e=>by cases e) (.inl ⟨Pl.upd_same μ d _,rfl⟩) (.ownNil (Pl.upd_same μ d _)),h.keep_add hB (z19 hf) _ (fun _ _ _ _ e=>by cases e)⟩
  ·rw [h1] at hμ;cases hμ
 ·rcases z29 hv with ⟨hμ,rfl⟩ | ⟨b2,z2,l2,c2,hμ,rfl⟩
  ·rw [h1] at hμ;cases hμ
  rw [h1] at hμ;cases hμ
  have hb:w.heap.size≤b∧b<w'.heap.size:=⟨Nat.le_of_not_lt (hM.base 0 b _ _ _ h1).1,(hM.base 0 b _ _ _ h1).2.1⟩
  refine⟨_,h.add hB (z19 hf) (.at b z rows.length cap) (fun _ _ _ _ e=>by cases e;exact hb) (.inr ⟨b,cap,cs,Pl.upd_same μ d _,h2,h3,h4,h5,h6,fun i r j x hi hj=>?_⟩) (.own (Pl.upd_same μ d _)),h.keep_add hB (z19 hf) _ (fun _ _ _ _ e=>by cases e;exact hb)⟩
  obtain⟨u,p1,p2,p3⟩:=h7 i r j x hi hj
  refine⟨u,p1,p2,hcell i r j x u hi hj p3 _ (fun k hk=>?_)⟩
  rcases hk with hk | ⟨n,z',l',c',hk⟩
  ·exact .inl (.inl hk)
  ·by_cases hn:n=d
   ·subst hn;rw [Pl.upd_same] at hk;cases hk;exact .inr ⟨0,_,_,_,h1⟩
   ·rw [Pl.upd_ne μ _ hn] at hk;exact .inl (.inr ⟨n,z',l',c',hk⟩)
theorem z1180 (h:StRel P base out st μ tmps w) {dst:Option Tmp} {g:FuncId} {xs:List AV} {vs:Array Value} (hl:xs.length=vs.size)
  (hv:∀ (i:Nat) x v,xs[i]?=some x→vs[i]?=some v→AVRel w (ownOf out μ) μ x v) {m0:List Blk} {pins:List Nat} {args:List AV} {r:AV} {m1:List Blk} {ns news rd bads:List Nat}
  (hf:FnG P g m0 pins args r m1) (hnd:(ns++news).Nodup) (hl0:ns.length=m0.length) (hl1:(ns++news).length=m1.length)
  (hm:∀ (i:Nat) b,m0[i]?=some b→∃ (n:Nat) (b':Blk),ns[i]?=some n∧st.m[n]?=some (some b')∧b=b'.mapN (inv ns)) (hnew:∀ n ∈ news,st.m[n]?=some none) (hla:xs.length=args.length)
  (ha:∀ (i:Nat) x y,xs[i]?=some x→args[i]?=some y→argG st ns rd x y) (hrd:∀ n ∈ rd,n ∉ ns) (hsh:shutG st rd) (hb:∀ (i n:Nat),ns[i]?=some n→n ∉ bads→i ∈ pins) (hfl:rd=[]∨(r.flatA=true∧m1.all Blk.flatB=true)) :
  Enters P g∧Calls P g vs w fun en w'=>∃ v μ',en=.returned v∧StRel P base out ({ (st.keep bads) with m:=putM (ns++news) (m1.map (Blk.mapN fun i=>(ns++news)[i]?)) (st.keep bads).m }.put dst (r.mapN fun i=>(ns++news)[i]?)) μ' (putT tmps dst v) w' ∧
   KeepO base (ownOf out μ) w (ownOf out μ') w':=by
 refine⟨hf.enters,?_⟩
 have hnd0:ns.Nodup:=(List.nodup_append.1 hnd).1
 obtain⟨μ0,hμ0⟩:∃ μ0:Pl,μ0=fun i=>(ns[i]?).bind μ:=⟨_,rfl⟩
 have hμ0i:∀ i n,ns[i]?=some n→μ0 i=μ n:=fun i n hi=>by rw [hμ0];simp [hi]
 have hμ0s:∀ i L,μ0 i=some L→∃ n,ns[i]?=some n∧μ n=some L:=fun i L hi=>by
  rw [hμ0] at hi
  cases hn:ns[i]? with
  | none=>simp [hn] at hi
  | some n=>simp [hn] at hi;exact⟨n,rfl,hi⟩
 obtain⟨own',hown'⟩:∃ own':Own,own'=fun b=>out b∨∃ n z l c,n ∉ ns∧n ∉ rd∧μ n=some (.at b z l c):=⟨_,rfl⟩
 obtain⟨base',hbase'⟩:∃ base':Own,base'=fun b=>base b∨∃ n z l c,n ∉ ns∧μ n=some (.at b z l c):=⟨_,rfl⟩
 have howns:∀ b,own' b→base' b:=by
  rw [hown',hbase']
  rintro b (hb' | ⟨n,z,l,c,h1,h2,h3⟩)
  ·exact .inl (h.out b hb')
  ·exact .inr ⟨n,z,l,c,h1,h3⟩
 have hbase's:∀ b,base' b→b<w.heap.size:=by
  rw [hbase']
  rintro b (hb' | ⟨n,z,l,c,h1,h3⟩)
  ·exact h.le b hb'
  ·exact z31 h.mem h3
 have hnb:∀ i b z l c,μ0 i=some (.at b z l c)→¬ base' b:=by
  intro i b z l c hi hc
  obtain⟨n,hn,hμn⟩:=hμ0s i _ hi
  rw [hbase'] at hc
  rcases hc with hc | ⟨k,z',l',c',h1,h3⟩
  ·exact (h.mem.base n b z l c hμn).1 hc
  ·exact h1 (h.mem.inj k n b _ _ _ _ _ _ h3 hμn ▸ List.mem_of_getElem? hn)
 have hsub:∀ b,ownOf own' μ0 b→ownOf out μ b:=by
  rw [hown']
  rintro b ((hb' | ⟨n,z,l,c,_,_,h3⟩) | ⟨i,z,l,c,hi⟩)
  ·exact .inl hb'
  ·exact .inr ⟨n,z,l,c,h3⟩
  ·obtain⟨n,_,hμn⟩:=hμ0s i _ hi
   exact .inr ⟨n,z,l,c,hμn⟩
 have hless:Goes w (ownOf out μ) w (ownOf own' μ0):=fun b o v h1 h2=>⟨fun hc=>h1 (hsub b hc),h2⟩
 have hinv:∀ n,(μ n).isSome→∀ i,inv ns n=some i→μ0 i=μ n:=fun n _ i hi=>hμ0i i n (z71 hi)
 have hM:MemRel base' own' w μ0 (m0.map some):=by
  refine⟨fun i b hi=>?_,fun i hi=>?_,fun a k b z l c z' l' c' h1 h2=>?_,fun i b z l c hi=>⟨hnb i b z l c hi,?_,fun hc=>hnb i b z l c hi (howns b hc)⟩⟩
  ·simp only [List.getElem?_map,Option.map_eq_some_iff,Option.some.injEq] at hi
   obtain⟨b0,hi,rfl⟩:=hi
   obtain⟨n,b',h1,h2,rfl⟩:=hm i b0 hi
   exact BlkRel.mapN (.inl hless) (hμ0i i n h1) hinv (fun _ _ _ _ _=>rfl) (h.mem.blk n b' h2)
  ·obtain⟨L,hL⟩:=Option.isSome_iff_exists.1 hi
   obtain⟨n,hn,_⟩:=hμ0s i L hL
   have:i<m0.length:=by rw [← hl0];exact (List.getElem?_eq_some_iff.1 hn).1
   exact⟨m0[i],by simp [this]⟩
  ·obtain⟨n,hn,hμn⟩:=hμ0s a _ h1
   obtain⟨n',hn',hμn'⟩:=hμ0s k _ h2
   have:=h.mem.inj n n' b _ _ _ _ _ _ hμn hμn'
   subst this
   exact z132 hnd0 hn hn'
  ·obtain⟨n,_,hμn⟩:=hμ0s i _ hi
   exact z31 h.mem hμn
 have hA:∀ (i:Nat) y v,args[i]?=some y→vs[i]?=some v→AVRel w (ownOf own' μ0) μ0 y v:=by
  intro i y v hi hvi
  have hlt:i<xs.length:=by rw [hla];exact (List.getElem?_eq_some_iff.1 hi).1
  have hx:=hv i xs[i] v (List.getElem?_eq_getElem hlt) hvi
  rcases ha i xs[i] y (List.getElem?_eq_getElem hlt) hi with ⟨d,rfl,hr,hn⟩ | rfl
  ·refine .d (z39 h.mem (ownOf own' μ0) hsub (· ∈ rd) (fun n b z l c hnr hμn hc=>?_) deep _ v d hx hr hn (.inl fun n row hnr hrow k hk=>hsh n hnr row hrow k hk))
   rcases hc with hc | ⟨i,z',l',c',hi⟩
   ·rw [hown'] at hc
    rcases hc with hc | ⟨k,z',l',c',_,h2,h3⟩
    ·exact (h.mem.base n b z l c hμn).2.2 hc
    ·exact h2 (h.mem.inj k n b _ _ _ _ _ _ h3 hμn ▸ hnr)
   ·obtain⟨k,hk,hμk⟩:=hμ0s i _ hi
    exact hrd n hnr (h.mem.inj k n b _ _ _ _ _ _ hμk hμn ▸ List.mem_of_getElem? hk)
  ·exact hx.mapN (.inl hless) (fun n _ hs k hk=>hinv n hs k hk)
 refine (hf.calls base' w own' μ0 vs howns hbase's hM (h.hid.less hsub) (by rw [← hl,hla]) hA).mono ?_
 rintro en w' ⟨v,μ1,rfl,hr,hM1,hK,hpin⟩
 obtain⟨all,hall⟩:∃ all,all=ns++news:=⟨_,rfl⟩
 rw [← hall] at hnd hl1 ⊢
 obtain⟨μ',hμ'⟩:∃ μ':Pl,μ'=fun k=>match inv all k with | some i=>μ1 i | none=>μ k:=⟨_,rfl⟩
 have hμa:∀ k i,inv all k=some i→μ' k=μ1 i:=fun k i hi=>by rw [hμ'];simp [hi]
 have hμb:∀ k,inv all k=none→μ' k=μ k:=fun k hi=>by rw [hμ'];simp [hi]
 have hnsn:∀ k,inv all k=none→k ∉ ns:=fun k hk hc=>z224 hk (by rw [hall];exact List.mem_append_left _ hc)
 have hheap:∀ k,inv all k=none→∀ b z l c,μ k=some (.at b z l c)→w'.heap[b]?=w.heap[b]?:=fun k hk b z l c hb' =>
  hK.keep.below.block b (by rw [hbase'];exact .inr ⟨k,z,l,c,hnsn k hk,hb'⟩)
 have hown1:∀ k,inv all k=none→∀ b z l c,μ k=some (.at b z l c)→¬ μ1.owns b:=by
  rintro k hk b z l c hb' ⟨i,z',l',c',hi⟩
  exact (hM1.base i b _ _ _ hi).1 (by rw [hbase'];exact .inr ⟨k,z,l,c,hnsn k hk,hb'⟩)
 have hgood:Goes w (ownOf out μ) w' (ownOf out μ'):=by
  intro b o u h1 h2
  have h3:=hK.stays b h2.lt (fun hc=>h1 (hsub b hc))
  refine⟨fun hc=>?_,?_⟩
  ·rcases hc with hc | ⟨k,z,l,c,hc⟩
   ·exact h1 (.inl hc)
   ·cases hi:inv all k with
    | none=>rw [hμb k hi] at hc;exact h1 (.inr ⟨k,z,l,c,hc⟩)
    | some i=>rw [hμa k i hi] at hc;exact h3.2 (.inr ⟨i,z,l,c,hc⟩)
  ·exact h2.heap h3.1
 have hkept:∀ n,(μ n).isSome→∀ k,kp bads n=some k→μ' k=μ n:=by
  intro n hs k hk
  unfold kp at hk
  split at hk
  ·cases hk
  ·rename_i hnb'
   cases hk
   cases hi:inv all n with
   | none=>exact hμb n hi
   | some i =>
    rw [hμa n i hi]
    have hn:=z71 hi
    rw [hall] at hn
    rcases Nat.lt_or_ge i ns.length with hlt | hge
    ·rw [List.getElem?_append_left hlt] at hn
     rw [hpin i (hb i n hn (by simpa using hnb')),hμ0i i n hn]
    ·rw [List.getElem?_append_right hge] at hn
     have:=z113 h.mem (hnew n (List.mem_of_getElem? hn))
     rw [this] at hs;cases hs
 -- the state,values that may have z694 forgotten
 have hbk:∀ k b,(st.keep bads).m[k]?=some (some b)→inv all k=none→BlkRel w' (ownOf out μ') μ' k b:=by
  intro k b hk hi
  unfold St.keep at hk
  split at hk
  ·have hb0:=h.mem.blk k b hk
   have:=BlkRel.mapN (h:=some) (n':=k) (.inl hgood) (hμb k hi) (fun n hs j hj=>by cases hj;exact hkept n hs n (by simp [kp])) (hheap k hi) hb0
   rwa [show b.mapN some=b from ?_] at this
   have hav:∀ x:AV,x.mapN some=x:=by
    have key:∀ (n:Nat) (x:AV),SizeOf.sizeOf x≤n→x.mapN some=x:=by
     intro n
     induction n with
     | zero=>intro x hx;cases x <;> simp at hx <;> omega
     | succ n ih =>
      intro x hx
      have many:∀ cs:List AV,SizeOf.sizeOf cs≤n→AV.mapN.AV.mapNs some cs=cs:=by
       intro cs
       induction cs with
       | nil=>intro _;rfl
       | cons y ys ihy =>
        intro hs
        simp only [List.cons.sizeOf_spec] at hs
        rw [AV.mapN.AV.mapNs,ih y (by omega),ihy (by omega)]
      cases x with
      | agg cs=>simp only [AV.agg.sizeOf_spec] at hx;simp only [AV.mapN];rw [many cs (by omega)]
      | tup cs=>simp only [AV.tup.sizeOf_spec] at hx;simp only [AV.mapN];rw [many cs (by omega)]
      | fn f cs=>simp only [AV.fn.sizeOf_spec] at hx;simp only [AV.mapN];rw [many cs (by omega)]
      | _=>rfl
    exact fun x=>key _ x (Nat.le_refl _)
   cases b with
   | box row=>simp only [Blk.mapN];congr 1;exact (List.map_congr_left fun x _=>hav x).trans (List.map_id' row)
   | arr=>rfl
   | arrP=>rfl
   | arrA e z rows=>simp only [Blk.mapN];congr 1;exact (List.map_congr_left fun r _=>(List.map_congr_left fun x _=>hav x).trans (List.map_id' r)).trans (List.map_id' rows)
   | mp=>rfl
  ·simp only [List.getElem?_map,Option.map_eq_some_iff] at hk
   obtain⟨ob,hob,b0,rfl,rfl⟩:=hk
   exact BlkRel.mapN (.inl hgood) (hμb k hi) hkept (hheap k hi) (h.mem.blk k b0 hob)
 have hlen:(st.keep bads).m.length=st.m.length:=by unfold St.keep;split <;> simp
 have hlt:∀ k,k ∈ all→k<st.m.length:=by
  intro k hk
  rw [hall,List.mem_append] at hk
  rcases hk with hk | hk
  ·obtain⟨i,hi⟩:=List.mem_iff_getElem?.1 hk
   have hi':i<m0.length:=by rw [← hl0];exact (List.getElem?_eq_some_iff.1 hi).1
   obtain⟨n,b',h1,h2,_⟩:=hm i m0[i] (List.getElem?_eq_getElem hi')
   rw [hi] at h1;cases h1
   exact (List.getElem?_eq_some_iff.1 h2).1
  ·exact (List.getElem?_eq_some_iff.1 (hnew k hk)).1
 have hg1:rd=[]→Goes w' (ownOf own' μ1) w' (ownOf out μ'):=by
  rintro rfl b o u h1 h2
  refine⟨fun hc=>h1 ?_,h2⟩
  rcases hc with hc | ⟨k,z,l,c,hc⟩
  ·rw [hown'];exact .inl (.inl hc)
  ·cases hi:inv all k with
   | none=>rw [hμb k hi] at hc;rw [hown'];exact .inl (.inr ⟨k,z,l,c,hnsn k hi,by simp,hc⟩)
   | some i=>rw [hμa k i hi] at hc;exact .inr ⟨i,z,l,c,hc⟩
 have hback:∀ i,(μ1 i).isSome→∀ k,all[i]?=some k→μ' k=μ1 i:=fun i _ k hk=>hμa k i (z1230 hnd hk)
 have hst:StRel P base out { (st.keep bads) with m:=putM all (m1.map (Blk.mapN fun i=>all[i]?)) (st.keep bads).m } μ' tmps w':=by
  refine⟨by rw [h.size];simp only [St.keep];split <;> simp,fun i x u hx hu=>?_,⟨fun k b hk=>?_,fun k hk=>?_,fun a k b z l c z' l' c' h1 h2=>?_,fun k b z l c hk=>?_⟩,
   h.hid.goes hgood,h.out,fun b hb'=>Nat.lt_of_lt_of_le (h.le b hb') hK.keep.below.size⟩
  ·simp only [St.keep] at hx
   split at hx
   ·exact (h.tmp i x u hx hu).goes hgood (fun n _ hs=>hkept n hs n (by simp [kp]))
   ·simp only [List.getElem?_map,Option.map_eq_some_iff] at hx
    obtain⟨y,hx,rfl⟩:=hx
    exact (h.tmp i y u hx hu).mapN (.inl hgood) (fun n _ hs k hk=>hkept n hs k hk)
  ·cases hi:inv all k with
   | none =>
    rw [z186 _ _ _ _ (z224 hi)] at hk
    exact hbk k b hk hi
   | some i =>
    have hk':=z71 hi
    have hi1:i<m1.length:=by rw [← hl1];exact (List.getElem?_eq_some_iff.1 hk').1
    rw [z865 all _ _ i k ((m1[i]).mapN fun i=>all[i]?) hnd hk' (by simp [hi1]) (by rw [hlen];exact hlt k (List.mem_of_getElem? hk'))] at hk
    cases hk
    refine BlkRel.mapN (n:=i) ?_ (hμa k i hi) hback (fun _ _ _ _ _=>rfl) (hM1.blk i m1[i] (by simp [hi1]))
    rcases hfl with hfl | ⟨_,hfl⟩
    ·exact .inl (hg1 hfl)
    ·exact .inr (List.all_eq_true.1 hfl _ (List.getElem_mem hi1))
  ·cases hi:inv all k with
   | none =>
    rw [hμb k hi] at hk
    obtain⟨b,hb'⟩:=h.mem.dom k hk
    have hex:∃ b,(st.keep bads).m[k]?=some (some b):=by
     unfold St.keep
     split
     ·exact⟨b,hb'⟩
     ·exact⟨b.mapN (kp bads),by simp [hb']⟩
    obtain⟨b2,hb2⟩:=hex
    exact⟨b2,by rw [z186 _ _ _ _ (z224 hi)];exact hb2⟩
   | some i =>
    have hk':=z71 hi
    have hi1:i<m1.length:=by rw [← hl1];exact (List.getElem?_eq_some_iff.1 hk').1
    exact⟨_,z865 all _ _ i k ((m1[i]).mapN fun i=>all[i]?) hnd hk' (by simp [hi1]) (by rw [hlen];exact hlt k (List.mem_of_getElem? hk'))⟩
  ·cases ha':inv all a with
   | none =>
    rw [hμb a ha'] at h1
    cases hk':inv all k with
    | none=>rw [hμb k hk'] at h2;exact h.mem.inj a k b z l c z' l' c' h1 h2
    | some i=>rw [hμa k i hk'] at h2;exact absurd ⟨i,_,_,_,h2⟩ (hown1 a ha' b _ _ _ h1)
   | some i =>
    rw [hμa a i ha'] at h1
    cases hk':inv all k with
    | none=>rw [hμb k hk'] at h2;exact absurd ⟨i,_,_,_,h1⟩ (hown1 k hk' b _ _ _ h2)
    | some j =>
     rw [hμa k j hk'] at h2
     have:=hM1.inj i j b _ _ _ _ _ _ h1 h2
     subst this
     have e1:=z71 ha'
     have e2:=z71 hk'
     rw [e1] at e2;cases e2;rfl
  ·cases hi:inv all k with
   | none =>
    rw [hμb k hi] at hk
    have:=h.mem.base k b z l c hk
    exact⟨this.1,Nat.lt_of_lt_of_le this.2.1 hK.keep.below.size,this.2.2⟩
   | some i =>
    rw [hμa k i hi] at hk
    have:=hM1.base i b z l c hk
    exact⟨fun hc=>this.1 (by rw [hbase'];exact .inl hc),this.2.1,fun hc=>this.1 (by rw [hbase'];exact .inl (h.out b hc))⟩
 refine⟨v,μ',rfl,hst.put ?_ dst,?_⟩
 ·refine hr.mapN ?_ (fun n _ hs k hk=>hback n hs k hk)
  rcases hfl with hfl | ⟨hfl,_⟩
  ·exact .inl (hg1 hfl)
  ·exact .inr hfl
 ·refine⟨⟨hK.keep.below.mono fun b hb'=>by rw [hbase'];exact .inl hb',hK.keep.others⟩,fun b hb' ho=>?_⟩
  have h3:=hK.stays b hb' (fun hc=>ho (hsub b hc))
  refine⟨h3.1,fun hc=>?_⟩
  rcases hc with hc | ⟨k,z,l,c,hc⟩
  ·exact ho (.inl hc)
  ·cases hi:inv all k with
   | none=>rw [hμb k hi] at hc;exact ho (.inr ⟨k,z,l,c,hc⟩)
   | some i=>rw [hμa k i hi] at hc;exact h3.2 (.inr ⟨i,z,l,c,hc⟩)
theorem z890 (h:StRel P base out st μ tmps w) {dst:Option Tmp} {g:FuncId} {xs:List AV} {vs:Array Value} (hl:xs.length=vs.size)
  (hv:∀ (i:Nat) x v,xs[i]?=some x→vs[i]?=some v→AVRel w (ownOf out μ) μ x v) (hc:CallR P st dst g xs st') :
  Enters P g∧Calls P g vs w fun e w'=>∃ v μ',e=.returned v∧StRel P base out st' μ' (putT tmps dst v) w'∧KeepO base (ownOf out μ) w (ownOf out μ') w':=by
 cases hc with
 | lent ds r hd hf hr =>
  refine⟨hf.1,(hf.2 w out vs (fun b hb=>z32 h b (.inl hb)) (h.hid.less fun b hb=>.inl hb) (z219 h hl hv hd)).mono ?_⟩
  rintro e w' ⟨v,rfl,hrel,hB⟩
  exact⟨v,μ,rfl,(h.below hB).put (.d (hrel.of_flat hr)) dst,.below hB h.le⟩
 | lentF ds rs ys hd hf hk =>
  refine⟨hf.1,(hf.2 w out vs (fun b hb=>z32 h b (.inl hb)) (h.hid.less fun b hb=>.inl hb) (z219 h hl hv hd)).mono ?_⟩
  rintro e w' ⟨v,rfl,hrel,hB⟩
  obtain⟨hkl,hkg⟩:=z341 hk
  cases hrel with
  | tup _ us hul hud =>
   refine⟨_,μ,rfl,(h.below hB).put (.tup ys us (by rw [← hkl];exact hul) fun i y u h1 h2=>?_) dst,.below hB h.le⟩
   have hi:i<rs.length:=by rw [hkl];exact (List.getElem?_eq_some_iff.1 h1).1
   rcases hkg i rs[i] y (List.getElem?_eq_getElem hi) h1 with rfl | ⟨rfl,hfl⟩
   ·exact .undef _
   ·exact .d ((hud i rs[i] u (List.getElem?_eq_getElem hi) h2).of_flat hfl)
 | lentG ds r hd hf hr =>
  refine⟨hf.1,(hf.2 w out vs (fun b hb=>z32 h b (.inl hb)) (h.hid.less fun b hb=>.inl hb) (hd _ _ _ _ _ _ h hl hv)).mono ?_⟩
  rintro e w' ⟨v,rfl,hrel,hB⟩
  exact⟨v,μ,rfl,(h.below hB).put (.d (hrel.of_flat hr)) dst,.below hB h.le⟩
 | given ds r hd hf ha =>
  obtain⟨μ',h1,hless,hrels⟩:=z259 h hl hv hd ha
  refine⟨hf.1,(hf.2 w (ownOf out μ') vs (z32 h1) h1.hid hrels).mono ?_⟩
  rintro e w' ⟨v,rfl,hrel,hB⟩
  exact⟨v,μ',rfl,(h1.below hB).put (.d hrel) dst,(KeepO.less hless).trans (.below hB h.le)⟩
 | veiled ds r hd hf =>
  obtain⟨a1,a2⟩:=z15 hd
  have hrels:DRels w (ownOf out μ) ds vs:=⟨by rw [← a1];simpa using hl,fun i d v hi hvi=>by
   have h3:=a2 i d hi
   simp only [List.getElem?_map,Option.map_eq_some_iff] at h3
   obtain⟨x,hx,hr⟩:=h3
   exact z1124 (hv i x v hx hvi) hr⟩
  refine⟨hf.1,(hf.2 w (ownOf out μ) vs (z32 h) h.hid hrels).mono ?_⟩
  rintro e w' ⟨v,rfl,hrel,hB⟩
  exact⟨v,μ,rfl,(h.below hB).put (.d hrel) dst,.below hB h.le⟩
 | lentS ds e z rows d hdst hd hf hr hfr =>
  subst hdst
  refine⟨hf.1,(hf.2 w out vs (fun b hb=>z32 h b (.inl hb)) (h.hid.less fun b hb=>.inl hb) (z219 h hl hv hd)).mono ?_⟩
  rintro en w' ⟨v,μc,rfl,hrel,hM,hB⟩
  obtain⟨μ',hst,hB'⟩:=z348 h hB hfr hrel hM (fun b hb=>z32 h b (.inl hb)) (fun i r j x u hi hj hdr own' _=>hdr.of_flat (hr r (List.mem_of_getElem? hi) x (List.mem_of_getElem? hj)))
  exact⟨v,μ',rfl,hst,hB'⟩
 | givenS ds e z rows d hdst hd hf ha hfr =>
  subst hdst
  obtain⟨μ1,h1,hless,hrels⟩:=z259 h hl hv hd ha
  refine⟨hf.1,(hf.2 w (ownOf out μ1) vs (z32 h1) h1.hid hrels).mono ?_⟩
  rintro en w' ⟨v,μc,rfl,hrel,hM,hB⟩
  have hfr':(releaseAll (AV.refsAll xs) st).fresh d=true:=by
   unfold St.fresh
   rw [z112 _ st d (z19 hfr)]
  obtain⟨μ',hst,hB'⟩:=z348 h1 hB hfr' hrel hM (z32 h1) (fun i r j x u hi hj hdr own' hsub=>hdr.goes (fun b o v hb hcell=>⟨fun hc=>hb (hsub b hc),hcell⟩))
  exact⟨v,μ',rfl,hst,(KeepO.less hless).trans hB'⟩
 | gen m0 pins args r m1 ns news rd bads hf hnd hl0 hl1 hm hnew hla ha hrd hsh hb hfl=>exact z1180 h hl hv hf hnd hl0 hl1 hm hnew hla ha hrd hsh hb hfl
end
end Go.Ab
/- One operation of a region,carried out by the model. -/
namespace Go.Ab
open Go.RowKit
def callOf (o:Oper) (st:St):Option (FuncId × List AV):=match o.op with
 | .call { callee:=.value f,args,.. }=>calleeOf st f args.toList
 | _=>none
def isCall (o:Oper):Bool:=match o.op with
 | .call { callee:=.value _,.. }=>true
 | _=>false
def StepR (P:Program) (o:Oper) (st st':St):Prop :=
 (∃ g xs,callOf o st=some (g,xs)∧CallR P st o.dst g xs st')∨(isCall o=false∧stepOp P o st=some st') ∨
 (isCall o=false∧∃ st1,stepOp P o st=some st1∧∀ base out μ tmps w μ1 tmps1 w1,StRel P base out st μ tmps w→StRel P base out st1 μ1 tmps1 w1→∃ μ2,StRel P base out st' μ2 tmps1 w1∧∀ b,ownOf out μ2 b→ownOf out μ1 b)
def StepG (P:Program) (ops:Array Oper) (o:Oper) (st st':St):Prop:=match o.guard with
 | none=>StepR P o st st'
 | some (j,want)=>∃ t,(ops[j]?).bind (·.dst)=some t ∧
   ((st.ev (.tmp t)=.d (.bool want)∧StepR P o st st')∨((st.ev (.tmp t)=.d (.bool (!want))∨st.ev (.tmp t)=.void)∧st'=st.put o.dst .void))
section
variable {P:Program} {base:Own} {out:Own} {st st':St} {μ:Pl} {tmps:Array Value} {w:World} {o:Oper} {rd:Option Nat} {n:Nat} {ops:Array Oper} {Q:Exit→Act→World→Prop}
theorem z168 (h:stepOp P o st=some st'):∀ c,o.op≠.defer c:=by
 intro c hc
 unfold stepOp at h
 rw [hc] at h
 simp [putV,valOp] at h
theorem z78 (tmps:Array Value) (ds:List Deferred) (dst:Option Tmp) (v:Value):({ tmps:=tmps,defers:=ds }:Act).put dst v={ tmps:=putT tmps dst v,defers:=ds }:=by
 cases dst <;> rfl
theorem z741 (h:StRel P base out st μ tmps w) {f:Operand} {args:List Operand} {g:FuncId} {xs:List AV} (hc:calleeOf st f args=some (g,xs)) :
  ∃ fst caps:Array Value,val tmps f=.func (.func g) fst caps∧xs.length=(fst++(args.map (val tmps)).toArray++caps).size ∧
   ∀ (i:Nat) x v,xs[i]?=some x→(fst++(args.map (val tmps)).toArray++caps)[i]?=some v→AVRel w (ownOf out μ) μ x v:=by
 have hf:=h.ev f []
 have key:∀ (cs:List AV) (caps:Array Value),cs.length=caps.size→(∀ (i:Nat) x v,cs[i]?=some x→caps[i]?=some v→AVRel w (ownOf out μ) μ x v) →
   (args.map st.ev++cs).length=((args.map (val tmps)).toArray++caps).size ∧
   ∀ (i:Nat) x v,(args.map st.ev++cs)[i]?=some x→((args.map (val tmps)).toArray++caps)[i]?=some v→AVRel w (ownOf out μ) μ x v:=by
  intro cs caps hl hd
  refine⟨by simp [hl],fun i x v hx hv=>?_⟩
  by_cases hi:i<args.length
  ·rw [List.getElem?_append_left (by simpa using hi)] at hx
   rw [Array.getElem?_append_left (by simpa using hi)] at hv
   simp only [List.getElem?_map,Option.map_eq_some_iff,List.getElem?_toArray] at hx hv
   obtain⟨a,ha,rfl⟩:=hx
   obtain⟨b,hb,rfl⟩:=hv
   rw [ha] at hb;cases hb
   exact h.ev a []
  ·rw [List.getElem?_append_right (by simpa using Nat.le_of_not_lt hi)] at hx
   rw [Array.getElem?_append_right (by simpa using Nat.le_of_not_lt hi)] at hv
   simp only [List.length_map,List.size_toArray] at hx hv
   exact hd _ _ _ hx hv
 unfold calleeOf at hc
 split at hc
 ·rename_i g' caps hev
  cases hc
  rw [hev] at hf
  obtain⟨vs,hv,hl,hd⟩:=z547 hf
  have hk:=key (caps.map .d) vs (by simpa using hl) (fun i x v h1 h2=>by
   simp only [List.getElem?_map,Option.map_eq_some_iff] at h1
   obtain⟨d,h1,rfl⟩:=h1
   exact .d (hd i d v h1 h2))
  exact⟨#[],vs,hv,by simpa using hk.1,by simpa using hk.2⟩
 ·rename_i g' caps hev
  cases hc
  rw [hev] at hf
  obtain⟨vs,hv,hl,hd⟩:=z1087 hf
  have hk:=key caps vs hl hd
  exact⟨#[],vs,hv,by simpa using hk.1,by simpa using hk.2⟩
 ·rename_i g' ds hev
  cases hc
  rw [hev] at hf
  obtain⟨vs,hv,hl,hd⟩:=z1090 hf
  refine⟨vs,#[],hv,by simp [hl],fun i x v h1 h2=>?_⟩
  rw [Array.append_empty] at h2
  by_cases hi:i<ds.length
  ·rw [List.getElem?_append_left (by simpa using hi)] at h1
   rw [Array.getElem?_append_left (by rw [← hl];exact hi)] at h2
   simp only [List.getElem?_map,Option.map_eq_some_iff] at h1
   obtain⟨d,h1,rfl⟩:=h1
   exact .d (hd i d v h1 h2)
  ·rw [List.getElem?_append_right (by simpa using Nat.le_of_not_lt hi)] at h1
   rw [Array.getElem?_append_right (by rw [← hl];exact Nat.le_of_not_lt hi)] at h2
   simp only [List.length_map,List.getElem?_map,Option.map_eq_some_iff,List.getElem?_toArray,← hl] at h1 h2
   obtain⟨a,ha,rfl⟩:=h1
   obtain⟨b,hb,rfl⟩:=h2
   rw [ha] at hb;cases hb
   exact h.ev a []
 ·cases hc
def fence (rd:Option Nat):Fence:={ Fence.wide with round:=rd }
theorem z444 (h:StRel P base out st μ tmps w) (hdst:dstOk o=true) (hs:StepR P o st st') {ds:List Deferred} {K:Act→World→Prop}
  (hK:∀ v μ' w',StRel P base out st' μ' (putT tmps o.dst v) w'→KeepO base (ownOf out μ) w (ownOf out μ') w'→K { tmps:=putT tmps o.dst v,defers:=ds } w') :
  o.wpIn (fence rd) n P { tmps:=tmps,defers:=ds } w K Q:=by
 refine⟨fun _ _=>trivial,?_⟩
 rcases hs with ⟨g,xs,hc,hcall⟩ | ⟨hnc,hs⟩ | ⟨hnc,st1,hs,hlater⟩
 ·unfold callOf at hc
  split at hc
  ·rename_i f args ts ho
   obtain⟨fst,caps,hv,hl,hd⟩:=z741 h hc
   obtain⟨hent,hcalls⟩:=z890 h hl hd hcall
   have hrun:(execOp ({ tmps:=tmps,defers:=ds }:Act).eval o).run P w=.ok (.enter g (fst++(args.toList.map (val tmps)).toArray++caps)) w:=by
    unfold execOp
    rw [z22]
    have hargs:args.map (val tmps)=(args.toList.map (val tmps)).toArray:=by apply Array.toList_inj.1;simp
    simp only [val] at hv hargs
    simp only [ho,resolve,hargs,hv,Deferred.ofValue,invoke,Sem.run_bind,Sem.run_pure,Result.andThen_ok,Array.empty_append]
    exact hent _ _
   rw [Oper.semAt_eq _ _ _ (by rw [ho];intro c hc;cases hc),hrun]
   simp only [Oper.uponIn_enter]
   refine⟨(fun hsome=>(by cases hsome)),?_⟩
   have hci:CallsIn (fence rd) (n - 1) P g (fst++(args.toList.map (val tmps)).toArray++caps) w fun e w'=>∃ v μ',e=.returned v∧StRel P base out st' μ' (putT tmps o.dst v) w'∧KeepO base (ownOf out μ) w (ownOf out μ') w' :=
    (callsIn_wide (n:=n - 1)).2 hcalls
   refine hci.mono ?_
   rintro e w' ⟨v,μ',rfl,hst,hB⟩
   simp only [z78]
   exact hK v μ' w' hst hB
  ·cases hc
 ·obtain⟨nx,v,w',μ',hr,hnx,hst,hB⟩:=z275 h hdst hs
  rw [Oper.semAt_eq _ _ _ (z168 hs),hr ds]
  rcases hnx with rfl | ⟨rfl,rfl⟩
  ·simp only [Oper.uponIn_value,z78]
   exact hK v μ' w' hst hB
  ·simp only [Oper.uponIn_skip,z78]
   exact hK _ μ' w' hst hB
 ·obtain⟨nx,v,w',μ',hr,hnx,hst,hB⟩:=z275 h hdst hs
  obtain⟨μ2,hst2,hless⟩:=hlater _ _ _ _ _ _ _ _ h hst
  rw [Oper.semAt_eq _ _ _ (z168 hs),hr ds]
  rcases hnx with rfl | ⟨rfl,rfl⟩
  ·simp only [Oper.uponIn_value,z78]
   exact hK v μ2 w' hst2 (hB.trans (.less hless))
  ·simp only [Oper.uponIn_skip,z78]
   exact hK _ μ2 w' hst2 (hB.trans (.less hless))
end
end Go.Ab
/- What an operation leans on: for regions whose order is open. -/
namespace Go.Ab
open Go.RowKit
structure Eff where
 v:AV
 m:Option (Nat × Blk)
def St.apply (st:St) (dst:Option Tmp) (e:Eff):St:={ t:=(st.put dst e.v).t,m:=match e.m with
 | some (n,b)=>st.m.set n (some b)
 | none=>st.m }
def reach (m:List (Option Blk)):Nat→AV→List Nat
 | 0,x=>x.refs
 | f + 1,x=>x.refs++x.refs.flatMap fun (n:Nat)=>match (m[n]?:Option (Option Blk)) with
  | some (some (.box row))=>row.flatMap (reach m f)
  | _=>[]
def reachAll (st:St) (xs:List AV):List Nat:=xs.flatMap (reach st.m deep)
inductive CallE (P:Program) (st:St) (dst:Option Tmp) (g:FuncId) (xs:List AV):Eff→Prop where
 | fn (ds:List DV) (r:DV) (hd:reifyAll st xs=some ds) (hf:Fn P g ds r) (hr:r.flat=true∨AV.refsAll xs=[]):CallE P st dst g xs ⟨.d r,none⟩
 | fnS (ds:List DV) (e z:Nat) (rows:List (List DV)) (d:Tmp) (hdst:dst=some d) (hd:reifyAll st xs=some ds) (hf:FnS P g ds e z rows) (hr:rowsFlat rows∨AV.refsAll xs=[]) (hfr:st.fresh d=true) :
   CallE P st dst g xs ⟨.own d,some (d,.arr e z rows)⟩
 | inPlace (n:Nat) (b0 b0' b1:Blk) (args:List AV) (r:AV) (hf:FnG P g [b0] [0] args r [b1]) (hn:st.m[n]?=some (some b0')) (hb:b0=b0'.mapN (inv [n])) (hla:xs.length=args.length)
   (ha:∀ (i:Nat) x y,xs[i]?=some x→args[i]?=some y→argG st [n] [] x y) (hx:n ∈ AV.refsAll xs):CallE P st dst g xs ⟨r.mapN (fun i=>[n][i]?),some (n,b1.mapN fun i=>[n][i]?)⟩
 | inPlaceR (n:Nat) (rd:List Nat) (b0 b0' b1:Blk) (args:List AV) (r:AV) (hf:FnG P g [b0] [0] args r [b1]) (hn:st.m[n]?=some (some b0')) (hb:b0=b0'.mapN (inv [n])) (hla:xs.length=args.length)
   (ha:∀ (i:Nat) x y,xs[i]?=some x→args[i]?=some y→argG st [n] rd x y) (hx:n ∈ AV.refsAll xs) (hrx:∀ k ∈ rd,k ∈ AV.refsAll xs) (hrd:n ∉ rd) (hsh:shutG st rd) (hfl:r.flatA=true∧b1.flatB=true) :
   CallE P st dst g xs ⟨r.mapN (fun i=>[n][i]?),some (n,b1.mapN fun i=>[n][i]?)⟩
inductive EffR (P:Program) (o:Oper) (st:St):Eff→Prop where
 | val (x:AV) (hc:isCall o=false) (h:valOp P o.op st=some x) (hn:∀ t a y,o.op≠.store t a y):EffR P o st ⟨x,none⟩
 | new (d:Tmp) (b:Blk) (hd:o.dst=some d) (h:newOp P o.op st=some b) (hf:st.fresh d=true):EffR P o st ⟨nameOf d b,some (d,b)⟩
 | lit (d:Tmp) (e z:Nat) (rows:List (List DV)) (t:TypeId) (len:Nat) (parts:Array (Nat × Operand)) (ho:o.op=.buildSlice t len parts) (hd:o.dst=some d) (hf:st.fresh d=true)
   (h:opBuildSlice P st t len (parts.toList.map fun p=>(p.1,st.ev p.2))=some (.arr e z rows)) (hr:AV.refsAll (parts.toList.map fun p=>st.ev p.2)=[]):EffR P o st ⟨.own d,some (d,.arr e z rows)⟩
 | store (t:TypeId) (a x:Operand) (n off:Nat) (row row':List AV) (cs:List AV) (ho:o.op=.store t a x) (hd:o.dst=none) (ha:st.ev a=.box n off) (hn:st.m[n]?=some (some (.box row)))
   (hx:(st.ev x).cells=some cs) (hl:tsz P t=some cs.length) (hs:splice row off cs=some row'):EffR P o st ⟨.void,some (n,.box row')⟩
 | copy (t t':TypeId) (x y:Operand) (c n:Nat) (b:Blk) (ho:o.op=.call { callee:=.builtin .copy,args:=#[x,y],argTypes:=#[t,t'] }) (h:opCopy P st t (st.ev x) (st.ev y)=some (c,n,b)):EffR P o st ⟨.d (.int .i64 c),some (n,b)⟩
 | storeE (t:TypeId) (a x:Operand) (n i off e z:Nat) (rows:List (List DV)) (r r' ds:List DV) (cs:List AV) (ho:o.op=.store t a x) (hd:o.dst=none) (ha:st.ev a=.elem n i off) (hn:st.m[n]?=some (some (.arr e z rows)))
   (hx:(st.ev x).cells=some cs) (hl:tsz P t=some cs.length) (hi:rows[i]?=some r) (hds:allSome (cs.map (reify st.m deep))=some ds) (hs:splice r off ds=some r') (hr:(st.ev x).refs=[]):EffR P o st ⟨.void,some (n,.arr e z (rows.set i r'))⟩
 | call (g:FuncId) (xs:List AV) (e:Eff) (hc:callOf o st=some (g,xs)) (h:CallE P st o.dst g xs e):EffR P o st e
theorem EffR.step {P:Program} {o:Oper} {st:St} {e:Eff} (h:EffR P o st e):StepR P o st (st.apply o.dst e):=by
 cases h with
 | val x hc h hn =>
  refine .inr (.inl ⟨hc,?_⟩)
  have e1:st.apply o.dst ⟨x,none⟩=st.put o.dst x:=by cases o.dst <;> rfl
  rw [e1]
  unfold stepOp
  split <;> rename_i ho <;> first
   | (rw [ho] at h;simp [valOp] at h;done)
   | (rw [ho] at hc;simp [isCall] at hc;done)
   | (exact absurd ho (hn _ _ _))
   | (rw [h];rfl)
 | new d b hd h hf =>
  refine .inr (.inl ⟨by unfold newOp at h;unfold isCall;split at h <;> simp_all,?_⟩)
  have e1:st.apply o.dst ⟨nameOf d b,some (d,b)⟩=st.addBlk d (nameOf d b) b:=by rw [hd];rfl
  rw [e1]
  have:addN st o.dst (newOp P o.op st)=some (st.addBlk d (nameOf d b) b):=by rw [hd,h];simp [addN,hf]
  unfold stepOp
  split <;> rename_i ho <;> first
   | (rw [ho] at this ⊢;exact this)
   | (rw [ho] at h;simp [newOp] at h;done)
   | skip
  unfold newOp at h
  split at h <;> simp_all
 | lit d e z rows t len parts ho hd hf h hr =>
  refine .inr (.inl ⟨by simp [isCall,ho],?_⟩)
  have hps:(parts.toList.map fun p=>(p.1,st.ev p.2)).map (·.2)=parts.toList.map fun p=>st.ev p.2:=by simp [Function.comp_def]
  unfold stepOp
  rw [ho]
  simp only [h,hd,Option.getD_some,hf,hps,hr]
  rfl
 | store t a x n off row row' cs ho hd ha hn hx hl hs =>
  refine .inr (.inl ⟨by simp [isCall,ho],?_⟩)
  unfold stepOp
  rw [ho]
  simp only [opStore,ha,hl,hx,hn,hs,if_true]
  rw [hd]
  rfl
 | copy t t' x y c n b ho h =>
  refine .inr (.inl ⟨by simp [isCall,ho],?_⟩)
  unfold stepOp
  rw [ho]
  simp only [List.map_cons,List.map_nil,h]
  rfl
 | storeE t a x n i off e z rows r r' ds cs ho hd ha hn hx hl hi hds hs hr =>
  refine .inr (.inl ⟨by simp [isCall,ho],?_⟩)
  unfold stepOp
  rw [ho]
  simp only [opStore,ha,hl,hx,hn,hi,hds,hs,hr,if_true,St.arrs,releaseAll,List.contains_nil,Bool.not_false,Bool.and_true,Bool.and_self]
  rw [hd]
  rfl
 | call g xs e hc h =>
  refine .inl ⟨g,xs,hc,?_⟩
  cases h with
  | fn ds r hd hf hr =>
   have e1:st.apply o.dst ⟨.d r,none⟩=st.put o.dst (.d r):=by cases o.dst <;> rfl
   rw [e1]
   rcases hr with hr | hr
   ·exact .lent ds r hd hf hr
   ·have:=CallR.given (dst:=o.dst) ds r hd hf (by rw [hr];rfl)
    rw [hr] at this
    exact this
  | fnS ds e z rows d hdst hd hf hr hfr =>
   have e1:st.apply o.dst ⟨.own d,some (d,.arr e z rows)⟩=st.addBlk d (.own d) (.arr e z rows):=by rw [hdst];rfl
   rw [e1]
   rcases hr with hr | hr
   ·exact .lentS ds e z rows d hdst hd hf hr hfr
   ·have:=CallR.givenS ds e z rows d hdst hd hf (by rw [hr];rfl) hfr
    rw [hr] at this
    exact this
  | inPlace n b0 b0' b1 args r hf hn hb hla ha hx =>
   have:=CallR.gen (dst:=o.dst) (st:=st) [b0] [0] args r [b1] [n] [] [] [] hf (by simp) rfl rfl (fun i b hi=>by
     cases i with
     | zero=>cases hi;exact⟨n,b0',rfl,hn,hb⟩
     | succ i=>simp at hi) (by simp) hla ha (by simp) (by intro n hn;simp at hn) (fun i k hi _=>by
     cases i with
     | zero=>simp
     | succ i=>simp at hi) (.inl rfl)
   have e1:st.apply o.dst ⟨r.mapN (fun i=>[n][i]?),some (n,b1.mapN fun i=>[n][i]?)⟩=({ (st.keep []) with m:=putM ([n]++[]) ([b1].map (Blk.mapN fun i=>([n]++[])[i]?)) (st.keep []).m }:St).put o.dst (r.mapN fun i=>([n]++[])[i]?):=by
    cases o.dst <;> rfl
   rw [e1]
   exact this
  | inPlaceR n rd b0 b0' b1 args r hf hn hb hla ha hx hrx hrd hsh hfl =>
   have:=CallR.gen (dst:=o.dst) (st:=st) [b0] [0] args r [b1] [n] [] rd [] hf (by simp) rfl rfl (fun i b hi=>by
     cases i with
     | zero=>cases hi;exact⟨n,b0',rfl,hn,hb⟩
     | succ i=>simp at hi) (by simp) hla ha (by intro k hk hc;simp at hc;subst hc;exact hrd hk) hsh (fun i k hi _=>by
     cases i with
     | zero=>simp
     | succ i=>simp at hi) (.inr ⟨hfl.1,by simp [hfl.2]⟩)
   have e1:st.apply o.dst ⟨r.mapN (fun i=>[n][i]?),some (n,b1.mapN fun i=>[n][i]?)⟩=({ (st.keep []) with m:=putM ([n]++[]) ([b1].map (Blk.mapN fun i=>([n]++[])[i]?)) (st.keep []).m }:St).put o.dst (r.mapN fun i=>([n]++[])[i]?):=by
    cases o.dst <;> rfl
   rw [e1]
   exact this
def Agree (N:List Nat) (m m':List (Option Blk)):Prop:=∀ n ∈ N,m[n]?=m'[n]?
theorem Agree.mono {N N':List Nat} {m m':List (Option Blk)} (h:Agree N m m') (hs:∀ n ∈ N',n ∈ N):Agree N' m m':=fun n hn=>h n (hs n hn)
section
variable {P:Program} {st st':St} {m m':List (Option Blk)}
theorem z459 {x:AV} (h:Agree x.refs m m'):leaf m x=leaf m' x:=by
 cases x <;> simp only [leaf] <;> (try rfl) <;> rw [h _ (by simp [AV.refs])]
theorem z1059 {cs:List AV} {x:AV} (hx:x ∈ cs):∀ n ∈ x.refs,n ∈ AV.refs.AV.refss cs:=by
 obtain⟨i,hi⟩:=List.mem_iff_getElem?.1 hx
 exact fun n hn=>AV.refss_get hi hn
theorem z144:∀ (f:Nat) (x:AV),Agree (reach m f x) m m'→reify m f x=reify m' f x:=by
 intro f
 induction f with
 | zero=>intro x h;exact z459 (by simpa [reach] using h)
 | succ f ih =>
  intro x h
  have hx:Agree x.refs m m':=h.mono (fun n hn=>by simp [reach,hn])
  have many:∀ cs:List AV,(∀ y ∈ cs,Agree (reach m f y) m m')→cs.map (reify m f)=cs.map (reify m' f):=fun cs hc=>List.map_congr_left fun y hy=>ih y (hc y hy)
  have nested:∀ (cs:List AV),(∀ n ∈ AV.refs.AV.refss cs,n ∈ x.refs)→∀ y ∈ cs,Agree (reach m f y) m m':=by
   intro cs hcs y hy
   have hsub:∀ (g:Nat) (y:AV),(∀ n ∈ y.refs,n ∈ x.refs)→g≤f→∀ n ∈ reach m g y,n ∈ reach m (f + 1) x:=by
    intro g
    cases g with
    | zero=>intro y hy _ n hn;simp only [reach] at hn;simp [reach,hy n hn]
    | succ g =>
     intro y hy hg n hn
     simp only [reach,List.mem_append,List.mem_flatMap] at hn
     have up:∀ (a b:Nat) (y:AV),a≤b→∀ n ∈ reach m a y,n ∈ reach m b y:=by
      intro a
      induction a with
      | zero=>intro b y _ n hn;cases b <;> simp_all [reach]
      | succ a iha =>
       intro b y hb n hn
       cases b with
       | zero=>omega
       | succ b =>
        simp only [reach,List.mem_append,List.mem_flatMap] at hn ⊢
        rcases hn with hn | ⟨k,hk,hn⟩
        ·exact .inl hn
        ·refine .inr ⟨k,hk,?_⟩
         split at hn
         ·simp only [List.mem_flatMap] at hn ⊢
          obtain⟨q,hq,hn⟩:=hn
          exact⟨q,hq,iha b q (by omega) n hn⟩
         ·cases hn
     rcases hn with hn | ⟨k,hk,hn⟩
     ·simp [reach,hy n hn]
     ·simp only [reach,List.mem_append,List.mem_flatMap]
      refine .inr ⟨k,hy k hk,?_⟩
      split at hn
      ·simp only [List.mem_flatMap] at hn ⊢
       obtain⟨q,hq,hn⟩:=hn
       exact⟨q,hq,up g f q (by omega) n hn⟩
      ·cases hn
   exact h.mono (hsub f y (fun n hn=>hcs n (z1059 hy n hn)) (Nat.le_refl _))
  cases x with
  | box n off =>
   simp only [reify]
   have hn:=hx n (by simp [AV.refs])
   rw [← hn]
   split
   ·rename_i row hrow
    rw [many row (fun y hy=>h.mono (fun k hk=>by
     simp only [reach,List.mem_append,List.mem_flatMap]
     exact .inr ⟨n,by simp [AV.refs],by rw [hrow];simp only [List.mem_flatMap];exact⟨y,hy,hk⟩⟩))]
   ·rfl
  | agg cs=>simp only [reify];rw [many cs (nested cs (by simp [AV.refs]))]
  | tup cs=>simp only [reify];rw [many cs (nested cs (by simp [AV.refs]))]
  | fn g cs=>simp only [reify];rw [many cs (nested cs (by simp [AV.refs]))]
  | _=>exact z459 hx
theorem z682 {t:TypeId} {a:AV} (h:Agree a.refs st.m st'.m):opLoad P st t a=opLoad P st' t a:=by
 unfold opLoad
 cases a with
 | box n off=>simp only [h n (by simp [AV.refs])]
 | elem n i off=>simp only [h n (by simp [AV.refs])]
 | d y=>cases y <;> rfl
 | _=>rfl
theorem z423 {t:TypeId} {x:AV} {lo hi mx:Option AV} (h:Agree x.refs st.m st'.m):opSlice3 P st t x lo hi mx=opSlice3 P st' t x lo hi mx:=by
 have e:∀ n,x=.own n→st.m[n]?=st'.m[n]?:=by
  rintro n rfl
  exact h n (by simp [AV.refs])
 unfold opSlice3
 split
 ·rw [e _ rfl]
 ·rfl
theorem z422 {t:TypeId} {x:AV} {lo hi:Option AV} (h:Agree x.refs st.m st'.m):opSliceA P st t x lo hi=opSliceA P st' t x lo hi:=by
 unfold opSliceA
 cases x with
 | box n off=>simp only [h n (by simp [AV.refs])]
 | d y=>cases y <;> rfl
 | _=>rfl
theorem z538 {t:TypeId} {x:AV} {lo hi mx:Option AV} (h:Agree x.refs st.m st'.m):opSlice P st t x lo hi mx=opSlice P st' t x lo hi mx:=by
 unfold opSlice
 rw [z423 h,z422 h]
 split
 ·split
  ·cases x with
   | own n=>simp only [h n (by simp [AV.refs])]
   | view n off len=>simp only [h n (by simp [AV.refs])]
   | d y=>cases y <;> rfl
   | _=>rfl
  ·rfl
 ·rfl
 ·rfl
 ·rfl
theorem z246 {t:TypeId} {x i:AV} (h:Agree x.refs st.m st'.m):opIndexAddr P st t x i=opIndexAddr P st' t x i:=by
 unfold opIndexAddr
 cases x with
 | own n=>simp only [h n (by simp [AV.refs])]
 | view n off len=>simp only [h n (by simp [AV.refs])]
 | d y=>cases y <;> rfl
 | _=>rfl
theorem z97 {x:AV} (h:Agree x.refs st.m st'.m):elemsOf st x=elemsOf st' x:=by
 cases x with
 | own n=>simp only [elemsOf,h n (by simp [AV.refs])]
 | view n off len=>simp only [elemsOf,h n (by simp [AV.refs])]
 | d y=>cases y <;> rfl
 | _=>rfl
theorem z887 {x:AV} (h:Agree x.refs st.m st'.m):dstOf st x=dstOf st' x:=by
 cases x with
 | own n=>simp only [dstOf,h n (by simp [AV.refs])]
 | _=>rfl
theorem z539 {t:TypeId} {x y:AV} (hx:Agree x.refs st.m st'.m) (hy:Agree y.refs st.m st'.m):opCopyA P st t x y=opCopyA P st' t x y:=by
 have hn:∀ n off len,dstOf st' x=some (n,off,len)→st.m[n]?=st'.m[n]?:=by
  intro n off len hd
  unfold dstOf at hd
  split at hd
  ·split at hd
   ·cases hd;exact hx _ (by simp [AV.refs])
   ·cases hd
  ·cases hd;exact hx _ (by simp [AV.refs])
  ·cases hd
 unfold opCopyA
 rw [z97 hy,z887 hx]
 split
 ·split
  ·rename_i hd
   rw [hn _ _ _ hd]
  ·rfl
 ·rfl
theorem z683 {t:TypeId} {x y:AV} (hx:Agree x.refs st.m st'.m) (hy:Agree y.refs st.m st'.m):opCopy P st t x y=opCopy P st' t x y:=by
 unfold opCopy
 split
 ·rename_i n off len
  unfold opCopyB
  rw [z97 hy,hx n (by simp [AV.refs])]
 ·exact z539 hx hy
theorem z997 {x:AV} (h:Agree x.refs st.m st'.m):lenA st x=lenA st' x:=by
 cases x with
 | own n=>simp only [lenA,h n (by simp [AV.refs])]
 | _=>rfl
theorem z867 {t:TypeId} {x:AV} (h:Agree x.refs st.m st'.m):opLen P st t x=opLen P st' t x:=by
 unfold opLen
 cases x <;> simp only [z97 h,z997 h]
theorem z424 {t:TypeId} {x ix:AV} {ok:Bool} (h:Agree x.refs st.m st'.m):opLookup P st t x ix ok=opLookup P st' t x ix ok:=by
 cases x with
 | mp n =>
  have e:=h n (by simp [AV.refs])
  unfold opLookup
  rcases tmapK P t with _ | ⟨kk,e'⟩
  ·rfl
  ·simp only [e]
 | d y=>unfold opLookup;rcases tmapK P t with _ | ⟨kk,e⟩ <;> first | rfl | (cases y <;> rfl)
 | _=>unfold opLookup;rcases tmapK P t with _ | ⟨kk,e⟩ <;> rfl
def footV (o:Op) (st:St):List Nat:=match o with
 | .load .. | .slice .. | .indexAddr .. | .lookup .. | .call ..=>o.operands.toList.flatMap fun x=>(st.ev x).refs
 | _=>[]
theorem z73 {o:Op} {x:Operand} (hf:footV o st=o.operands.toList.flatMap fun x=>(st.ev x).refs) (hx:x ∈ o.operands):∀ n ∈ (st.ev x).refs,n ∈ footV o st:=fun n hn=>by
 rw [hf]
 simp only [List.mem_flatMap,Array.mem_toList_iff]
 exact⟨x,hx,hn⟩
theorem z759 {o:Op} (he:∀ x ∈ o.operands,st.ev x=st'.ev x) (h:Agree (footV o st) st.m st'.m):valOp P o st=valOp P o st':=by
 have mapA:∀ (l:Array Operand),(∀ x ∈ l,x ∈ o.operands)→l.toList.map st.ev=l.toList.map st'.ev:=fun l hl=>List.map_congr_left fun x hx=>he x (hl x (by simpa using hx))
 unfold valOp
 split
 ·rw [he _ (by simp [Op.operands])]
 ·rw [he _ (by simp [Op.operands])]
 ·rw [he _ (by simp [Op.operands]),he _ (by simp [Op.operands]),he _ (by simp [Op.operands])]
 ·rename_i t parts
  have:(parts.toList.map fun p=>(p.1,st.ev p.2))=parts.toList.map fun p=>(p.1,st'.ev p.2):=List.map_congr_left fun p hp=>by
   rw [he p.2 (by simp only [Op.operands,List.mem_toArray,List.mem_map];exact⟨p,hp,rfl⟩)]
  rw [this]
 ·rename_i t a
  have e1:evG P st a=evG P st' a:=by
   cases a <;> simp only [evG]
   all_goals exact he _ (by simp [Op.operands])
  rw [← e1]
  refine z682 ?_
  cases a with
  | global g=>simp only [evG];split <;> exact fun n hn=>by simp [AV.refs] at hn
  | tmp z=>exact h.mono (z73 (o:=.load t (.tmp z)) (st:=st) (x:=.tmp z) rfl (by simp [Op.operands]))
  | const z=>exact h.mono (z73 (o:=.load t (.const z)) (st:=st) (x:=.const z) rfl (by simp [Op.operands]))
  | func z=>exact h.mono (z73 (o:=.load t (.func z)) (st:=st) (x:=.func z) rfl (by simp [Op.operands]))
 ·rw [he _ (by simp [Op.operands])]
 ·rw [he _ (by simp [Op.operands]),he _ (by simp [Op.operands])]
 ·rw [he _ (by simp [Op.operands])]
 ·rw [he _ (by simp [Op.operands])]
 ·rename_i fn first captured
  rw [mapA first (fun x hx=>by simp [Op.operands,hx]),mapA captured (fun x hx=>by simp [Op.operands,hx])]
 ·rename_i t x lo hi mx
  rw [z538 (st':=st') (h.mono (z73 rfl (by simp [Op.operands]))),he x (by simp [Op.operands])]
  have hopt:∀ y:Option Operand,(∀ a,y=some a→a ∈ (Op.slice t x lo hi mx).operands)→y.map st.ev=y.map st'.ev:=by
   intro y hy
   cases y with
   | none=>rfl
   | some a=>simp [he a (hy a rfl)]
  rw [hopt lo (fun a ha=>by simp [Op.operands,ha]),hopt hi (fun a ha=>by simp [Op.operands,ha]),hopt mx (fun a ha=>by simp [Op.operands,ha])]
 ·rw [he _ (by simp [Op.operands])]
 ·rw [he _ (by simp [Op.operands])]
 ·rename_i t x i
  have e1:evG P st x=evG P st' x:=by
   cases x <;> simp only [evG]
   all_goals exact he _ (by simp [Op.operands])
  rw [z246 (st':=st') ?_,e1,he i (by simp [Op.operands])]
  cases x with
  | global g=>simp only [evG];split <;> exact fun n hn=>by simp [AV.refs] at hn
  | tmp z=>exact h.mono (z73 (o:=.indexAddr t (.tmp z) i) (st:=st) (x:=.tmp z) rfl (by simp [Op.operands]))
  | const z=>exact h.mono (z73 (o:=.indexAddr t (.const z) i) (st:=st) (x:=.const z) rfl (by simp [Op.operands]))
  | func z=>exact h.mono (z73 (o:=.indexAddr t (.func z) i) (st:=st) (x:=.func z) rfl (by simp [Op.operands]))
 ·rw [he _ (by simp [Op.operands])]
 ·rename_i t x ix ok
  rw [z424 (st':=st') (h.mono (z73 rfl (by simp [Op.operands]))),he x (by simp [Op.operands]),he ix (by simp [Op.operands])]
 ·rename_i args ts
  have hm:=mapA args (fun x hx=>by simp [Op.operands,Call.operands,hx])
  cases hl:args.toList with
  | nil=>simp
  | cons a as =>
   cases as with
   | nil =>
    rw [hl] at hm
    have ha:a ∈ args:=by rw [← Array.mem_toList_iff,hl];simp
    simp only [List.map_cons,List.map_nil]
    split
    ·rename_i t x h1 h2
     simp only [List.cons.injEq,and_true] at h2
     subst h2
     rw [z867 (st':=st') (h.mono (z73 rfl (by simp [Op.operands,Call.operands,ha])))]
     simp only [List.map_cons,List.map_nil,List.cons.injEq,and_true] at hm
     rw [hm]
     simp [h1]
    ·rename_i hno
     split
     ·rename_i t x h1 h2
      exact absurd rfl (hno t (st.ev a) h1)
     ·rfl
   | cons b bs =>
    simp only [List.map_cons]
    split <;> rename_i h1 h2 <;> first | (simp at h2;done) | (split <;> rename_i h3 h4 <;> first | (simp at h4;done) | rfl)
 ·rename_i args ts
  rw [mapA args (fun x hx=>by simp [Op.operands,Call.operands,hx])]
 ·rename_i args ts
  rw [mapA args (fun x hx=>by simp [Op.operands,Call.operands,hx])]
 ·rfl
end
end Go.Ab
/- Regions whose order is open: whatever order is drawn,the end is that of the text's order. -/
namespace Go.Ab
open Go.RowKit
theorem z676 {m:List (Option Blk)} {x:AV} (h:x.refs=[]) (f:Nat):reach m f x=[]:=by
 cases f <;> simp [reach,h]
theorem z863 {xs:List AV} (h:AV.refsAll xs=[]) {x:AV} (hx:x ∈ xs):x.refs=[]:=by
 obtain⟨i,hi⟩:=List.mem_iff_getElem?.1 hx
 refine List.eq_nil_iff_forall_not_mem.2 fun n hn=>?_
 have:=z199 hi n hn
 rw [h] at this
 cases this
theorem z283 {xs:List AV} {n:Nat} (h:n ∈ AV.refsAll xs):∃ x ∈ xs,n ∈ x.refs:=by
 induction xs with
 | nil=>simp [AV.refsAll] at h
 | cons x xs ih =>
  simp only [AV.refsAll,List.mem_append] at h
  rcases h with h | h
  ·exact⟨x,by simp,h⟩
  ·obtain⟨y,hy,hn⟩:=ih h
   exact⟨y,by simp [hy],hn⟩
theorem z117 {s s':St} {d:Nat} (h:s.m[d]?=s'.m[d]?):s.fresh d=s'.fresh d:=by
 unfold St.fresh
 rw [h]
def LocalE (P:Program) (o:Oper) (s:St) (e:Eff) (N:List Nat):Prop :=
 EffR P o s e∧∀ s':St,(∀ x ∈ o.op.operands,s.ev x=s'.ev x)→Agree N s.m s'.m→EffR P o s' e
section
variable {P:Program} {o:Oper} {s:St}
theorem LocalE.val {x:AV} (hc:isCall o=false) (hn:∀ t a y,o.op≠.store t a y) (h:valOp P o.op s=some x):LocalE P o s ⟨x,none⟩ (footV o.op s) :=
 ⟨.val x hc h hn,fun s' he ha=>.val x hc (by rw [← z759 he ha];exact h) hn⟩
theorem z198 {s s':St} {x:AV} (hx:x.refs=[]):rowOf s x=rowOf s' x:=by
 unfold rowOf
 split
 ·rename_i cs hcs
  congr 1
  refine List.map_congr_left fun y hy=>z144 deep y ?_
  rw [z676]
  ·exact fun n hn=>by cases hn
  ·refine List.eq_nil_iff_forall_not_mem.2 fun n hn=>?_
   have:=z191 hcs hy n hn
   rw [hx] at this
   cases this
 ·rfl
theorem z175 {s s':St} {z:Nat}:∀ {xs:List AV},AV.refsAll xs=[]→rowsOf s z xs=rowsOf s' z xs
 | [],_=>rfl
 | x::xs,h=>by
  simp only [AV.refsAll,List.append_eq_nil_iff] at h
  simp only [rowsOf,z198 (s:=s) (s':=s') h.1,z175 (s:=s) (s':=s') h.2]
theorem LocalE.new {d:Tmp} {b:Blk} (hd:o.dst=some d) (h:newOp P o.op s=some b) (hf:s.fresh d=true):LocalE P o s ⟨nameOf d b,some (d,b)⟩ [d]:=by
 refine⟨.new d b hd h hf,fun s' he ha=>.new d b hd ?_ ?_⟩
 ·unfold newOp at h ⊢
  split at h
  ·exact h
  ·rename_i e x ho
   rw [← he x (by rw [ho];simp [Op.operands])];exact h
  ·rename_i t l c ho
   rw [← he l (by rw [ho];simp [Op.operands]),← he c (by rw [ho];simp [Op.operands])]
   have:opMakeSlice P s' t (s.ev l) (s.ev c)=opMakeSlice P s t (s.ev l) (s.ev c):=by
    unfold opMakeSlice
    simp only [z198 (s:=s') (s':=s) (z291 _)]
   rw [this];exact h
  ·exact h
  ·cases h
 ·rw [← z117 (ha d (by simp))];exact hf
theorem LocalE.lit {d:Tmp} {e z:Nat} {rows:List (List DV)} {t:TypeId} {len:Nat} {parts:Array (Nat × Operand)} (ho:o.op=.buildSlice t len parts) (hd:o.dst=some d) (hf:s.fresh d=true)
  (h:opBuildSlice P s t len (parts.toList.map fun p=>(p.1,s.ev p.2))=some (.arr e z rows)) (hr:AV.refsAll (parts.toList.map fun p=>s.ev p.2)=[]) :
  LocalE P o s ⟨.own d,some (d,.arr e z rows)⟩ [d]:=by
 refine⟨.lit d e z rows t len parts ho hd hf h hr,fun s' he ha=>?_⟩
 have hev:∀ p ∈ parts.toList,s.ev p.2=s'.ev p.2:=fun p hp=>he p.2 (by rw [ho];simp only [Op.operands,List.mem_toArray,List.mem_map];exact⟨p,hp,rfl⟩)
 have e1:(parts.toList.map fun p=>(p.1,s'.ev p.2))=parts.toList.map fun p=>(p.1,s.ev p.2):=List.map_congr_left fun p hp=>by rw [hev p hp]
 have e2:(parts.toList.map fun p=>s'.ev p.2)=parts.toList.map fun p=>s.ev p.2:=List.map_congr_left fun p hp=>by rw [hev p hp]
 have hps:(parts.toList.map fun p=>(p.1,s.ev p.2)).map (·.2)=parts.toList.map fun p=>s.ev p.2:=by simp [Function.comp_def]
 refine .lit d e z rows t len parts ho hd (by rw [← z117 (ha d (by simp))];exact hf) ?_ (by rw [e2];exact hr)
 rw [e1,← h]
 unfold opBuildSlice
 rw [hps,hr]
 simp only [z175 (s:=s') (s':=s) hr,St.arrs]
theorem LocalE.store {t:TypeId} {a x:Operand} {n off:Nat} {row row' cs:List AV} (ho:o.op=.store t a x) (hd:o.dst=none) (ha:s.ev a=.box n off) (hn:s.m[n]?=some (some (.box row)))
  (hx:(s.ev x).cells=some cs) (hl:tsz P t=some cs.length) (hs:splice row off cs=some row'):LocalE P o s ⟨.void,some (n,.box row')⟩ [n]:=by
 refine⟨.store t a x n off row row' cs ho hd ha hn hx hl hs,fun s' he hag=>?_⟩
 exact .store t a x n off row row' cs ho hd (by rw [← he a (by rw [ho];simp [Op.operands])];exact ha) (by rw [← hag n (by simp)];exact hn) (by rw [← he x (by rw [ho];simp [Op.operands])];exact hx) hl hs
theorem LocalE.copy {t t':TypeId} {x y:Operand} {c n:Nat} {b:Blk} (ho:o.op=.call { callee:=.builtin .copy,args:=#[x,y],argTypes:=#[t,t'] }) (h:opCopy P s t (s.ev x) (s.ev y)=some (c,n,b)) :
  LocalE P o s ⟨.d (.int .i64 c),some (n,b)⟩ ((s.ev x).refs++(s.ev y).refs):=by
 refine⟨.copy t t' x y c n b ho h,fun s' he hag=>.copy t t' x y c n b ho ?_⟩
 rw [← he x (by rw [ho];simp [Op.operands,Call.operands]),← he y (by rw [ho];simp [Op.operands,Call.operands]),← z683 (hag.mono fun n hn=>by simp [hn]) (hag.mono fun n hn=>by simp [hn])]
 exact h
theorem LocalE.storeE {t:TypeId} {a x:Operand} {n i off e z:Nat} {rows:List (List DV)} {r r' ds:List DV} {cs:List AV} (ho:o.op=.store t a x) (hd:o.dst=none) (ha:s.ev a=.elem n i off) (hn:s.m[n]?=some (some (.arr e z rows)))
  (hx:(s.ev x).cells=some cs) (hl:tsz P t=some cs.length) (hi:rows[i]?=some r) (hds:allSome (cs.map (reify s.m deep))=some ds) (hs:splice r off ds=some r') (hr:(s.ev x).refs=[]) :
  LocalE P o s ⟨.void,some (n,.arr e z (rows.set i r'))⟩ [n]:=by
 refine⟨.storeE t a x n i off e z rows r r' ds cs ho hd ha hn hx hl hi hds hs hr,fun s' he hag=>?_⟩
 have hex:=he x (by rw [ho];simp [Op.operands])
 have hrow:rowOf s (s.ev x)=rowOf s' (s.ev x):=z198 hr
 refine .storeE t a x n i off e z rows r r' ds cs ho hd (by rw [← he a (by rw [ho];simp [Op.operands])];exact ha) (by rw [← hag n (by simp)];exact hn) (by rw [← hex];exact hx) hl hi ?_ hs (by rw [← hex];exact hr)
 unfold rowOf at hrow
 rw [hx] at hrow
 exact (show allSome (cs.map (reify s.m deep))=allSome (cs.map (reify s'.m deep)) from hrow) ▸ hds
theorem z431 {s':St} {f:Operand} {args:List Operand} (hf:s.ev f=s'.ev f) (ha:∀ x ∈ args,s.ev x=s'.ev x):calleeOf s f args=calleeOf s' f args:=by
 unfold calleeOf
 rw [hf,List.map_congr_left ha]
theorem z742 {s':St} (he:∀ x ∈ o.op.operands,s.ev x=s'.ev x):callOf o s=callOf o s':=by
 unfold callOf
 split
 ·rename_i f args ts ho
  exact z431 (he f (by rw [ho];simp [Op.operands,Call.operands])) (fun x hx=>he x (by rw [ho];simp [Op.operands,Call.operands];exact .inr (by simpa using hx)))
 ·rfl
theorem z421 {s':St} {xs:List AV} (h:Agree (reachAll s xs) s.m s'.m):reifyAll s xs=reifyAll s' xs:=by
 unfold reifyAll
 congr 1
 refine List.map_congr_left fun x hx=>z144 deep x (h.mono fun n hn=>?_)
 simp only [reachAll,List.mem_flatMap]
 exact⟨x,hx,hn⟩
theorem LocalE.call {g:FuncId} {xs:List AV} {e:Eff} (hc:callOf o s=some (g,xs)) (h:CallE P s o.dst g xs e):LocalE P o s e (reachAll s xs++o.dst.toList):=by
 refine⟨.call g xs e hc h,fun s' he ha=>?_⟩
 have hra:=z421 (s':=s') (xs:=xs) (ha.mono fun n hn=>by simp [hn])
 refine .call g xs e (by rw [← z742 he];exact hc) ?_
 cases h with
 | fn ds r hd hf hr=>exact .fn ds r (by rw [← hra];exact hd) hf hr
 | fnS ds e z rows d hdst hd hf hr hfr=>exact .fnS ds e z rows d hdst (by rw [← hra];exact hd) hf hr (by rw [← z117 (ha d (by simp [hdst]))];exact hfr)
 | inPlace n b0 b0' b1 args r hf hn hb hla hag hx =>
  have hnm:n ∈ reachAll s xs++o.dst.toList:=by
   rw [List.mem_append]
   left
   obtain⟨x,hxm,hxn⟩:=z283 hx
   simp only [reachAll,List.mem_flatMap]
   exact⟨x,hxm,by simp [reach,deep,hxn]⟩
  refine .inPlace n b0 b0' b1 args r hf (by rw [← ha n hnm];exact hn) hb hla (fun i x y hi hy=>?_) hx
  rcases hag i x y hi hy with ⟨d,rfl,hr,hn'⟩ | rfl
  ·refine .inl ⟨d,rfl,?_,hn'⟩
   have hx0:x.refs=[]:=List.eq_nil_iff_forall_not_mem.2 fun k hk=>by have:=hn' k hk;simp at this
   rw [← hr]
   exact (z144 deep x (by rw [z676 hx0];exact fun n hn=>by cases hn)).symm
  ·exact .inr rfl
 | inPlaceR n rd b0 b0' b1 args r hf hn hb hla hag hx hrx hrd hsh hfl =>
  have hmem:∀ k,k ∈ AV.refsAll xs→k ∈ reachAll s xs++o.dst.toList:=fun k hk=>by
   rw [List.mem_append]
   left
   obtain⟨x,hxm,hxn⟩:=z283 hk
   simp only [reachAll,List.mem_flatMap]
   exact⟨x,hxm,by simp [reach,deep,hxn]⟩
  refine .inPlaceR n rd b0 b0' b1 args r hf (by rw [← ha n (hmem n hx)];exact hn) hb hla (fun i x y hi hy=>?_) hx hrx hrd (fun k hk row hrow=>hsh k hk row (by rw [ha k (hmem k (hrx k hk))];exact hrow)) hfl
  rcases hag i x y hi hy with ⟨d,rfl,hr,hn'⟩ | rfl
  ·refine .inl ⟨d,rfl,?_,hn'⟩
   rw [← hr]
   refine (z144 deep x (ha.mono fun n hn=>?_)).symm
   rw [List.mem_append]
   left
   simp only [reachAll,List.mem_flatMap]
   exact⟨x,List.mem_of_getElem? hi,hn⟩
  ·exact .inr rfl
end
def guardT (ops:Array Oper) (o:Oper):Option (Option (Tmp × Bool)):=match o.guard with
 | none=>some none
 | some (j,want)=>((ops[j]?).bind (·.dst)).map fun t=>some (t,want)
def EffG (P:Program) (ops:Array Oper) (o:Oper) (s:St) (e:Eff):Prop:=match guardT ops o with
 | none=>False
 | some none=>EffR P o s e
 | some (some (t,want))=>(s.ev (.tmp t)=.d (.bool want)∧EffR P o s e)∨((s.ev (.tmp t)=.d (.bool (!want))∨s.ev (.tmp t)=.void)∧e=⟨.void,none⟩)
def LocalG (P:Program) (ops:Array Oper) (o:Oper) (s:St) (e:Eff) (N:List Nat):Prop :=
 EffG P ops o s e∧∀ s':St,(∀ t ∈ o.looksAt ops,s.ev (.tmp t)=s'.ev (.tmp t))→Agree N s.m s'.m→EffG P ops o s' e
section
variable {P:Program} {ops:Array Oper} {o:Oper} {s:St} {e:Eff} {N:List Nat}
theorem z298 {s':St} (h:∀ t ∈ o.looksAt ops,s.ev (.tmp t)=s'.ev (.tmp t)):∀ x ∈ o.op.operands,s.ev x=s'.ev x:=by
 intro x hx
 cases x with
 | tmp t=>exact h t (List.mem_append_left _ (List.mem_filterMap.2 ⟨.tmp t,by simpa using hx,rfl⟩))
 | const v=>rfl
 | global g=>rfl
 | func f=>rfl
theorem LocalG.plain (hg:o.guard=none) (h:LocalE P o s e N):LocalG P ops o s e N:=by
 have:guardT ops o=some none:=by simp [guardT,hg]
 exact⟨by simp only [EffG,this];exact h.1,fun s' he ha=>by simp only [EffG,this];exact h.2 s' (z298 he) ha⟩
theorem LocalG.taken {j:Nat} {want:Bool} {t:Tmp} (hg:o.guard=some (j,want)) (ht:(ops[j]?).bind (·.dst)=some t) (hv:s.ev (.tmp t)=.d (.bool want)) (h:LocalE P o s e N):LocalG P ops o s e N:=by
 have:guardT ops o=some (some (t,want)):=by simp [guardT,hg,ht]
 have hmem:t ∈ o.looksAt ops:=List.mem_append_right _ (by rw [hg];simp [ht])
 exact⟨by simp only [EffG,this];exact .inl ⟨hv,h.1⟩,fun s' he ha=>by simp only [EffG,this];exact .inl ⟨by rw [← he t hmem];exact hv,h.2 s' (z298 he) ha⟩⟩
theorem LocalG.skipped {j:Nat} {want:Bool} {t:Tmp} (hg:o.guard=some (j,want)) (ht:(ops[j]?).bind (·.dst)=some t) (hv:s.ev (.tmp t)=.d (.bool (!want))∨s.ev (.tmp t)=.void) :
  LocalG P ops o s ⟨.void,none⟩ []:=by
 have:guardT ops o=some (some (t,want)):=by simp [guardT,hg,ht]
 have hmem:t ∈ o.looksAt ops:=List.mem_append_right _ (by rw [hg];simp [ht])
 exact⟨by unfold EffG;rw [this];exact .inr ⟨hv,rfl⟩,fun s' he ha=>by unfold EffG;rw [this];exact .inr ⟨by rw [← he t hmem];exact hv,rfl⟩⟩
theorem EffG.step (h:EffG P ops o s e):StepG P ops o s (s.apply o.dst e):=by
 unfold EffG at h
 unfold StepG
 unfold guardT at h
 cases hg:o.guard with
 | none=>rw [hg] at h;exact h.step
 | some gw =>
  obtain⟨j,want⟩:=gw
  rw [hg] at h
  simp only at h ⊢
  cases ht:(ops[j]?).bind (·.dst) with
  | none=>rw [ht] at h;exact h.elim
  | some t =>
   rw [ht] at h
   refine⟨t,rfl,?_⟩
   rcases h with ⟨h1,h2⟩ | ⟨h1,rfl⟩
   ·exact .inl ⟨h1,h2.step⟩
   ·exact .inr ⟨h1,by cases o.dst <;> rfl⟩
def Eff.name (e:Eff):List Nat:=match e.m with
 | some (n,_)=>[n]
 | none=>[]
theorem z300 {dst:Option Tmp} {t:Tmp} (h:dst≠some t):(s.apply dst e).ev (.tmp t)=s.ev (.tmp t):=by
 cases dst with
 | none=>rfl
 | some d =>
  have hne:d≠t:=fun e=>h (by rw [e])
  simp only [St.ev,St.apply,St.put,List.getD,List.getElem?_set_ne hne]
theorem z895 {dst:Option Tmp} {n:Nat} (h:n ∉ e.name):(s.apply dst e).m[n]?=s.m[n]?:=by
 obtain⟨v,m⟩:=e
 cases m with
 | none=>rfl
 | some nb =>
  obtain⟨k,b⟩:=nb
  simp only [Eff.name,List.mem_singleton] at h
  simp only [St.apply]
  rw [List.getElem?_set_ne (Ne.symm h)]
theorem z266 {d d':Option Tmp} {e e':Eff} (hd:∀ t,d=some t→d'≠some t) (hn:∀ n ∈ e.name,n ∉ e'.name):(s.apply d e).apply d' e'=(s.apply d' e').apply d e:=by
 obtain⟨v,m⟩:=e
 obtain⟨v',m'⟩:=e'
 have ht:((s.apply d ⟨v,m⟩).put d' v').t=((s.apply d' ⟨v',m'⟩).put d v).t:=by
  cases d with
  | none=>cases d' <;> rfl
  | some a =>
   cases d' with
   | none=>rfl
   | some b =>
    have hne:a≠b:=fun e=>hd a rfl (by rw [e])
    simp only [St.apply,St.put]
    exact List.set_comm _ _ hne
 have hm:((s.apply d ⟨v,m⟩).apply d' ⟨v',m'⟩).m=((s.apply d' ⟨v',m'⟩).apply d ⟨v,m⟩).m:=by
  cases m with
  | none=>cases m' <;> rfl
  | some nb =>
   cases m' with
   | none=>rfl
   | some nb' =>
    obtain⟨n,b⟩:=nb
    obtain⟨n',b'⟩:=nb'
    have hne:n≠n':=fun e=>hn n (by simp [Eff.name]) (by simp [Eff.name,e])
    simp only [St.apply]
    exact List.set_comm _ _ hne
 have:∀ (a b:St),a.t=b.t→a.m=b.m→a=b:=by rintro⟨_,_⟩ ⟨_,_⟩ rfl rfl;rfl
 exact this _ _ ht hm
end
end Go.Ab
/- Regions,in the text's order and in every order that may be drawn: soundness. -/
namespace Go.Ab
open Go.RowKit
structure Rec where
 i:Nat
 e:Eff
 N:List Nat
inductive Chain (P:Program) (ops:Array Oper):List Rec→St→St→Prop where
 | nil (s:St):Chain P ops [] s s
 | cons {r:Rec} {rs:List Rec} {s s':St} {o:Oper} (ho:ops[r.i]?=some o) (hd:dstOk o=true) (h:LocalG P ops o s r.e r.N) (ht:Chain P ops rs (s.apply o.dst r.e) s'):Chain P ops (r::rs) s s'
abbrev Rec.key (r:Rec):Nat × List Nat × List Nat:=(r.i,r.e.name,r.N)
def indepB (ops:Array Oper) (a b:Nat × List Nat × List Nat):Bool:=match ops[a.1]?,ops[b.1]? with
 | some x,some y=>x.apart ops y && a.2.1.all (fun n=>!(b.2.2.contains n || b.2.1.contains n)) && b.2.1.all (fun n=>!(a.2.2.contains n || a.2.1.contains n))
 | _,_=>false
inductive Anc (ops:Array Oper):Nat→Nat→Prop where
 | edge {j:Nat} {o:Oper} {e:Edge} (ho:ops[j]?=some o) (he:e ∈ o.after) (hb:Region.binds .any e=true):Anc ops e.on j
 | step {i k j:Nat} (h:Anc ops i k) (h':Anc ops k j):Anc ops i j
def maskOf (acc:List Nat) (es:List Edge):Nat:=match es with
 | []=>0
 | e::es=>if Region.binds .any e then (2 ^ e.on ||| acc.getD e.on 0) ||| maskOf acc es else maskOf acc es
def masks:List Oper→List Nat→List Nat
 | [],acc=>acc
 | o::os,acc=>masks os (acc++[maskOf acc o.after.toList])
def pairsB (ops:Array Oper) (ms:List Nat):List (Nat × List Nat × List Nat)→Bool
 | []=>true
 | a::l=>l.all (fun b=>(ms.getD b.1 0).testBit a.1 || indepB ops a b) && pairsB ops ms l
def backB (ops:Array Oper):Bool:=ops.toList.zipIdx.all fun x=>x.1.after.toList.all fun e=>!Region.binds .any e || decide (e.on<x.2)
section
variable {P:Program} {ops:Array Oper}
theorem z200 {acc:List Nat} {j:Nat} {o:Oper} (ho:ops[j]?=some o) (hacc:∀ k i,(acc.getD k 0).testBit i=true→Anc ops i k) :
  ∀ (es:List Edge),(∀ e ∈ es,e ∈ o.after)→∀ i,(maskOf acc es).testBit i=true→Anc ops i j
 | [],_,i,h=>by simp [maskOf] at h
 | e::es,hes,i,h=>by
  simp only [maskOf] at h
  split at h
  ·rename_i hb
   simp only [Nat.testBit_or,Bool.or_eq_true,Nat.testBit_two_pow,decide_eq_true_eq] at h
   rcases h with (h | h) | h
   ·subst h;exact .edge ho (hes e (by simp)) hb
   ·exact .step (hacc _ _ h) (.edge ho (hes e (by simp)) hb)
   ·exact z200 ho hacc es (fun e he=>hes e (by simp [he])) i h
  ·exact z200 ho hacc es (fun e he=>hes e (by simp [he])) i h
theorem z107:∀ (os:List Oper) (acc:List Nat),(∀ k i,(acc.getD k 0).testBit i=true→Anc ops i k)→(∀ k o,os[k]?=some o→ops[acc.length + k]?=some o) →
  ∀ k i,((masks os acc).getD k 0).testBit i=true→Anc ops i k
 | [],acc,h,_=>h
 | o::os,acc,h,hos=>by
  refine z107 os _ (fun k i hk=>?_) (fun k o' hk=>?_)
  ·simp only [List.getD,List.getElem?_append] at hk
   split at hk
   ·exact h k i (by simpa [List.getD] using hk)
   ·rename_i hlt
    cases hkk:k - acc.length with
    | zero =>
     rw [hkk] at hk
     simp at hk
     have:k=acc.length:=by omega
     subst this
     exact z200 (by simpa using hos 0 o (by simp)) h _ (fun e he=>by simpa using he) i hk
    | succ q=>rw [hkk] at hk;simp at hk
  ·have:=hos (k + 1) o' (by simpa using hk)
   simp only [List.length_append,List.length_singleton]
   rw [show acc.length + 1 + k=acc.length + (k + 1) by omega]
   exact this
theorem z1364 {a b:Rec} {s s':St} {rs:List Rec} (hi:indepB ops a.key b.key=true) (h:Chain P ops (a::b::rs) s s'):Chain P ops (b::a::rs) s s':=by
 cases h with
 | cons ho hd h ht =>
 rename_i x
 cases ht with
 | cons ho' hd' h' ht =>
 rename_i y
 simp only [indepB,ho,ho',Bool.and_eq_true,List.all_eq_true,Bool.not_eq_true',Bool.or_eq_false_iff,List.contains_eq_mem,decide_eq_false_iff_not] at hi
 obtain⟨⟨h1,h2⟩,h3⟩:=hi
 obtain⟨a1,a2,a3⟩:=Oper.apart_spec h1
 -- b first
 have hev1:∀ t ∈ y.looksAt ops,(s.apply x.dst a.e).ev (.tmp t)=s.ev (.tmp t):=fun t ht=>z300 (fun hd=>a1 t hd ht)
 have hm1:Agree b.N (s.apply x.dst a.e).m s.m:=fun n hn=>z895 (fun hc=>(h2 n hc).1 hn)
 have hb:LocalG P ops y s b.e b.N:=⟨h'.2 s hev1 hm1,fun s2 he2 ha2=>h'.2 s2 (fun t ht=>(hev1 t ht).trans (he2 t ht)) (fun n hn=>(hm1 n hn).trans (ha2 n hn))⟩
 -- then a
 have hev2:∀ t ∈ x.looksAt ops,s.ev (.tmp t)=(s.apply y.dst b.e).ev (.tmp t):=fun t ht=>(z300 (fun hd=>a3 t hd ht)).symm
 have hm2:Agree a.N s.m (s.apply y.dst b.e).m:=fun n hn=>(z895 (fun hc=>(h3 n hc).1 hn)).symm
 have ha:LocalG P ops x (s.apply y.dst b.e) a.e a.N:=⟨h.2 _ hev2 hm2,fun s2 he2 ha2=>h.2 s2 (fun t ht=>(hev2 t ht).trans (he2 t ht)) (fun n hn=>(hm2 n hn).trans (ha2 n hn))⟩
 refine .cons ho' hd' hb (.cons ho hd ha ?_)
 rw [← z266 (fun t hd hd2=>a2 t hd hd2) (fun n hn=>(h2 n hn).2)]
 exact ht
theorem z919 {r:Rec} {B:List Rec} {s':St}:∀ (A:List Rec) (s:St),(∀ a ∈ A,indepB ops a.key r.key=true)→Chain P ops (A++r::B) s s'→Chain P ops (r::(A++B)) s s'
 | [],_,_,h=>h
 | a::A,s,hi,h=>by
  cases h with
  | cons ho hd h ht =>
  have:=z919 A _ (fun b hb=>hi b (by simp [hb])) ht
  exact z1364 (hi a (by simp)) (.cons ho hd h this)
end
section
variable {P:Program} {base:Own} {out:Own} {st st':St} {μ:Pl} {tmps:Array Value} {w:World} {o:Oper} {rd:Option Nat} {n:Nat} {ops:Array Oper} {Q:Exit→Act→World→Prop}
theorem z237 (h:StRel P base out st μ tmps w) {t:Tmp} {x:AV} (hx:st.ev (.tmp t)=x) (hne:x≠.undef):∃ v,tmps[t]?=some v∧AVRel w (ownOf out μ) μ x v:=by
 have ht:t<st.t.length:=by
  rcases Nat.lt_or_ge t st.t.length with h1 | h1
  ·exact h1
  ·exfalso
   apply hne
   rw [← hx]
   simp [St.ev,List.getD,List.getElem?_eq_none h1]
 have ht':t<tmps.size:=by rw [h.size];exact ht
 refine⟨tmps[t],by simp [ht'],h.tmp t x tmps[t] ?_ (by simp [ht'])⟩
 rw [← hx]
 simp [St.ev,List.getD,ht]
def opDsts:List Oper→List Nat
 | []=>[]
 | o::os=>match o.dst with
  | some d=>d::opDsts os
  | none=>opDsts os
def Same (ds:List Nat) (t t':Array Value):Prop:=t'.size=t.size∧∀ i:Nat,i ∉ ds→t'[i]?=t[i]?
theorem Same.refl (ds:List Nat) (t:Array Value):Same ds t t:=⟨rfl,fun _ _=>rfl⟩
theorem Same.trans {ds:List Nat} {a b c:Array Value} (h:Same ds a b) (h':Same ds b c):Same ds a c:=⟨h'.1.trans h.1,fun i hi=>(h'.2 i hi).trans (h.2 i hi)⟩
theorem Same.mono {ds ds':List Nat} {a b:Array Value} (h:Same ds a b) (hs:∀ i,i ∈ ds→i ∈ ds'):Same ds' a b:=⟨h.1,fun i hi=>h.2 i fun hc=>hi (hs i hc)⟩
theorem Same.cons {o:Oper} {os:List Oper} {a b c:Array Value} (h:Same o.dst.toList a b) (h':Same (opDsts os) b c):Same (opDsts (o::os)) a c :=
 Same.trans (h.mono fun i hi=>by unfold opDsts;cases ho:o.dst <;> simp_all) (h'.mono fun i hi=>by unfold opDsts;cases o.dst <;> simp [hi])
theorem Same.within {ds ds':List Nat} {a b c:Array Value} (h:Same ds a b) (h':Same ds' b c) (hs:∀ i,i ∈ ds→i ∈ ds'):Same ds' a c:=(h.mono hs).trans h'
theorem z247 {o:Oper}:∀ {os:List Oper},o ∈ os→∀ i,i ∈ o.dst.toList→i ∈ opDsts os
 | [],h,_,_=>by cases h
 | p::os,h,i,hi=>by
  unfold opDsts
  rcases List.mem_cons.1 h with rfl | h
  ·cases ho:o.dst <;> simp_all
  ·have:=z247 h i hi
   cases p.dst <;> simp [this]
theorem z44 (t:Array Value) (dst:Option Tmp) (v:Value):Same dst.toList t (putT t dst v):=⟨by cases dst <;> simp [putT],fun i hi=>by
 cases dst with
 | none=>rfl
 | some d =>
  have:d≠i:=fun e=>hi (by simp [e])
  simp [putT,this]⟩
theorem z65 (h:StRel P base out st μ tmps w) {i:Nat} (ho:ops[i]?=some o) (hdst:dstOk o=true) (hs:StepG P ops o st st') {ds:List Deferred} {K:Act→World→Prop}
  (hK:∀ tmps' μ' w',StRel P base out st' μ' tmps' w'→KeepO base (ownOf out μ) w (ownOf out μ') w'→Same (o.dst.toList) tmps tmps'→K { tmps:=tmps',defers:=ds } w') :
  wpOpIn (fence rd) n P ops Q i K { tmps:=tmps,defers:=ds } w:=by
 unfold wpOpIn
 simp only [ho]
 unfold StepG at hs
 cases hg:o.guard with
 | none =>
  rw [hg] at hs
  have:Region.wanted o (yielded ops tmps)=true:=by simp [Region.wanted,hg]
  simp only [this,if_true]
  exact z444 h hdst hs (fun v μ' w' h1 h2=>hK _ μ' w' h1 h2 (z44 tmps o.dst v))
 | some gw =>
  obtain⟨j,want⟩:=gw
  rw [hg] at hs
  obtain⟨t,ht,hs⟩:=hs
  have hy:∀ u,tmps[t]?=some u→yielded ops tmps j=(match u with | .bool b=>some b | _=>none):=by
   intro u hu
   unfold yielded
   rw [ht]
   simp only [Option.bind_some,hu]
   cases u <;> rfl
  rcases hs with ⟨h1,h2⟩ | ⟨h1,rfl⟩
  ·obtain⟨v,hv,hr⟩:=z237 h h1 (by simp)
   have hb:=z57 hr
   subst hb
   have:Region.wanted o (yielded ops tmps)=true:=by simp [Region.wanted,hg,hy _ hv]
   simp only [this,if_true]
   exact z444 h hdst h2 (fun v μ' w' h1 h2=>hK _ μ' w' h1 h2 (z44 tmps o.dst v))
  ·have:Region.wanted o (yielded ops tmps)=false:=by
    rcases h1 with h1 | h1
    ·obtain⟨v,hv,hr⟩:=z237 h h1 (by simp)
     have hb:=z57 hr
     subst hb
     simp only [Region.wanted,hg,hy _ hv]
     cases want <;> rfl
    ·obtain⟨v,hv,hr⟩:=z237 h h1 (by simp)
     cases hr
     simp [Region.wanted,hg,hy _ hv,Go.undef]
   simp only [this,Bool.false_eq_true,if_false]
   refine⟨fun _ _=>trivial,?_⟩
   rw [z78]
   exact hK _ μ w (h.put .void o.dst) (KeepO.refl _ _ _) (z44 tmps o.dst _)
inductive Seq (P:Program) (ops:Array Oper):List Oper→St→St→Prop where
 | nil (s:St):Seq P ops [] s s
 | cons {o:Oper} {os:List Oper} {s s1 s':St} (hd:dstOk o=true) (h:StepG P ops o s s1) (ht:Seq P ops os s1 s'):Seq P ops (o::os) s s'
theorem z1047:∀ (os:List Oper) (k:Nat) (st:St) (μ:Pl) (tmps:Array Value) (w:World),(∀ i o,os[i]?=some o→ops[k + i]?=some o)→Seq P ops os st st'→StRel P base out st μ tmps w→∀ {ds:List Deferred},
  (∀ tmps' μ' w',StRel P base out st' μ' tmps' w'→KeepO base (ownOf out μ) w (ownOf out μ') w'→Same (opDsts os) tmps tmps'→Q .normal { tmps:=tmps',defers:=ds } w') →
  wpOpsIn (fence rd) n P ops Q (List.range' k os.length) { tmps:=tmps,defers:=ds } w
 | [],k,st,μ,tmps,w,_,hs,h,ds,hK=>by
  cases hs
  exact hK _ μ w h (KeepO.refl _ _ _) (Same.refl _ _)
 | o::os,k,st,μ,tmps,w,hos,hs,h,ds,hK=>by
  cases hs with
  | cons hd h1 ht =>
  rw [List.length_cons,List.range'_succ,wpOpsIn_cons]
  refine z65 h (by simpa using hos 0 o (by simp)) hd h1 (fun tmps' μ' w' h2 hB hS=>?_)
  exact z1047 os (k + 1) _ μ' tmps' w' (fun i o' hi=>by have:=hos (i + 1) o' (by simpa using hi);rwa [show k + 1 + i=k + (i + 1) by omega]) ht h2
   (fun tmps2 μ2 w2 h3 hB2 hS2=>hK tmps2 μ2 w2 h3 (hB.trans hB2) (hS.cons hS2))
theorem z985 (hs:Seq P ops ops.toList st st') (h:StRel P base out st μ tmps w) {id:Nat} {ds:List Deferred}
  (hK:∀ tmps' μ' w',StRel P base out st' μ' tmps' w'→KeepO base (ownOf out μ) w (ownOf out μ') w'→Same (opDsts ops.toList) tmps tmps'→Q .normal { tmps:=tmps',defers:=ds } w') :
  (Code.region id ops false).wpIn (fence rd) n P Q { tmps:=tmps,defers:=ds } w:=by
 refine wpIn_region ?_
 have:=z1047 (n:=n) (rd:=rd) (Q:=Q) ops.toList 0 st μ tmps w (fun i o hi=>by simpa using hi) hs h (ds:=ds) hK
 rw [List.range_eq_range']
 simpa using this
theorem z138 (hb:backB ops=true) {j:Nat} {o:Oper} (ho:ops[j]?=some o) {e:Edge} (he:e ∈ o.after) (hbi:Region.binds .any e=true):e.on<j:=by
 simp only [backB,List.all_eq_true] at hb
 have hm:(o,j) ∈ ops.toList.zipIdx:=by
  rw [List.mem_iff_getElem?]
  exact⟨j,by simp [List.getElem?_zipIdx,ho]⟩
 have:=hb _ hm e (by simpa using he)
 simpa [hbi] using this
theorem z1272 {ρ:Type} (ix:ρ→Nat) (I:ρ→ρ→Prop) (C:List ρ→St→St→Prop) (hCn:∀ s s',C [] s s'→s=s')
  (hCc:∀ r rs s s',C (r::rs) s s'→∃ o s1,ops[ix r]?=some o∧dstOk o=true∧StepG P ops o s s1∧C rs s1 s') (hCb:∀ r B s s' A,(∀ a ∈ A,I a r)→C (A++r::B) s s'→C (r::(A++B)) s s')
  (hback:backB ops=true) {ds:List Deferred}:∀ (fuel:Nat) (listed:Array Bool) (rs:List ρ) (st:St) (μ:Pl) (tmps:Array Value) (w:World),
  rs.length≤fuel→(rs.map ix).Pairwise (·<·)→listed.size=ops.size→(∀ i,i ∈ rs.map ix↔listed[i]?=some false) →
  (∀ (k:Nat) o,ops[k]?=some o→listed[k]?=some true→∀ e ∈ o.after,Region.binds .any e=true→listed[e.on]?=some true) →
  rs.Pairwise (fun a b=>Anc ops (ix a) (ix b)∨I a b)→C rs st st'→StRel P base out st μ tmps w →
  (∀ tmps' μ' w',StRel P base out st' μ' tmps' w'→KeepO base (ownOf out μ) w (ownOf out μ') w'→Same (opDsts ops.toList) tmps tmps'→Q .normal { tmps:=tmps',defers:=ds } w') →
  wpAnyIn (fence rd) n P .any ops Q fuel listed { tmps:=tmps,defers:=ds } w:=by
 intro fuel
 induction fuel with
 | zero =>
  intro listed rs st μ tmps w hlen hsort hsize hmem hclosed hpairs hchain h hK
  have hnil:rs=[]:=List.eq_nil_of_length_eq_zero (by omega)
  subst hnil
  obtain rfl:=hCn _ _ hchain
  refine⟨?_,hK tmps μ w h (KeepO.refl _ _ _) (Same.refl _ _)⟩
  refine List.eq_nil_iff_forall_not_mem.2 fun j hj=>?_
  obtain⟨h1,o,ho,_⟩:=mem_ready.1 hj
  have hjl:j<listed.size:=by rw [hsize];exact (Array.getElem?_eq_some_iff.1 ho).1
  have:listed[j]?=some false:=by
   simp [hjl] at h1 ⊢
   exact h1
  have:=(hmem j).2 this
  simp at this
 | succ fuel ih =>
  intro listed rs st μ tmps w hlen hsort hsize hmem hclosed hpairs hchain h hK
  refine⟨fun hready=>?_,fun i hi=>?_⟩
  ·cases rs with
   | nil=>obtain rfl:=hCn _ _ hchain;exact hK tmps μ w h (KeepO.refl _ _ _) (Same.refl _ _)
   | cons r rs =>
    exfalso
    obtain⟨o,s1,ho,hd,hl,ht⟩:=hCc _ _ _ _ hchain
    have hun:=(hmem (ix r)).1 (by simp)
    have:ix r ∈ Region.ready .any ops listed:=by
     refine mem_ready.2 ⟨by simp [hun],o,ho,fun e he hb=>?_⟩
     have hlt:=z138 hback ho he hb
     have hel:e.on<listed.size:=by
      rw [hsize]
      have:=(Array.getElem?_eq_some_iff.1 ho).1
      omega
     have hnot:e.on ∉ (r::rs).map ix:=by
      simp only [List.map_cons,List.mem_cons,not_or]
      refine⟨by omega,fun hc=>?_⟩
      simp only [List.map_cons,List.pairwise_cons] at hsort
      have:=hsort.1 _ hc
      omega
     have hb':listed[e.on]≠false:=fun hc=>hnot ((hmem e.on).2 (by simp [hel,hc]))
     simp [hel]
     simpa using hb'
    rw [hready] at this
    cases this
  ·obtain⟨h1,o,ho,hall⟩:=mem_ready.1 hi
   have hil:i<listed.size:=by rw [hsize];exact (Array.getElem?_eq_some_iff.1 ho).1
   have hun:listed[i]?=some false:=by
    simp [hil] at h1 ⊢
    exact h1
   have hin:=(hmem i).2 hun
   simp only [List.mem_map] at hin
   obtain⟨r,hr,rfl⟩:=hin
   obtain⟨A,B,rfl⟩:=List.append_of_mem hr
   have hanc:∀ a b,Anc ops a b→listed[b]?=some true∨b=ix r→listed[a]?=some true:=by
    intro a b hab
    induction hab with
    | edge ho' he hb =>
     rintro (hk | rfl)
     ·exact hclosed _ _ ho' hk _ he hb
     ·rw [ho] at ho'
      cases ho'
      have:=hall _ he hb
      simp only [Array.getD_eq_getD_getElem?] at this
      cases hk:listed[(_:Nat)]? with
      | none=>rw [hk] at this;cases this
      | some b=>rw [hk] at this;simp at this;rw [this]
    | step h1 h2 ih1 ih2=>intro hk;exact ih1 (.inl (ih2 hk))
   have hA:∀ a ∈ A,I a r:=by
    intro a ha
    rw [List.pairwise_append] at hpairs
    rcases hpairs.2.2 a ha r (by simp) with hc | hc
    ·exfalso
     have h2:=hanc _ _ hc (.inr rfl)
     have h3:=(hmem (ix a)).1 (by simp only [List.mem_map];exact⟨a,by simp [ha],rfl⟩)
     rw [h2] at h3
     cases h3
    ·exact hc
   obtain⟨o',s1,ho',hd,hl,ht⟩:=hCc _ _ _ _ (hCb r B st st' A hA hchain)
   rw [ho] at ho'
   cases ho'
   refine z65 h ho hd hl (fun tmps' μ' w' h2 hB hS=>?_)
   have hsub:(A++B).Sublist (A++r::B):=List.Sublist.append_left (List.sublist_cons_self r B) A
   refine ih (listed.setIfInBounds (ix r) true) (A++B) _ μ' tmps' w' (by simp at hlen ⊢;omega) (hsort.sublist (hsub.map _)) (by simp [hsize]) (fun k=>?_) (fun k o' hk hlk e he hb=>?_) (hpairs.sublist hsub) ht h2
    (fun tmps2 μ2 w2 h3 hB2 hS2=>hK tmps2 μ2 w2 h3 (hB.trans hB2) (hS.within hS2 (z247 (os:=ops.toList) (by simpa using Array.mem_of_getElem? ho))))
   ·rw [Array.getElem?_setIfInBounds]
    by_cases hk:ix r=k
    ·subst hk
     simp only [if_true,hil]
     constructor
     ·intro hc
      exfalso
      rw [List.map_append,List.pairwise_append] at hsort
      simp only [List.map_append,List.mem_append] at hc
      rcases hc with hc | hc
      ·have:=hsort.2.2 _ hc (ix r) (by simp);omega
      ·have:=hsort.2.1
       simp only [List.map_cons,List.pairwise_cons] at this
       have:=this.1 _ hc;omega
     ·intro hc;cases hc
    ·rw [if_neg hk,← hmem k]
     simp only [List.map_append,List.map_cons,List.mem_append,List.mem_cons]
     constructor
     ·rintro (hc | hc)
      ·exact .inl hc
      ·exact .inr (.inr hc)
     ·rintro (hc | rfl | hc)
      ·exact .inl hc
      ·exact absurd rfl hk
      ·exact .inr hc
   ·have hon:listed[e.on]?=some true:=by
     rw [Array.getElem?_setIfInBounds] at hlk
     by_cases hkr:ix r=k
     ·subst hkr
      rw [ho] at hk
      cases hk
      have:=hall e he hb
      simp only [Array.getD_eq_getD_getElem?] at this
      cases hk2:listed[e.on]? with
      | none=>rw [hk2] at this;cases this
      | some b=>rw [hk2] at this;simp at this;rw [this]
     ·rw [if_neg hkr] at hlk
      exact hclosed k o' hk hlk e he hb
    rw [Array.getElem?_setIfInBounds]
    split
    ·first | rfl | (split <;> simp_all)
    ·exact hon
theorem z187 (hm:∀ k i,((masks ops.toList []).getD k 0).testBit i=true→Anc ops i k):∀ {rs:List Rec},pairsB ops (masks ops.toList []) (rs.map Rec.key)=true→rs.Pairwise (fun a b=>Anc ops a.i b.i∨indepB ops a.key b.key=true)
 | [],_=>.nil
 | a::rs,h=>by
  simp only [List.map_cons,pairsB,Bool.and_eq_true,List.all_eq_true,List.mem_map,forall_exists_index,and_imp,forall_apply_eq_imp_iff₂,Bool.or_eq_true] at h
  refine .cons (fun b hb=>?_) (z187 hm h.2)
  rcases h.1 b hb with h1 | h1
  ·exact .inl (hm _ _ h1)
  ·exact .inr h1
theorem z282 {ρ:Type} (ix:ρ→Nat) (I:ρ→ρ→Prop) (C:List ρ→St→St→Prop) (hCn:∀ s s',C [] s s'→s=s')
  (hCc:∀ r rs s s',C (r::rs) s s'→∃ o s1,ops[ix r]?=some o∧dstOk o=true∧StepG P ops o s s1∧C rs s1 s') (hCb:∀ r B s s' A,(∀ a ∈ A,I a r)→C (A++r::B) s s'→C (r::(A++B)) s s')
  (hfol:P.follows .mixedOrders=true) (hback:backB ops=true) {rs:List ρ} (hi:rs.map ix=List.range ops.size) (hp:rs.Pairwise (fun a b=>Anc ops (ix a) (ix b)∨I a b))
  (hc:C rs st st') (h:StRel P base out st μ tmps w) {id:Nat} {ds:List Deferred}
  (hK:∀ tmps' μ' w',StRel P base out st' μ' tmps' w'→KeepO base (ownOf out μ) w (ownOf out μ') w'→Same (opDsts ops.toList) tmps tmps'→Q .normal { tmps:=tmps',defers:=ds } w') :
  (Code.region id ops true).wpIn (fence rd) n P Q { tmps:=tmps,defers:=ds } w:=by
 refine wpIn_region_any hfol ?_
 have hB0:Below w.heap.size w { w with drawn:=w.drawn + 1 }:=(Below.refl _ w).drew
 have hlen:rs.length=ops.size:=by have:=congrArg List.length hi;simpa using this
 refine z1272 ix I C hCn hCc hCb hback ops.size _ rs st μ tmps _ (by omega) (by rw [hi];exact List.pairwise_lt_range) (by simp) (fun i=>?_) (fun k o ho hk=>?_)
  hp hc (h.below hB0) (fun tmps' μ' w' h1 hB hS=>hK tmps' μ' w' h1 ((KeepO.below hB0 h.le).trans hB) hS)
 ·rw [hi]
  simp only [List.mem_range,Array.getElem?_replicate]
  split <;> simp_all
 ·simp only [Array.getElem?_replicate] at hk
  split at hk <;> simp at hk
theorem z862 (hfol:P.follows .mixedOrders=true) (hback:backB ops=true) {rs:List Rec} (hi:rs.map (·.i)=List.range ops.size) (hp:pairsB ops (masks ops.toList []) (rs.map Rec.key)=true)
  (hc:Chain P ops rs st st') (h:StRel P base out st μ tmps w) {id:Nat} {ds:List Deferred}
  (hK:∀ tmps' μ' w',StRel P base out st' μ' tmps' w'→KeepO base (ownOf out μ) w (ownOf out μ') w'→Same (opDsts ops.toList) tmps tmps'→Q .normal { tmps:=tmps',defers:=ds } w') :
  (Code.region id ops true).wpIn (fence rd) n P Q { tmps:=tmps,defers:=ds } w :=
 z282 (·.i) (fun a b=>indepB ops a.key b.key=true) (Chain P ops) (fun _ _ h=>by cases h;rfl)
  (fun r rs s s' h=>by cases h with | cons ho hd hl ht=>exact⟨_,_,ho,hd,hl.1.step,ht⟩) (fun r B s s' A hA h=>z919 A s hA h) hfol hback hi
  (z187 (fun k i=>z107 ops.toList [] (fun k i hk=>by simp at hk) (fun k o hk=>by simpa using hk) k i) hp) hc h hK
end
end Go.Ab
/- Code,on abstract states: what a walk must come to,and its rules. -/
namespace Go.Ab
open Go.RowKit
abbrev Env:=Option Nat→Own→Own→World→Prop
def Stays (w:World) (own:Own) (w':World) (own':Own):Prop:=w.heap.size≤w'.heap.size∧∀ b,b<w.heap.size→¬ own b→w'.heap[b]?=w.heap[b]?∧¬ own' b
theorem Stays.refl (w:World) (own:Own):Stays w own w own:=⟨Nat.le_refl _,fun _ _ ho=>⟨rfl,ho⟩⟩
theorem Stays.trans {a b c:World} {o1 o2 o3:Own} (h:Stays a o1 b o2) (h':Stays b o2 c o3):Stays a o1 c o3 :=
 ⟨Nat.le_trans h.1 h'.1,fun k hk ho=>let ⟨p1,p2⟩:=h.2 k hk ho;let ⟨p3,p4⟩:=h'.2 k (Nat.lt_of_lt_of_le hk h.1) p2;⟨p3.trans p1,p4⟩⟩
theorem Stays.less {w:World} {own own':Own} (h:∀ b,own' b→own b):Stays w own w own':=⟨Nat.le_refl _,fun b _ ho=>⟨rfl,fun hc=>ho (h b hc)⟩⟩
theorem Stays.goes {w w':World} {own own':Own} (h:Stays w own w' own'):Goes w own w' own':=fun b o v h1 h2=>by
 obtain⟨h3,h4⟩:=h.2 b h2.lt h1
 exact⟨h4,h2.heap h3⟩
def Marked (B:Nat) (own:Own) (ds:List Deferred) (w:World):Prop :=
 B≤w.heap.size∧∃ rs:List Nat,ds=rs.map (fun r=>{ target:=.collected r,args:=#[] })∧rs.Nodup∧∀ r ∈ rs,B≤r∧¬ own r∧w.heap[r]?=some (.deferred (some []))
theorem Marked.nil {B:Nat} {own:Own} {w:World} (h:B≤w.heap.size):Marked B own [] w:=⟨h,[],rfl,.nil,fun _ h=>by cases h⟩
theorem Marked.stays {B:Nat} {own own':Own} {ds:List Deferred} {w w':World} (h:Marked B own ds w) (hs:Stays w own w' own'):Marked B own' ds w' :=
 let ⟨h0,rs,h1,h2,h3⟩:=h
 ⟨Nat.le_trans h0 hs.1,rs,h1,h2,fun r hr=>let ⟨p1,p2,p3⟩:=h3 r hr;let ⟨q1,q2⟩:=hs.2 r (Array.getElem?_eq_some_iff.1 p3).1 p2;⟨p1,q2,q1.trans p3⟩⟩
structure Other (b:Nat) (w w':World):Prop where
 wrote:Wrote b w w'
 no:∀ cs ty x,w.heap[b]?≠some (.cells cs ty x)
 noM:∀ es c,w.heap[b]?≠some (.map es c)
def EnvOk (B:Nat) (J:Env):Prop:=∀ k b o w w' r,B≤r→¬ o r→Other r w w'→J k b o w→J k b o w'
def dsts:Code→List Nat
 | .region _ ops _=>opDsts ops.toList
 | .seq a b=>dsts a++dsts b
 | .cond _ a b=>dsts a++dsts b
 | .block _ c=>dsts c
 | .loop c=>dsts c
 | .scope c=>dsts c
 | .rangeFunc _ ps a b=>ps.toList++(dsts a++dsts b)
 | _=>[]
def Ends (P:Program) (J:Env) (B:Nat) (D:List Nat) (own:Own) (tmps:Array Value) (w:World) (Q:Exit→Option Nat→St→Prop) (e:Exit) (a:Act) (w':World):Prop :=
 ∃ k' st' base' out' μ',StRel P base' out' st' μ' a.tmps w'∧(∀ w'',BelowU base' w' w''→J k' base' out' w'')∧Marked B (ownOf out' μ') a.defers w' ∧
  Stays w own w' (ownOf out' μ')∧Same D tmps a.tmps∧Q e k' st'
def Walk (P:Program) (rd:Option Nat) (n:Nat) (J:Env) (c:Code) (k:Option Nat) (st:St) (Q:Exit→Option Nat→St→Prop):Prop :=
 ∀ B base out μ tmps w ds,EnvOk B J→StRel P base out st μ tmps w→(∀ w',BelowU base w w'→J k base out w')→Marked B (ownOf out μ) ds w →
  c.wpIn (fence rd) n P (Ends P J B (dsts c) (ownOf out μ) tmps w Q) { tmps:=tmps,defers:=ds } w
section
variable {P:Program} {rd:Option Nat} {n:Nat} {J:Env} {c x y:Code} {k:Option Nat} {st:St} {Q Q':Exit→Option Nat→St→Prop}
theorem Ends.mono {B:Nat} {D D':List Nat} {own:Own} {tmps:Array Value} {w:World} {e:Exit} {a:Act} {w':World} (h:Ends P J B D own tmps w Q e a w') (hD:∀ i,i ∈ D→i ∈ D') (hq:∀ k s,Q e k s→Q' e k s) :
  Ends P J B D' own tmps w Q' e a w' :=
 let ⟨k',st',base',out',μ',h1,h2,h3,h4,h5,h6⟩:=h
 ⟨k',st',base',out',μ',h1,h2,h3,h4,h5.mono hD,hq _ _ h6⟩
theorem Ends.andThen {B:Nat} {D D' D2:List Nat} {own own1:Own} {tmps tmps1:Array Value} {w w1:World} {e:Exit} {a:Act} {w':World}
  (hs:Stays w own w1 own1) (hS:Same D tmps tmps1)
  (h:Ends P J B D2 own1 tmps1 w1 Q e a w') (hD:∀ i,i ∈ D→i ∈ D') (hD2:∀ i,i ∈ D2→i ∈ D'):Ends P J B D' own tmps w Q e a w' :=
 let ⟨k',st',base',out',μ',h1,h2,h3,h4,h5,h6⟩:=h
 ⟨k',st',base',out',μ',h1,h2,h3,hs.trans h4,(hS.mono hD).trans (h5.mono hD2),h6⟩
theorem z46 (h:Walk P rd n J c k st Q) (hq:∀ e k s,Q e k s→Q' e k s):Walk P rd n J c k st Q' :=
 fun B base out μ tmps w ds hO hA hJ hM=>wpIn_mono (h B base out μ tmps w ds hO hA hJ hM) fun _ _ _ he=>he.mono (fun _ h=>h) (fun k s=>hq _ k s)
theorem Ends.now {B:Nat} {D:List Nat} {base:Own} {out:Own} {μ:Pl} {tmps:Array Value} {w:World} {ds:List Deferred} {e:Exit} (hA:StRel P base out st μ tmps w) (hJ:∀ w',BelowU base w w'→J k base out w') (hM:Marked B (ownOf out μ) ds w) (h:Q e k st) :
  Ends P J B D (ownOf out μ) tmps w Q e { tmps:=tmps,defers:=ds } w:=⟨k,st,base,out,μ,hA,hJ,hM,.refl _ _,Same.refl _ _,h⟩
theorem z1028 (h:Q .normal k st):Walk P rd n J .skip k st Q:=fun B base out μ tmps w ds hO hA hJ hM=>wpIn_skip (.now hA hJ hM h)
theorem z1029 {id:Nat} (h:Q (.exit id) k st):Walk P rd n J (.exit id) k st Q:=fun B base out μ tmps w ds hO hA hJ hM=>wpIn_exit (.now hA hJ hM h)
theorem z1123 (h:Q .ret k st):Walk P rd n J .ret k st Q:=fun B base out μ tmps w ds hO hA hJ hM=>wpIn_ret (.now hA hJ hM h)
def thenA (K:Option Nat→St→Prop) (Q:Exit→Option Nat→St→Prop):Exit→Option Nat→St→Prop
 | .normal=>K
 | e=>Q e
theorem z1122 (h:Walk P rd n J x k st (thenA (fun k s=>Walk P rd n J y k s Q) Q)):Walk P rd n J (.seq x y) k st Q:=fun B base out μ tmps w ds hO hA hJ hM=>by
 refine wpIn_seq (wpIn_mono (h B base out μ tmps w ds hO hA hJ hM) ?_)
 rintro e a w' he
 cases e with
 | normal =>
  obtain⟨k',st',base',out',μ',h1,h2,h3,h4,h5,h6⟩:=he
  exact wpIn_mono (h6 B base' out' μ' a.tmps w' a.defers hO h1 h2 h3) fun e a2 w2 he=>he.andThen h4 h5 (fun i hi=>by simp [dsts,hi]) (fun i hi=>by simp [dsts,hi])
 | _=>exact he.mono (fun i hi=>by simp [dsts,hi]) (fun _ _ h=>h)
def blockA (id:Nat) (Q:Exit→Option Nat→St→Prop):Exit→Option Nat→St→Prop
 | .exit i=>if i=id then Q .normal else Q (.exit i)
 | e=>Q e
theorem z929 {id:Nat} (h:Walk P rd n J c k st (blockA id Q)):Walk P rd n J (.block id c) k st Q:=fun B base out μ tmps w ds hO hA hJ hM=>by
 refine wpIn_block (wpIn_mono (h B base out μ tmps w ds hO hA hJ hM) ?_)
 rintro e a w' ⟨k',st',base',out',μ',h1,h2,h3,h4,h5,h6⟩
 cases e with
 | exit id' =>
  simp only [Exit.inBlock,blockA] at h6 ⊢
  by_cases hid:id'=id
  ·rw [if_pos hid] at h6 ⊢;exact⟨k',st',base',out',μ',h1,h2,h3,h4,h5,h6⟩
  ·rw [if_neg hid] at h6 ⊢;exact⟨k',st',base',out',μ',h1,h2,h3,h4,h5,h6⟩
 | _=>exact⟨k',st',base',out',μ',h1,h2,h3,h4,h5,h6⟩
theorem z305 {o:Operand} {b:Bool} (hc:st.ev o=.d (.bool b)) (h1:b=true→Walk P rd n J x k st Q) (h2:b=false→Walk P rd n J y k st Q):Walk P rd n J (.cond o x y) k st Q :=
 fun B base out μ tmps w ds hO hA hJ hM=>by
  have he:=hA.ev o ds
  rw [hc] at he
  refine wpIn_cond_split (t:=b) (z57 he) (fun hb=>wpIn_mono (h1 hb B base out μ tmps w ds hO hA hJ hM) ?_) (fun hb=>wpIn_mono (h2 hb B base out μ tmps w ds hO hA hJ hM) ?_)
  ·exact fun _ _ _ h=>h.mono (fun i hi=>by simp [dsts,hi]) (fun _ _ h=>h)
  ·exact fun _ _ _ h=>h.mono (fun i hi=>by simp [dsts,hi]) (fun _ _ h=>h)
def Weak (st st':St):Prop:=∀ (P:Program) (base:Own) (out:Own) (μ:Pl) (tmps:Array Value) (w:World),StRel P base out st μ tmps w→∃ μ',StRel P base out st' μ' tmps w∧∀ b,ownOf out μ' b→ownOf out μ b
theorem Weak.refl (st:St):Weak st st:=fun _ _ _ μ _ _ h=>⟨μ,h,fun _ hb=>hb⟩
theorem Weak.trans {a b c:St} (h:Weak a b) (h':Weak b c):Weak a c:=fun P base out μ tmps w hs =>
 let ⟨μ',h1,h2⟩:=h P base out μ tmps w hs
 let ⟨μ2,h3,h4⟩:=h' P base out μ' tmps w h1
 ⟨μ2,h3,fun b hb=>h2 b (h4 b hb)⟩
theorem z567 {st':St} (hw:Weak st st') (h:Walk P rd n J c k st' Q):Walk P rd n J c k st Q:=fun B base out μ tmps w ds hO hA hJ hM=>by
 obtain⟨μ',h1,hsub⟩:=hw P base out μ tmps w hA
 refine wpIn_mono (h B base out μ' tmps w ds hO h1 hJ (hM.stays (.less hsub))) fun e a w' he=>?_
 exact he.andThen (D:=[]) (.less hsub) (Same.refl _ _) (fun _ h=>by cases h) (fun _ h=>h)
theorem z572 {α:Type} (f:α→St) (I:Option Nat→α→Prop) (m:Option Nat→α→Nat) (a:α) (hw:Weak st (f a)) (h0:I k a)
  (h:∀ k a,I k a→Walk P rd n J c k (f a) (thenA (fun k' s=>∃ a',Weak s (f a')∧I k' a'∧m k' a'<m k a) Q)):Walk P rd n J (.loop c) k st Q:=z567 hw fun B base0 out0 μ0 tmps0 w0 ds0 hO hA0 hJ0 hM0=>by
 have key:∀ (j:Nat) (k:Option Nat) (a:α) base out μ tmps w ds,m k a=j→I k a→StRel P base out (f a) μ tmps w→(∀ w',BelowU base w w'→J k base out w')→Marked B (ownOf out μ) ds w →
   Stays w0 (ownOf out0 μ0) w (ownOf out μ)→Same (dsts c) tmps0 tmps →
   ∀ b k' cs,b.roundOf=(fence rd).round→(fence rd).fn b.fn→(fence rd).room (cs.length + 1 + n) →
   ∃ e a' w',Ends P J B (dsts c) (ownOf out0 μ0) tmps0 w0 Q e a' w' ∧
    ArrivesIn (Machine.fenced P (fence rd)) P (lone (b.atR { tmps:=tmps,defers:=ds } (.code c::.inLoop c::k')) cs w) b k' cs e a' w':=by
  intro j
  induction j using Nat.strongRecOn with
  | _ j ih =>
   intro k a base out μ tmps w ds hj hI hA hJ hM hst hS b kk cs hro hb hr
   obtain⟨e,a1,w1,he,harr⟩:=h k a hI B base out μ tmps w ds hO hA hJ hM b (.inLoop c::kk) cs hro hb hr
   cases e with
   | normal =>
    obtain⟨k1,s1,base1,out1,μ1,hA1,hJ1,hM1,hst1,hS1,hq⟩:=he
    obtain⟨a2,hw2,hI2,hlt⟩:=hq
    obtain⟨μ2,hA2,hsub⟩:=hw2 P base1 out1 μ1 a1.tmps w1 hA1
    obtain⟨e2,a3,w3,hq3,harr3⟩:=ih (m k1 a2) (hj ▸ hlt) k1 a2 base1 out1 μ2 a1.tmps w1 a1.defers rfl hI2 hA2 hJ1 (hM1.stays (.less hsub)) ((hst.trans hst1).trans (.less hsub)) (hS.trans hS1) b kk cs hro hb hr
    exact⟨e2,a3,w3,hq3,.of_steps (StepsIn.trans harr (.one (fenced_calm hb hr rfl) stepR_inLoop)) harr3⟩
   | exit id=>exact⟨_,a1,w1,Ends.andThen (Q:=Q) hst hS he (fun _ h=>h) (fun _ h=>h),.pass (x:=.inLoop c) rfl (fun _ _=>.inl (by simp)) harr⟩
   | goto l=>exact⟨_,a1,w1,Ends.andThen (Q:=Q) hst hS he (fun _ h=>h) (fun _ h=>h),.pass (x:=.inLoop c) rfl (fun _ _=>.inl (by simp)) harr⟩
   | ret=>exact⟨_,a1,w1,Ends.andThen (Q:=Q) hst hS he (fun _ h=>h) (fun _ h=>h),.pass (x:=.inLoop c) rfl (fun _ _=>.inl (by simp)) harr⟩
   | panic ch=>exact⟨_,a1,w1,Ends.andThen (Q:=Q) hst hS he (fun _ h=>h) (fun _ h=>h),.pass (x:=.inLoop c) rfl (fun _ _=>.inl (by simp)) harr⟩
   | outgrown=>exact⟨_,a1,w1,Ends.andThen (Q:=Q) hst hS he (fun _ h=>h) (fun _ h=>h),.pass (x:=.inLoop c) rfl (fun _ _=>.inl (by simp)) harr⟩
 intro b kk cs hro hb hr
 obtain⟨e,a',w',hq,harr⟩:=key _ k a base0 out0 μ0 tmps0 w0 ds0 rfl h0 hA0 hJ0 hM0 (.refl _ _) (Same.refl _ _) b kk cs hro hb hr
 exact⟨e,a',w',hq,.of_steps (.one (fenced_calm hb hr rfl) stepR_loop) harr⟩
end
end Go.Ab
/- Regions,as propositions that can be computed. -/
namespace Go.Ab
open Go.RowKit
def bindK {α:Type} (x:Option α) (K:α→Prop):Prop:=∃ a,x=some a∧K a
theorem z1018 {α:Type} (a:α) (K:α→Prop):bindK (some a) K=K a:=by simp [bindK]
theorem z1019 {α:Type} (K:α→Prop):bindK none K=False:=by simp [bindK]
theorem z1112 {α:Type} (c:Prop) [Decidable c] (a:Option α) (K:α→Prop):bindK (if c then a else none) K=(c∧bindK a K):=by
 by_cases h:c <;> simp [bindK,h]
theorem z1111 {α β:Type} (f:α→β) (a:Option α) (K:β→Prop):bindK (a.map f) K=bindK a (fun x=>K (f x)):=by
 cases a <;> simp [bindK]
def guardK (x:AV) (want:Bool) (A B:Prop):Prop:=match x with
 | .d (.bool b)=>(b=want→A)∧(b=!want→B)
 | .void=>B
 | _=>False
def callK (P:Program) (s:St) (dst:Option Tmp) (g:FuncId) (xs:List AV) (K:St→Prop):Prop:=∃ s',CallR P s dst g xs s'∧K s'
def stepK (P:Program) (o:Oper) (s:St) (K:St→Prop):Prop:=match isCall o with
 | true=>bindK (callOf o s) fun gx=>callK P s o.dst gx.1 gx.2 K
 | false=>bindK (stepOp P o s) K
theorem z77 {P:Program} {o:Oper} {s:St} {K:St→Prop} (h:stepK P o s K):∃ s',StepR P o s s'∧K s':=by
 unfold stepK at h
 cases hc:isCall o with
 | true =>
  rw [hc] at h
  obtain⟨gx,h1,s',h2,h3⟩:=h
  exact⟨s',.inl ⟨gx.1,gx.2,h1,h2⟩,h3⟩
 | false =>
  rw [hc] at h
  obtain⟨s',h1,h2⟩:=h
  exact⟨s',.inr (.inl ⟨hc,h1⟩),h2⟩
def guardedK (P:Program) (t:AV) (want:Bool) (o:Oper) (s:St) (K:St→Prop):Prop:=guardK t want (stepK P o s K) (K (s.put o.dst .void))
def guardRun (P:Program) (t:AV) (want:Bool) (o:Oper) (s:St) (R:St→Prop):Prop:=∀ K':St→Prop,(∀ s,R s→K' s)→guardedK P t want o s K'
def runK (P:Program) (ops:Array Oper):List Oper→St→(St→Prop)→Prop
 | [],s,K=>K s
 | o::os,s,K=>dstOk o=true∧match guardT ops o with
  | none=>False
  | some none=>stepK P o s fun s=>runK P ops os s K
  | some (some (t,want))=>guardRun P (s.ev (.tmp t)) want o s fun s=>runK P ops os s K
section
variable {P:Program} {rd:Option Nat} {n:Nat} {J:Env} {k:Option Nat} {st:St} {ops:Array Oper} {Q:Exit→Option Nat→St→Prop}
theorem z93 {o:Oper} (h:guardT ops o=some none):o.guard=none:=by
 unfold guardT at h
 split at h
 ·assumption
 ·rw [Option.map_eq_some_iff] at h;obtain⟨_,_,h⟩:=h;cases h
theorem z82 {o:Oper} {t:Tmp} {want:Bool} (h:guardT ops o=some (some (t,want))):∃ j,o.guard=some (j,want)∧(ops[j]?).bind (·.dst)=some t:=by
 unfold guardT at h
 split at h
 ·cases h
 ·rename_i j w hg
  rw [Option.map_eq_some_iff] at h
  obtain⟨t',h1,h2⟩:=h
  cases h2
  exact⟨j,hg,h1⟩
theorem z95:∀ (os:List Oper) (s:St) (K:St→Prop),runK P ops os s K→∃ s',Seq P ops os s s'∧K s'
 | [],s,_,h=>⟨s,.nil s,h⟩
 | o::os,s,K,h=>by
  obtain⟨hd,h⟩:=h
  cases hg:guardT ops o with
  | none=>rw [hg] at h;exact h.elim
  | some g =>
   rw [hg] at h
   cases g with
   | none =>
    obtain⟨s1,h1,h2⟩:=z77 h
    obtain⟨s',h3,h4⟩:=z95 os s1 K h2
    exact⟨s',.cons hd (by unfold StepG;rw [z93 hg];exact h1) h3,h4⟩
   | some tw =>
    obtain⟨t,want⟩:=tw
    obtain⟨j,hj,ht⟩:=z82 hg
    have h:=h _ fun s hs=>z95 os s K hs
    unfold guardedK guardK at h
    split at h
    ·rename_i b hev
     by_cases hb:b=want
     ·obtain⟨s1,h1,s',h3,h4⟩:=z77 (h.1 hb)
      exact⟨s',.cons hd (by unfold StepG;rw [hj];exact⟨t,ht,.inl ⟨by rw [hev,hb],h1⟩⟩) h3,h4⟩
     ·have hb':b=!want:=by cases b <;> cases want <;> simp_all
      obtain⟨s',h3,h4⟩:=h.2 hb'
      exact⟨s',.cons hd (by unfold StepG;rw [hj];exact⟨t,ht,.inr ⟨.inl (by rw [hev,hb']),rfl⟩⟩) h3,h4⟩
    ·rename_i hev
     obtain⟨s',h3,h4⟩:=h
     exact⟨s',.cons hd (by unfold StepG;rw [hj];exact⟨t,ht,.inr ⟨.inr hev,rfl⟩⟩) h3,h4⟩
    ·exact h.elim
theorem Ends.step {B:Nat} {D:List Nat} {base:Own} {out:Own} {μ μ':Pl} {tmps tmps':Array Value} {w w':World} {st':St} {ds:List Deferred} {e:Exit} (hJ:∀ w',BelowU base w w'→J k base out w') (h:StRel P base out st' μ' tmps' w')
  (hk:KeepO base (ownOf out μ) w (ownOf out μ') w') (hS:Same D tmps tmps') (hM:Marked B (ownOf out μ) ds w) (hq:Q e k st'):Ends P J B D (ownOf out μ) tmps w Q e { tmps:=tmps',defers:=ds } w' :=
 ⟨k,st',base,out,μ',h,fun w'' h2=>hJ w'' (hk.keep.below.trans h2),hM.stays ⟨hk.keep.below.size,hk.stays⟩,⟨hk.keep.below.size,hk.stays⟩,hS,hq⟩
theorem z751 {id:Nat} (h:runK P ops ops.toList st (Q .normal k)):Walk P rd n J (.region id ops false) k st Q:=fun B base out μ tmps w ds _ hst hJ hM=>by
 obtain⟨s',h1,h2⟩:=z95 _ _ _ h
 exact z985 h1 hst fun tmps' μ' w' h3 hk hS=>.step hJ h3 hk hS hM h2
abbrev Key:=Nat × List Nat × List Nat
def callEK (P:Program) (s:St) (dst:Option Tmp) (g:FuncId) (xs:List AV) (K:Eff→Prop):Prop:=∃ e,CallE P s dst g xs e∧K e
def contE (C:Eff→List Nat→Prop) (N:List Nat) (e:Eff):Prop:=C e N
def contV (C:Eff→List Nat→Prop) (N:List Nat) (x:AV):Prop:=C ⟨x,none⟩ N
def effK (P:Program) (o:Oper) (s:St) (C:Eff→List Nat→Prop):Prop:=match o.op with
 | .call { callee:=.value _,.. }=>bindK (callOf o s) fun gx=>callEK P s o.dst gx.1 gx.2 (contE C (reachAll s gx.2++o.dst.toList))
 | .alloc .. | .box .. | .makeSlice ..=>bindK o.dst fun d=>bindK (newOp P o.op s) fun b=>s.fresh d=true∧C ⟨nameOf d b,some (d,b)⟩ [d]
 | .buildSlice t len parts=>bindK o.dst fun d=>bindK (opBuildSlice P s t len (parts.toList.map fun p=>(p.1,s.ev p.2))) fun b =>
   AV.refsAll (parts.toList.map fun p=>s.ev p.2)=[]∧s.fresh d=true∧match b with
    | .arr e z rows=>C ⟨.own d,some (d,.arr e z rows)⟩ [d]
    | _=>False
 | .store t a x=>o.dst=none∧match s.ev a with
  | .box nm off=>match s.m[nm]? with
   | some (some (.box row))=>bindK (s.ev x).cells fun cs=>tsz P t=some cs.length∧bindK (splice row off cs) fun row'=>C ⟨.void,some (nm,.box row')⟩ [nm]
   | _=>False
  | .elem nm i off=>match s.m[nm]? with
   | some (some (.arr e z rows))=>bindK (s.ev x).cells fun cs=>tsz P t=some cs.length∧bindK (rows[i]?) fun r=>bindK (allSome (cs.map (reify s.m deep))) fun ds=>bindK (splice r off ds) fun r'=>(s.ev x).refs=[]∧C ⟨.void,some (nm,.arr e z (rows.set i r'))⟩ [nm]
   | _=>False
  | _=>False
 | .call { callee:=.builtin .copy,args,argTypes }=>match argTypes.toList,args.toList with
  | [t,_],[x,y]=>bindK (opCopy P s t (s.ev x) (s.ev y)) fun r=>C ⟨.d (.int .i64 r.1),some (r.2.1,r.2.2)⟩ ((s.ev x).refs++(s.ev y).refs)
  | _,_=>False
 | _=>bindK (valOp P o.op s) (contV C (footV o.op s))
theorem z230 {o:Oper} {s:St} {C:Eff→List Nat→Prop} (h:effK P o s C):∃ e N,LocalE P o s e N∧C e N:=by
 unfold effK at h
 split at h
 ·obtain⟨gx,h1,e,h2,h3⟩:=h
  exact⟨e,_,.call h1 h2,h3⟩
 ·obtain⟨d,h1,b,h2,h3,h4⟩:=h;exact⟨_,_,.new h1 h2 h3,h4⟩
 ·obtain⟨d,h1,b,h2,h3,h4⟩:=h;exact⟨_,_,.new h1 h2 h3,h4⟩
 ·obtain⟨d,h1,b,h2,h3,h4⟩:=h;exact⟨_,_,.new h1 h2 h3,h4⟩
 ·rename_i ho
  obtain⟨d,h1,b,h2,h3,h4,h5⟩:=h
  split at h5
  ·exact⟨_,_,.lit ho h1 h4 h2 h3,h5⟩
  ·exact h5.elim
 ·rename_i ho
  obtain⟨h1,h⟩:=h
  split at h
  ·rename_i ha
   split at h
   ·rename_i hn
    obtain⟨cs,h2,h3,row',h4,h5⟩:=h
    exact⟨_,_,.store ho h1 ha hn h2 h3 h4,h5⟩
   ·exact h.elim
  ·rename_i ha
   split at h
   ·rename_i hn
    obtain⟨cs,h2,h3,r,h4,ds,h5,r',h6,h7,h8⟩:=h
    exact⟨_,_,.storeE ho h1 ha hn h2 h3 h4 h5 h6 h7,h8⟩
   ·exact h.elim
  ·exact h.elim
 ·rename_i ho
  split at h
  ·rename_i hts hargs
   obtain⟨r,h1,h2⟩:=h
   have e1:=z76 hts
   have e2:=z76 hargs
   subst e1;subst e2
   exact⟨_,_,.copy ho h1,h2⟩
  ·exact h.elim
 ·rename_i h1 h2 h3 h4 h5 h6 _
  obtain⟨x,h7,h8⟩:=h
  refine⟨_,_,.val ?_ h6 h7,h8⟩
  unfold isCall
  split
  ·rename_i ho;exact absurd ho (h1 _ _ _)
  ·rfl
def guardedE (P:Program) (t:AV) (want:Bool) (o:Oper) (s:St) (C:Eff→List Nat→Prop):Prop:=guardK t want (effK P o s C) (C ⟨.void,none⟩ [])
def guardRunE (P:Program) (t:AV) (want:Bool) (o:Oper) (s:St) (R:Eff→List Nat→Prop):Prop:=∀ K':Eff→List Nat→Prop,(∀ e N,R e N→K' e N)→guardedE P t want o s K'
def runD (P:Program) (ops:Array Oper):List Oper→Nat→List Key→St→(St→Prop)→Prop
 | [],_,acc,s,K=>pairsB ops (masks ops.toList []) acc.reverse=true∧K s
 | o::os,i,acc,s,K=>dstOk o=true∧match guardT ops o with
  | none=>False
  | some none=>effK P o s fun e N=>runD P ops os (i + 1) ((i,e.name,N)::acc) (s.apply o.dst e) K
  | some (some (t,want))=>guardRunE P (s.ev (.tmp t)) want o s fun e N=>runD P ops os (i + 1) ((i,e.name,N)::acc) (s.apply o.dst e) K
theorem z130:∀ (os:List Oper) (i:Nat) (acc:List Key) (s:St) (K:St→Prop),(∀ j o,os[j]?=some o→ops[i + j]?=some o)→runD P ops os i acc s K →
  ∃ rs s',Chain P ops rs s s'∧rs.map (·.i)=List.range' i os.length∧pairsB ops (masks ops.toList []) (acc.reverse++rs.map Rec.key)=true∧K s'
 | [],i,acc,s,K,_,h=>⟨[],s,.nil s,rfl,by simpa using h.1,h.2⟩
 | o::os,i,acc,s,K,hos,h=>by
  obtain⟨hd,h⟩:=h
  have hos':∀ j o',os[j]?=some o'→ops[i + 1 + j]?=some o':=fun j o' hj=>by have:=hos (j + 1) o' (by simpa using hj);rwa [show i + 1 + j=i + (j + 1) by omega]
  have ho:ops[i]?=some o:=by simpa using hos 0 o (by simp)
  have fin:∀ (e:Eff) (N:List Nat),LocalG P ops o s e N→(∃ rs s',Chain P ops rs (s.apply o.dst e) s'∧rs.map (·.i)=List.range' (i + 1) os.length∧pairsB ops (masks ops.toList []) (((i,e.name,N)::acc).reverse++rs.map Rec.key)=true∧K s') →
    ∃ rs s',Chain P ops rs s s'∧rs.map (·.i)=List.range' i (o::os).length∧pairsB ops (masks ops.toList []) (acc.reverse++rs.map Rec.key)=true∧K s':=by
   rintro e N hl ⟨rs,s',h1,h2,h3,h4⟩
   refine⟨⟨i,e,N⟩::rs,s',.cons ho hd hl h1,by simp [h2,List.range'_succ],?_,h4⟩
   simpa using h3
  cases hg:guardT ops o with
  | none=>rw [hg] at h;exact h.elim
  | some g =>
   rw [hg] at h
   cases g with
   | none =>
    obtain⟨e,N,h1,h2⟩:=z230 h
    exact fin e N (.plain (z93 hg) h1) (z130 os (i + 1) _ _ K hos' h2)
   | some tw =>
    obtain⟨t,want⟩:=tw
    obtain⟨j,hj,ht⟩:=z82 hg
    have h:=h _ fun e N hs=>z130 os (i + 1) _ _ K hos' hs
    unfold guardedE guardK at h
    split at h
    ·rename_i b hev
     by_cases hb:b=want
     ·obtain⟨e,N,h1,h2⟩:=z230 (h.1 hb)
      exact fin e N (.taken hj ht (by rw [hev,hb]) h1) h2
     ·have hb':b=!want:=by cases b <;> cases want <;> simp_all
      exact fin _ _ (.skipped hj ht (.inl (by rw [hev,hb']))) (h.2 hb')
    ·rename_i hev
     exact fin _ _ (.skipped hj ht (.inr hev)) h
    ·exact h.elim
theorem z928 {id:Nat} (hfol:P.follows .mixedOrders=true) (hback:backB ops=true) (h:runD P ops ops.toList 0 [] st (Q .normal k)):Walk P rd n J (.region id ops true) k st Q:=fun B base out μ tmps w ds _ hst hJ hM=>by
 obtain⟨rs,s',h1,h2,h3,h4⟩:=z130 _ _ _ _ _ (fun j o hj=>by simpa using hj) h
 exact z862 hfol hback (by rw [h2,List.range_eq_range'];simp) (by simpa using h3) h1 hst fun tmps' μ' w' h5 hk hS=>.step hJ h5 hk hS hM h4
end
end Go.Ab
/- A function's contract out of the walk of its body;states that tell less. -/
namespace Go.Ab
open Go.RowKit
section
variable {P:Program} {base:Own} {out:Own} {st st':St} {μ:Pl} {tmps:Array Value} {w w':World}
theorem Other.goes {b:Nat} (h:Other b w w') (own:Own):Goes w own w' own:=fun k o v h1 h2=>by
 refine⟨h1,?_⟩
 have hk:k≠b:=fun e=>by
  rcases h2.block with ⟨cs,ty,x,hc⟩ | ⟨es,c,hc⟩
  ·exact h.no cs ty x (e ▸ hc)
  ·exact h.noM es c (e ▸ hc)
 exact h2.heap (h.wrote.block k hk)
theorem StRel.other {b:Nat} (h:StRel P base out st μ tmps w) (ho:Other b w w'):StRel P base out st μ tmps w':=by
 have hg:=ho.goes (ownOf out μ)
 refine⟨h.size,fun i x v h1 h2=>(h.tmp i x v h1 h2).goes hg (fun _ _ _=>rfl),⟨fun n blk hn=>?_,h.mem.dom,h.mem.inj,fun n b z l c hb=>by rw [ho.wrote.size];exact h.mem.base n b z l c hb⟩,h.hid.goes hg,h.out,by rw [ho.wrote.size];exact h.le⟩
 have hb:=h.mem.blk n blk hn
 have key:∀ (k:Nat) cs ty x,w.heap[k]?=some (Obj.cells cs ty x)→w'.heap[k]?=some (Obj.cells cs ty x):=fun k cs ty x hk=>by
  rw [ho.wrote.block k (fun e=>ho.no cs ty x (e ▸ hk))];exact hk
 cases blk with
 | box row =>
  obtain⟨b,cs,ty,h1,h2,h3,h4⟩:=hb
  exact⟨b,cs,ty,h1,key _ _ _ _ h2,h3,fun j x v hx hv=>⟨(h4 j x v hx hv).1,(h4 j x v hx hv).2.goes hg (fun _ _ _=>rfl)⟩⟩
 | arr e z rows =>
  rcases hb with hb | ⟨b,cap,cs,h1,h2,h3,h4,h5,h6,h7⟩
  ·exact .inl hb
  ·exact .inr ⟨b,cap,cs,h1,key _ _ _ _ h2,h3,h4,h5,h6,fun i r j d hi hj=>let ⟨v,p,q,r⟩:=h7 i r j d hi hj;⟨v,p,q,r.goes hg⟩⟩
 | arrP e z rows =>
  obtain⟨b,cap,cs,h1,h2,h3,h4,h5,h6,h7⟩:=hb
  exact⟨b,cap,cs,h1,key _ _ _ _ h2,h3,h4,h5,h6,fun i r j d hi hj=>let ⟨v,p,q,r⟩:=h7 i r j d hi hj;⟨v,p,q,r.goes hg⟩⟩
 | arrA e z rows =>
  rcases hb with hb | ⟨b,cap,cs,h1,h2,h3,h4,h5,h6,h7⟩
  ·exact .inl hb
  ·exact .inr ⟨b,cap,cs,h1,key _ _ _ _ h2,h3,h4,h5,h6,fun i r j d hi hj=>let ⟨v,p,q,r⟩:=h7 i r j d hi hj;⟨v,p,q,r.goes hg (fun _ _ _=>rfl)⟩⟩
 | mp kk es clock =>
  obtain⟨b,mes,h1,h2,h3,h4⟩:=hb
  exact⟨b,mes,h1,by rw [ho.wrote.block b (fun e=>ho.noM mes clock (e ▸ h2))];exact h2,h3,fun i e m hi hm=>⟨(h4 i e m hi hm).1,(h4 i e m hi hm).2.1,(h4 i e m hi hm).2.2.goes hg⟩⟩
theorem z1079 (h:StRel P base out st μ tmps w) {t:TypeId} {a:Operand} {r:AV} (hs:opLoad P st t (st.ev a)=some r) :
  ∃ v p,val tmps a=.pointer (some p)∧(loadVar t p).run P w=.ok v w∧AVRel w (ownOf out μ) μ r v:=by
 have ha:=h.ev a []
 unfold opLoad at hs
 split at hs
 ·rename_i g size hg hsz
  split at hs
  ·rename_i x hx
   obtain rfl:x=r:=by simpa using hs
   split at hx
   ·rename_i n off hev
    rw [hev] at ha
    obtain⟨b,z,l,c,hμ,hv⟩:=z72 ha
    split at hx
    ·rename_i row hn
     obtain⟨v,hr,hxv⟩:=z217 hg hsz (z744 h.mem hn hμ) hx
     exact⟨v,_,hv,by rw [Nat.zero_add] at hr;exact hr,hxv⟩
    ·cases hx
   ·rename_i row off hev
    rw [hev] at ha
    obtain⟨b,x0,hv,f,hc,hd⟩:=z202 ha
    obtain⟨v,hr,hxv⟩:=z189 (μ:=μ) hg hsz (fun j y hy=>⟨f j,(hc j y hy).2.1,hd j y hy⟩) hx
    exact⟨v,_,hv,hr,hxv⟩
   ·rename_i n i off hev
    rw [hev] at ha
    obtain⟨b,z,l,c,hμ,hv⟩:=z152 ha
    split at hx
    ·rename_i e z' rows hn
     split at hx
     ·rename_i r hi
      obtain⟨v,hr,hxv⟩:=z189 (μ:=μ) hg hsz (z749 h.mem hn hμ hi) hx
      exact⟨v,_,hv,hr,hxv⟩
     ·cases hx
    ·rename_i e z' rows hn
     split at hx
     ·rename_i r hi
      obtain⟨v,hr,hxv⟩:=z217 hg hsz (z486 h.mem hn hμ hi) hx
      exact⟨v,_,hv,hr,hxv⟩
     ·cases hx
    ·cases hx
   ·cases hx
  ·cases hs
 ·cases hs
def resA (P:Program) (s:St):ResultVar→Option AV
 | .tmp t=>some (s.ev (.tmp t))
 | .cell a t=>opLoad P s t (s.ev (.tmp a))
def retA:List AV→AV
 | [x]=>x
 | xs=>.tup xs
def resultsA (P:Program) (s:St) (rs:Array ResultVar):Option AV:=(allSome (rs.toList.map (resA P s))).map retA
def semR (tmps:Array Value) (r:ResultVar):Sem Value:=match r with
 | .tmp t=>pure (tmps.getD t undef)
 | .cell a t=>do loadVar t (← asAddr (tmps.getD a undef))
theorem z85 (h:StRel P base out st μ tmps w) {r:ResultVar} {x:AV} (hx:resA P st r=some x):∃ v,(semR tmps r).run P w=.ok v w∧AVRel w (ownOf out μ) μ x v:=by
 cases r with
 | tmp t=>cases hx;exact⟨_,rfl,h.ev (.tmp t) []⟩
 | cell a t =>
  obtain⟨v,p,h1,h2,h3⟩:=z1079 h hx
  refine⟨v,?_,h3⟩
  have:tmps.getD a undef=.pointer (some p):=h1
  simp [semR,this,asAddr,h2]
theorem z536 (h:StRel P base out st μ tmps w) {fn:Func} {x:AV} (hx:resultsA P st fn.results=some x) (h4:fn.results.size≤4) :
  ∃ v,(results fn tmps).run P w=.ok v w∧AVRel w (ownOf out μ) μ x v:=by
 unfold resultsA at hx
 rw [Option.map_eq_some_iff] at hx
 obtain⟨xs,hxs,rfl⟩:=hx
 obtain⟨hl,hget⟩:=z15 hxs
 have hres:results fn tmps=(do let vs ← fn.results.mapM (semR tmps);pure (if h:vs.size=1 then vs[0] else .tuple vs)):=rfl
 obtain⟨l,hrl⟩:∃ l,fn.results=List.toArray l:=⟨fn.results.toList,by simp⟩
 rw [hrl] at h4 hl hget
 simp only [List.size_toArray] at h4
 rw [hres,hrl]
 have hl:l.length=xs.length:=by simpa using hl
 have get:∀ i r,l[i]?=some r→∃ x,xs[i]?=some x∧resA P st r=some x:=fun i r hi=>by
  have hlt:i<xs.length:=by
   have:=(List.getElem?_eq_some_iff.1 hi).1
   omega
  have h1:=hget i xs[i] (List.getElem?_eq_getElem hlt)
  exact⟨xs[i],List.getElem?_eq_getElem hlt,by simpa [hi] using h1⟩
 match l,h4,hl,get with
 | [],_,hl,_ =>
  have:xs=[]:=List.length_eq_zero_iff.1 hl.symm
  subst this
  exact⟨.tuple #[],by simp,.tup _ _ rfl (fun i x v hx=>by simp at hx)⟩
 | [a],_,hl,get =>
  obtain⟨x,hx,hra⟩:=get 0 a rfl
  obtain⟨v,hv,hrel⟩:=z85 h hra
  match xs,hl,hx with
  | [y],_,hx =>
   cases hx
   exact⟨v,by simp [hv],hrel⟩
 | [a,b],_,hl,get =>
  obtain⟨x,hx,hra⟩:=get 0 a rfl
  obtain⟨y,hy,hrb⟩:=get 1 b rfl
  obtain⟨v,hv,hrel⟩:=z85 h hra
  obtain⟨u,hu,hrel'⟩:=z85 h hrb
  match xs,hl,hx,hy with
  | [_,_],_,hx,hy =>
   cases hx;cases hy
   refine⟨.tuple #[v,u],by simp [hv,hu],.tup _ _ rfl (fun i x v hx hv=>?_)⟩
   rcases i with _ | _ | i <;> simp at hx hv
   ·obtain rfl:=hx;obtain rfl:=hv;exact hrel
   ·obtain rfl:=hx;obtain rfl:=hv;exact hrel'
 | [a,b,c],_,hl,get =>
  obtain⟨x,hx,hra⟩:=get 0 a rfl
  obtain⟨y,hy,hrb⟩:=get 1 b rfl
  obtain⟨z,hz,hrc⟩:=get 2 c rfl
  obtain⟨v,hv,hrel⟩:=z85 h hra
  obtain⟨u,hu,hrel'⟩:=z85 h hrb
  obtain⟨t,ht,hrel''⟩:=z85 h hrc
  match xs,hl,hx,hy,hz with
  | [_,_,_],_,hx,hy,hz =>
   cases hx;cases hy;cases hz
   refine⟨.tuple #[v,u,t],by simp [hv,hu,ht],.tup _ _ rfl (fun i x v hx hv=>?_)⟩
   rcases i with _ | _ | _ | i <;> simp at hx hv
   ·obtain rfl:=hx;obtain rfl:=hv;exact hrel
   ·obtain rfl:=hx;obtain rfl:=hv;exact hrel'
   ·obtain rfl:=hx;obtain rfl:=hv;exact hrel''
 | [a,b,c,d],_,hl,get =>
  obtain⟨x,hx,hra⟩:=get 0 a rfl
  obtain⟨y,hy,hrb⟩:=get 1 b rfl
  obtain⟨z,hz,hrc⟩:=get 2 c rfl
  obtain⟨q,hq,hrd⟩:=get 3 d rfl
  obtain⟨v,hv,hrel⟩:=z85 h hra
  obtain⟨u,hu,hrel'⟩:=z85 h hrb
  obtain⟨t,ht,hrel''⟩:=z85 h hrc
  obtain⟨s,hs,hrel'''⟩:=z85 h hrd
  match xs,hl,hx,hy,hz,hq with
  | [_,_,_,_],_,hx,hy,hz,hq =>
   cases hx;cases hy;cases hz;cases hq
   refine⟨.tuple #[v,u,t,s],by simp [hv,hu,ht,hs],.tup _ _ rfl (fun i x v hx hv=>?_)⟩
   rcases i with _ | _ | _ | _ | i <;> simp at hx hv
   ·obtain rfl:=hx;obtain rfl:=hv;exact hrel
   ·obtain rfl:=hx;obtain rfl:=hv;exact hrel'
   ·obtain rfl:=hx;obtain rfl:=hv;exact hrel''
   ·obtain rfl:=hx;obtain rfl:=hv;exact hrel'''
end
end Go.Ab
/- A function's contract out of the walk of its body;states that tell less. -/
namespace Go.Ab
open Go.RowKit
section
variable {P:Program} {base:Own} {out:Own} {st st':St} {μ:Pl} {tmps:Array Value} {w w':World}
theorem z284 {F:Fence} {n B:Nat} {fn:Func} {R:Ending→World→Prop} (Φ:World→Prop) (hΦ:∀ (w w':World) r,B≤r→¬ out r→Other r w w'→Φ w→Φ w')
  (hend:∀ w,Φ w→∃ v,(results fn tmps).run P w=.ok v w∧R (.returned v) w) :
  ∀ (rs:List Nat) (w:World),rs.Nodup→(∀ r ∈ rs,B≤r∧¬ out r∧w.heap[r]?=some (.deferred (some [])))→Φ w →
   LeavesInM F n P fn tmps R (rs.map fun r=>{ target:=.collected r,args:=#[] }) .returning w
 | [],w,_,_,h=>hend w h
 | r::rs,w,hn,hd,h=>by
  have h1:=hd r (by simp)
  have hlt:r<w.heap.size:=(Array.getElem?_eq_some_iff.1 h1.2.2).1
  have ho:Other r w (w.putObj r (.deferred none)) :=
   ⟨⟨rfl,rfl,rfl,by simp [World.putObj],fun k hk=>World.putObj_heap_other hk⟩,fun cs ty x e=>(by rw [h1.2.2] at e;cases e),fun es c e=>(by rw [h1.2.2] at e;cases e)⟩
  refine⟨by simp,.inl ⟨r,_,rfl,run_takeDeferred h1.2.2,?_⟩⟩
  rw [List.nodup_cons] at hn
  refine z284 Φ hΦ hend rs _ hn.2 (fun q hq=>⟨(hd q (by simp [hq])).1,(hd q (by simp [hq])).2.1,?_⟩) (hΦ _ _ r h1.1 h1.2.1 ho h)
  have hqr:q≠r:=fun e=>hn.1 (e ▸ hq)
  rw [World.putObj_heap_other hqr]
  exact (hd q (by simp [hq])).2.2
def St.start (args:List DV) (nt M:Nat):St:={ t:=args.map .d++List.replicate (nt - args.length) .undef,m:=List.replicate M none }
theorem z1045 {own:Own} {args:List DV} {vs:Array Value} {nt:Nat} (M:Nat) (hown:∀ b,own b→b<w.heap.size) (hh:Hid P w own) (hd:DRels w own args vs) :
  StRel P (ltU w.heap.size) own (St.start args nt M) (fun _=>none) (vs++Array.replicate (nt - vs.size) undef) w:=by
 have hO:∀ b,ownOf own (fun _=>none) b→own b:=by rintro b (h | ⟨n,z,l,c,h⟩);exact h;cases h
 refine⟨by simp [St.start,hd.1],fun i x v hx hv=>?_,⟨fun n b hb=>?_,fun n hn=>(by cases hn),fun n k b z l c z' l' c' h=>(by cases h),fun n b z l c h=>(by cases h)⟩,hh.less hO,hown,fun _ h=>h⟩
 ·by_cases hi:i<args.length
  ·rw [St.start,List.getElem?_append_left (by simpa using hi)] at hx
   rw [Array.getElem?_append_left (by rw [← hd.1];exact hi)] at hv
   simp only [List.getElem?_map,Option.map_eq_some_iff] at hx
   obtain⟨d,hx,rfl⟩:=hx
   exact .d ((hd.2 i d v hx hv).goes fun b o u h1 h2=>⟨fun hc=>h1 (hO b hc),h2⟩)
  ·rw [St.start,List.getElem?_append_right (by simpa using Nat.le_of_not_lt hi)] at hx
   rw [List.getElem?_replicate] at hx
   split at hx
   ·cases hx;exact .undef v
   ·cases hx
 ·simp only [St.start,List.getElem?_replicate] at hb
  split at hb <;> cases hb
def endsOk:Exit→Prop
 | .normal | .ret=>True
 | _=>False
def retD (P:Program) (rs:Array ResultVar) (r:DV) (e:Exit) (_:Option Nat) (s:St):Prop :=
 endsOk e∧bindK (resultsA P s rs) fun x=>reify s.m deep x=some r
def retS (P:Program) (rs:Array ResultVar) (e z:Nat) (rows:List (List DV)) (ex:Exit) (_:Option Nat) (s:St):Prop :=
 endsOk ex∧bindK (resultsA P s rs) fun x=>match x with
  | .own n=>s.m[n]?=some (some (.arr e z rows))
  | .nil=>rows=[]
  | _=>False
theorem z119 {f:FuncId} {fn:Func} {c:Code} (hf:P.funcs[f]?=some fn) (hb:fn.body=some c) (h4:fn.results.size≤4) {st0:St} {own:Own} {μ0:Pl} {vs:Array Value}
  {Q:Exit→Option Nat→St→Prop} {J:Env} (hst0:StRel P base own st0 μ0 (vs++Array.replicate (fn.ntmps - vs.size) undef) w) (hw:Walk P none 0 J c (some 0) st0 Q)
  (hO:EnvOk w.heap.size J) (hJ:∀ w',BelowU base w w'→J (some 0) base own w')
  {R:Ending→World→Prop} (hQ:∀ e k s,Q e k s→endsOk e∧∃ x,resultsA P s fn.results=some x∧∀ base' out' μ tmps v w',StRel P base' out' s μ tmps w'→AVRel w' (ownOf out' μ) μ x v→J k base' out' w' →
   Stays w (ownOf own μ0) w' (ownOf out' μ)→Same (dsts c) (vs++Array.replicate (fn.ntmps - vs.size) undef) tmps→R (.returned v) w') :
  Calls P f vs w R:=by
 refine (callsIn_wide (n:=0)).1 ?_
 change CallsIn (fence none) 0 P f vs w R
 refine callsIn_of_wp_marks hf hb trivial ?_
 refine wpIn_mono (hw w.heap.size base own _ _ w [] hO hst0 hJ (.nil (Nat.le_refl _))) ?_
 rintro e a w' ⟨k',st',b,o,μ,hst,hJ',⟨_,rs,hds,hnd,hmk⟩,hstay,hsame,hq⟩
 obtain⟨hend,x,hx,hR⟩:=hQ e k' st' hq
 have fin:LeavesInM (fence none) 0 P fn a.tmps R a.defers .returning w':=by
  rw [hds]
  refine z284 (B:=w.heap.size) (out:=ownOf o μ) (fun W=>StRel P b o st' μ a.tmps W∧J k' b o W∧Stays w (ownOf own μ0) W (ownOf o μ))
   (fun w1 w2 r hr hno ho ⟨h1,h2,h3⟩=>⟨h1.other ho,hO k' b o w1 w2 r hr (fun hc=>hno (.inl hc)) ho h2,by rw [ho.wrote.size];exact h3.1,fun q hq hno'=>⟨(ho.wrote.block q (by omega)).trans (h3.2 q hq hno').1,(h3.2 q hq hno').2⟩⟩)
   (fun W ⟨h1,h2,h3⟩=>?_) rs w' hnd hmk ⟨hst,hJ' w' (.refl _ _),hstay⟩
  obtain⟨v,hv,hrel⟩:=z536 h1 hx h4
  exact⟨v,hv,hR b o μ a.tmps v W h1 hrel h2 h3 hsame⟩
 cases e with
 | normal=>exact fin
 | ret=>exact fin
 | _=>exact hend.elim
theorem z125 {f:FuncId} {fn:Func} {c:Code} {args:List DV} (M:Nat) (hf:P.funcs[f]?=some fn) (hb:fn.body=some c) (h4:fn.results.size≤4)
  {Q:Exit→Option Nat→St→Prop} {J:Env} (hw:Walk P none 0 J c (some 0) (St.start args fn.ntmps M) Q) {own:Own} {vs:Array Value} (hown:∀ b,own b→b<w.heap.size) (hh:Hid P w own) (hd:DRels w own args vs)
  (hO:EnvOk w.heap.size J) (hJ:∀ w',Below w.heap.size w w'→J (some 0) (ltU w.heap.size) own w')
  {R:Ending→World→Prop} (hQ:∀ e k s,Q e k s→endsOk e∧∃ x,resultsA P s fn.results=some x∧∀ base' out' μ tmps v w',StRel P base' out' s μ tmps w'→AVRel w' (ownOf out' μ) μ x v→J k base' out' w'→R (.returned v) w') :
  Calls P f vs w R :=
 z119 hf hb h4 (z1045 M hown hh hd) hw hO (fun w' h=>hJ w' h.to) fun e k s hq =>
  let ⟨h1,x,h2,h3⟩:=hQ e k s hq
  ⟨h1,x,h2,fun b o μ tmps v w' q1 q2 q3 _ _=>h3 b o μ tmps v w' q1 q2 q3⟩
theorem z157 {f:FuncId} {fn:Func} {c:Code} {args:List DV} (M:Nat) (hf:P.funcs[f]?=some fn) (hb:fn.body=some c) (h4:fn.results.size≤4)
  {Q:Exit→Option Nat→St→Prop} (hw:∀ J,Walk P none 0 J c (some 0) (St.start args fn.ntmps M) Q) {own:Own} {vs:Array Value} (hown:∀ b,own b→b<w.heap.size) (hh:Hid P w own) (hd:DRels w own args vs)
  {R:Ending→World→Prop} (hQ:∀ e k s,Q e k s→endsOk e∧∃ x,resultsA P s fn.results=some x∧∀ μ tmps v w',StRel P (ltU w.heap.size) own s μ tmps w'→AVRel w' (ownOf own μ) μ x v→Below w.heap.size w w'→R (.returned v) w') :
  Calls P f vs w R:=by
 refine z125 M hf hb h4 (hw (fun _ b o w'=>b=ltU w.heap.size∧o=own∧Below w.heap.size w w')) hown hh hd (fun k b o w1 w2 r hr _ ho ⟨h1,h2,h3⟩=>⟨h1,h2,h3.trans (ho.wrote.below (base:=ltU w.heap.size) (Nat.not_lt.2 hr)).to⟩) (fun w' hB=>⟨rfl,rfl,hB⟩) fun e k s hq=>?_
 obtain⟨h1,x,h2,h3⟩:=hQ e k s hq
 refine⟨h1,x,h2,?_⟩
 rintro b o μ tmps v w' hst hv ⟨rfl,rfl,hB⟩
 exact h3 μ tmps v w' hst hv hB
theorem z1009 {f:FuncId} {fn:Func} {c:Code} {args:List DV} {r:DV} (M:Nat) (he:∀ args w,(callFunc f args).run P w=.ok (.enter f args) w) (hf:P.funcs[f]?=some fn) (hb:fn.body=some c) (h4:fn.results.size≤4)
  (hw:∀ J,Walk P none 0 J c (some 0) (St.start args fn.ntmps M) (retD P fn.results r)):Fn P f args r:=by
 refine⟨he,fun w own vs hown hh hd=>z157 M hf hb h4 hw hown hh hd fun e k s ⟨h1,x,h2,h3⟩=>⟨h1,x,h2,fun μ tmps v w' hst hv hB=>⟨v,rfl,?_,hB⟩⟩⟩
 refine z39 hst.mem own (fun b hb=>.inl hb) (fun _=>True) (fun n b z l c _ hb hc=>?_) deep x v r hv h3 (fun _ _=>trivial) (.inl fun _ _ _ _ _ _=>trivial)
 exact (hst.mem.base n b z l c hb).2.2 hc
theorem z882 {f:FuncId} {fn:Func} {c:Code} {args:List DV} {e z:Nat} {rows:List (List DV)} (M:Nat) (he:∀ args w,(callFunc f args).run P w=.ok (.enter f args) w) (hf:P.funcs[f]?=some fn) (hb:fn.body=some c) (h4:fn.results.size≤4)
  (hw:∀ J,Walk P none 0 J c (some 0) (St.start args fn.ntmps M) (retS P fn.results e z rows)):FnS P f args e z rows:=by
 refine⟨he,fun w own vs hown hh hd=>z157 M hf hb h4 hw hown hh hd fun ex k s ⟨h1,x,h2,h3⟩=>⟨h1,x,h2,fun μ tmps v w' hst hv hB=>?_⟩⟩
 have hlow:∀ b,own b→b<w.heap.size:=hst.out
 dsimp only at h3
 split at h3
 ·rename_i n
  have hsub:∀ L,μ n=some L→∀ b,ownOf own (fun k=>if k=0 then some L else none) b→ownOf own μ b:=by
   rintro L hL b (hb | ⟨k,z,l,c,hb⟩)
   ·exact .inl hb
   ·by_cases hk:k=0
    ·subst hk;simp at hb;subst hb;exact .inr ⟨n,z,l,c,hL⟩
    ·simp [hk] at hb
  rcases hst.mem.arr h3 with ⟨h4,rfl⟩ | ⟨b,cap,cs,h4,h5,h6,h7,h8,h9,h10⟩
  ·refine⟨v,fun k=>if k=0 then some .none0 else none,rfl,?_,⟨fun k b hk=>?_,fun k hk=>?_,fun a k b z l c z' l' c' ha=>?_,fun k b z l c hk=>?_⟩,hB⟩
   ·rcases z29 hv with ⟨_,rfl⟩ | ⟨b,z,l,c,hμ,_⟩
    ·exact .ownNil rfl
    ·rw [h4] at hμ;cases hμ
   ·cases k with
    | zero=>cases hk;exact .inl ⟨rfl,rfl⟩
    | succ k=>simp at hk
   ·by_cases hk0:k=0
    ·subst hk0;exact⟨_,rfl⟩
    ·simp [hk0] at hk
   ·by_cases h0:a=0 <;> simp [h0] at ha
   ·by_cases h0:k=0 <;> simp [h0] at hk
  ·refine⟨v,fun k=>if k=0 then some (.at b z rows.length cap) else none,rfl,?_,⟨fun k bl hk=>?_,fun k hk=>?_,fun a k b1 z l c z' l' c' ha hk=>?_,fun k b z l c hk=>?_⟩,hB⟩
   ·rcases z29 hv with ⟨hμ,_⟩ | ⟨b2,z2,l2,c2,hμ,rfl⟩
    ·rw [h4] at hμ;cases hμ
    ·rw [h4] at hμ;cases hμ;exact .own (b:=b) (z:=z) (n:=0) (by simp)
   ·cases k with
    | zero =>
     cases hk
     refine .inr ⟨b,cap,cs,rfl,h5,h6,h7,h8,h9,fun i r j d hi hj=>?_⟩
     obtain⟨u,p1,p2,p3⟩:=h10 i r j d hi hj
     exact⟨u,p1,p2,p3.goes fun b o u h1 h2=>⟨fun hc=>h1 (hsub _ h4 b hc),h2⟩⟩
    | succ k=>simp at hk
   ·by_cases hk0:k=0
    ·subst hk0;exact⟨_,rfl⟩
    ·simp [hk0] at hk
   ·by_cases h0:a=0
    ·by_cases h1:k=0
     ·rw [h0,h1]
     ·simp [h1] at hk
    ·simp [h0] at ha
   ·by_cases h0:k=0
    ·simp [h0] at hk
     obtain⟨rfl,rfl,rfl,rfl⟩:=hk
     exact hst.mem.base n _ _ _ _ h4
    ·simp [h0] at hk
 ·subst h3
  refine⟨v,fun k=>if k=0 then some .none0 else none,rfl,?_,⟨fun k b hk=>?_,fun k hk=>?_,fun a k b z l c z' l' c' ha=>?_,fun k b z l c hk=>?_⟩,hB⟩
  ·rw [z115 hv];exact .ownNil rfl
  ·cases k with
   | zero=>cases hk;exact .inl ⟨rfl,rfl⟩
   | succ k=>simp at hk
  ·by_cases hk0:k=0
   ·subst hk0;exact⟨_,rfl⟩
   ·simp [hk0] at hk
  ·by_cases h0:a=0 <;> simp [h0] at ha
  ·by_cases h0:k=0 <;> simp [h0] at hk
 ·exact h3.elim
def AV.less (news:List Nat) (x y:AV):Prop:=y=.undef∨x=y∨(x=.nil∧(y=.d (.sl [])∨∃ n ∈ news,y=.own n))
def lessT (news:List Nat):List AV→List AV→Prop
 | [],[]=>True
 | x::xs,y::ys=>AV.less news x y∧lessT news xs ys
 | _,_=>False
def lessB (news:List Nat) (i:Nat):Option Blk→Option Blk→Prop
 | x,none=>i ∉ news∨x=x
 | some (.box r),some (.box r')=>i ∉ news∧lessT news r r'
 | some (.arr e z rows),some (.arr e' z' rows')=>i ∉ news∧e=e'∧z=z'∧rows=rows'
 | some (.arrP e z rows),some (.arrP e' z' rows')=>i ∉ news∧e=e'∧z=z'∧rows=rows'
 | some (.arrA e z rows),some (.arrA e' z' rows')=>i ∉ news∧e=e'∧z=z'∧rows=rows'
 | some (.mp kk es c),some (.mp kk' es' c')=>i ∉ news∧kk=kk'∧es=es'∧c=c'
 | none,some (.arr _ _ rows)=>i ∈ news∧rows=[]
 | _,_=>False
def lessM (news:List Nat):Nat→List (Option Blk)→List (Option Blk)→Prop
 | _,[],[]=>True
 | i,x::xs,y::ys=>lessB news i x y∧lessM news (i + 1) xs ys
 | _,_,_=>False
def liveB (m:List (Option Blk)) (x:AV):Bool:=x.refs.all fun n=>match (m[n]?:Option (Option Blk)) with
 | some (some _)=>true
 | _=>false
def liveM (m:List (Option Blk)):List (Option Blk)→Bool
 | []=>true
 | some (.box r)::l=>r.all (liveB m) && liveM m l
 | some (.arrA _ _ rows)::l=>(rows.all fun r=>r.all (liveB m)) && liveM m l
 | _::l=>liveM m l
end
end Go.Ab
/- States that tell less: soundness;the set of rules that the walk is reckoned by. -/
namespace Go.Ab
open Go.RowKit
section
variable {P:Program} {base:Own} {out:Own} {st st':St} {μ:Pl} {tmps:Array Value} {w w':World}
theorem z333 {news:List Nat}:∀ {xs ys:List AV},lessT news xs ys→xs.length=ys.length
 | [],[],_=>rfl
 | _::_,_::_,h=>by simp [z333 h.2]
 | [],_::_,h=>h.elim
 | _::_,[],h=>h.elim
theorem z334 {news:List Nat}:∀ {xs ys:List AV},lessT news xs ys→∀ {i:Nat} {y:AV},ys[i]?=some y→∃ x,xs[i]?=some x∧AV.less news x y
 | [],[],_,i,y,hy=>by simp at hy
 | x::xs,y'::ys,h,i,y,hy=>by
  cases i with
  | zero=>simp at hy;subst hy;exact⟨x,rfl,h.1⟩
  | succ i=>simp at hy ⊢;exact z334 h.2 hy
 | [],_::_,h,_,_,_=>h.elim
 | _::_,[],h,_,_,_=>h.elim
theorem z218 {news:List Nat}:∀ {xs ys:List (Option Blk)} {k:Nat},lessM news k xs ys→∀ {i:Nat} {y:Option Blk},ys[i]?=some y→∃ x,xs[i]?=some x∧lessB news (k + i) x y
 | [],[],_,_,i,y,hy=>by simp at hy
 | x::xs,y'::ys,k,h,i,y,hy=>by
  cases i with
  | zero=>simp at hy;subst hy;exact⟨x,rfl,h.1⟩
  | succ i =>
   simp at hy ⊢
   obtain⟨x,h1,h2⟩:=z218 h.2 hy
   exact⟨x,h1,by rw [show k + (i + 1)=k + 1 + i by omega];exact h2⟩
 | [],_::_,_,h,_,_,_=>h.elim
 | _::_,[],_,h,_,_,_=>h.elim
def Pl.less (μ:Pl) (news:List Nat) (m':List (Option Blk)):Pl:=fun n=>match (m'[n]?:Option (Option Blk)) with
 | some (some _)=>if n ∈ news then some .none0 else μ n
 | _=>none
theorem z92 {r:List AV}:∀ (l m:List (Option Blk)) (n:Nat),liveM m l=true→l[n]?=some (some (Blk.box r))→∀ x ∈ r,liveB m x=true
 | [],_,n,_,hn=>by simp at hn
 | none::l,m,n,hl,hn=>by
  cases n with
  | zero=>simp at hn
  | succ n=>simp at hn;exact z92 l m n (by simpa [liveM] using hl) hn
 | some (.arr _ _ _)::l,m,n,hl,hn=>by
  cases n with
  | zero=>simp at hn
  | succ n=>simp at hn;exact z92 l m n (by simpa [liveM] using hl) hn
 | some (.arrP _ _ _)::l,m,n,hl,hn=>by
  cases n with
  | zero=>simp at hn
  | succ n=>simp at hn;exact z92 l m n (by simpa [liveM] using hl) hn
 | some (.arrA _ _ _)::l,m,n,hl,hn=>by
  simp only [liveM,Bool.and_eq_true] at hl
  cases n with
  | zero=>simp at hn
  | succ n=>simp at hn;exact z92 l m n hl.2 hn
 | some (.mp _ _ _)::l,m,n,hl,hn=>by
  cases n with
  | zero=>simp at hn
  | succ n=>simp at hn;exact z92 l m n (by simpa [liveM] using hl) hn
 | some (.box r')::l,m,n,hl,hn=>by
  simp only [liveM,Bool.and_eq_true,List.all_eq_true] at hl
  cases n with
  | zero=>simp at hn;subst hn;exact hl.1
  | succ n=>simp at hn;exact z92 l m n hl.2 hn
theorem z455 {e z:Nat} {rows:List (List AV)}:∀ (l m:List (Option Blk)) (n:Nat),liveM m l=true→l[n]?=some (some (Blk.arrA e z rows))→∀ r ∈ rows,∀ x ∈ r,liveB m x=true
 | [],_,n,_,hn=>by simp at hn
 | b::l,m,0,hl,hn=>by
  simp at hn
  subst hn
  simp only [liveM,Bool.and_eq_true,List.all_eq_true] at hl
  exact hl.1
 | b::l,m,n + 1,hl,hn=>by
  refine z455 l m n ?_ (by simpa using hn)
  rcases b with _ | b
  ·simpa [liveM] using hl
  ·cases b <;> simp only [liveM,Bool.and_eq_true] at hl <;> first | exact hl | exact hl.2
theorem z56 (news:List Nat) (h1:lessT news st.t st'.t) (h2:lessM news 0 st.m st'.m) (h3:st'.t.all (liveB st'.m)=true) (h4:liveM st'.m st'.m=true):Weak st st':=by
 intro P base out μ tmps w h
 have hsub:∀ n L,μ.less news st'.m n=some L→(n ∈ news∧L=.none0)∨(n ∉ news∧μ n=some L):=by
  intro n L hn
  unfold Pl.less at hn
  split at hn
  ·split at hn
   ·rename_i h5;cases hn;exact .inl ⟨h5,rfl⟩
   ·rename_i h5;exact .inr ⟨h5,hn⟩
  ·cases hn
 have hown:∀ b,ownOf out (μ.less news st'.m) b→ownOf out μ b:=by
  rintro b (hb | ⟨n,z,l,c,hb⟩)
  ·exact .inl hb
  ·rcases hsub n _ hb with ⟨_,h5⟩ | ⟨_,h5⟩
   ·cases h5
   ·exact .inr ⟨n,z,l,c,h5⟩
 have hg:Goes w (ownOf out μ) w (ownOf out (μ.less news st'.m)):=fun b o v h5 h6=>⟨fun hc=>h5 (hown b hc),h6⟩
 -- a name that lives
 have hlive:∀ n b,st'.m[n]?=some (some b)→μ.less news st'.m n=if n ∈ news then some .none0 else μ n:=fun n b hn=>by simp only [Pl.less,hn]
 have hnew:∀ n b,st'.m[n]?=some (some b)→n ∈ news→∃ e z,b=.arr e z []:=by
  intro n b hn hm
  obtain⟨x,hx,hl⟩:=z218 h2 hn
  simp only [Nat.zero_add] at hl
  cases b with
  | box r =>
   rcases x with _ | x
   ·exact hl.elim
   ·cases x with
    | box r'=>exact absurd hm hl.1
    | arr=>exact hl.elim
    | mp=>exact hl.elim
    | arrP=>exact hl.elim
    | arrA=>exact hl.elim
  | mp kk es c =>
   rcases x with _ | x
   ·exact hl.elim
   ·cases x with
    | box r'=>exact hl.elim
    | arr=>exact hl.elim
    | mp=>exact absurd hm hl.1
    | arrP=>exact hl.elim
    | arrA=>exact hl.elim
  | arrP e z rows =>
   rcases x with _ | x
   ·exact hl.elim
   ·cases x with
    | box r'=>exact hl.elim
    | arr=>exact hl.elim
    | mp=>exact hl.elim
    | arrP=>exact absurd hm hl.1
    | arrA=>exact hl.elim
  | arrA e z rows =>
   rcases x with _ | x
   ·exact hl.elim
   ·cases x with
    | box r'=>exact hl.elim
    | arr=>exact hl.elim
    | mp=>exact hl.elim
    | arrP=>exact hl.elim
    | arrA=>exact absurd hm hl.1
  | arr e z rows =>
   rcases x with _ | x
   ·obtain⟨_,rfl⟩:=hl;exact⟨e,z,rfl⟩
   ·cases x with
    | box r'=>exact hl.elim
    | mp=>exact hl.elim
    | arrP=>exact hl.elim
    | arrA=>exact hl.elim
    | arr=>exact absurd hm hl.1
 have hold:∀ n b,st'.m[n]?=some (some b)→n ∉ news→∃ b0,st.m[n]?=some (some b0)∧(b=b0∨∃ r r',b0=.box r∧b=.box r'∧lessT news r r'):=by
  intro n b hn hm
  obtain⟨x,hx,hl⟩:=z218 h2 hn
  simp only [Nat.zero_add] at hl
  cases b with
  | box r =>
   rcases x with _ | x
   ·exact hl.elim
   ·cases x with
    | box r'=>exact⟨_,hx,.inr ⟨r',r,rfl,rfl,hl.2⟩⟩
    | arr=>exact hl.elim
    | mp=>exact hl.elim
    | arrP=>exact hl.elim
    | arrA=>exact hl.elim
  | mp kk es c =>
   rcases x with _ | x
   ·exact hl.elim
   ·cases x with
    | box r'=>exact hl.elim
    | arr=>exact hl.elim
    | arrP=>exact hl.elim
    | arrA=>exact hl.elim
    | mp kk' es' c' =>
     obtain⟨_,rfl,rfl,rfl⟩:=hl
     exact⟨_,hx,.inl rfl⟩
  | arrP e z rows =>
   rcases x with _ | x
   ·exact hl.elim
   ·cases x with
    | box r'=>exact hl.elim
    | arr=>exact hl.elim
    | mp=>exact hl.elim
    | arrP e' z' rows' =>
     obtain⟨_,rfl,rfl,rfl⟩:=hl
     exact⟨_,hx,.inl rfl⟩
    | arrA=>exact hl.elim
  | arrA e z rows =>
   rcases x with _ | x
   ·exact hl.elim
   ·cases x with
    | box r'=>exact hl.elim
    | arr=>exact hl.elim
    | mp=>exact hl.elim
    | arrP=>exact hl.elim
    | arrA e' z' rows' =>
     obtain⟨_,rfl,rfl,rfl⟩:=hl
     exact⟨_,hx,.inl rfl⟩
  | arr e z rows =>
   rcases x with _ | x
   ·exact absurd hl.1 hm
   ·cases x with
    | box r'=>exact hl.elim
    | mp=>exact hl.elim
    | arrP=>exact hl.elim
    | arrA=>exact hl.elim
    | arr e' z' rows' =>
     obtain⟨_,rfl,rfl,rfl⟩:=hl
     exact⟨_,hx,.inl rfl⟩
 have hval:∀ x y v,AV.less news x y→liveB st'.m y=true→AVRel w (ownOf out μ) μ x v→AVRel w (ownOf out (μ.less news st'.m)) (μ.less news st'.m) y v:=by
  intro x y v hl hlv hr
  rcases hl with rfl | rfl | ⟨rfl,rfl | ⟨n,hn,rfl⟩⟩
  ·exact .undef v
  ·refine hr.goes hg fun n hn hs=>?_
   have h5:=List.all_eq_true.1 hlv n hn
   split at h5
   ·rename_i b hb
    rw [hlive n b hb]
    split
    ·rename_i hm
     exfalso
     obtain⟨x,hx,hlb⟩:=z218 h2 hb
     obtain⟨e,z,rfl⟩:=hnew n b hb hm
     simp only [Nat.zero_add] at hlb
     rcases x with _ | x
     ·have:=z113 h.mem hx
      rw [this] at hs;cases hs
     ·cases x with
      | box r'=>exact hlb
      | mp=>exact hlb
      | arrP=>exact hlb
      | arrA=>exact hlb
      | arr=>exact hlb.1 hm
    ·rfl
   ·cases h5
  ·rw [z115 hr];exact .d .slNil
  ·have h5:=List.all_eq_true.1 hlv n (by simp [AV.refs])
   split at h5
   ·rename_i b hb
    rw [z115 hr]
    exact .ownNil (by rw [hlive n b hb,if_pos hn])
   ·cases h5
 refine⟨μ.less news st'.m,⟨by rw [h.size,z333 h1],fun i y v hy hv=>?_,⟨fun n b hn=>?_,fun n hn=>?_,fun n k b z l c z' l' c' ha hb=>?_,fun n b z l c hb=>?_⟩,h.hid.less hown,h.out,h.le⟩,hown⟩
 ·obtain⟨x,hx,hl⟩:=z334 h1 hy
  exact hval x y v hl (List.all_eq_true.1 h3 y (List.mem_of_getElem? hy)) (h.tmp i x v hx hv)
 ·by_cases hm:n ∈ news
  ·obtain⟨e,z,rfl⟩:=hnew n b hn hm
   exact .inl ⟨by rw [hlive n _ hn,if_pos hm],rfl⟩
  ·obtain⟨b0,hb0,hb⟩:=hold n b hn hm
   have hμn:μ.less news st'.m n=μ n:=by rw [hlive n _ hn,if_neg hm]
   have hr:=h.mem.blk n b0 hb0
   rcases hb with rfl | ⟨r,r',rfl,rfl,hl⟩
   ·cases b with
    | box row =>
     -- every value lives: the row is its own
     obtain⟨bb,cs,ty,p1,p2,p3,p4⟩:=hr
     have hlv:∀ x ∈ row,liveB st'.m x=true:=z92 _ _ n h4 hn
     exact⟨bb,cs,ty,by rw [hμn];exact p1,p2,p3,fun j x v hx hv=>⟨(p4 j x v hx hv).1,hval x x v (.inr (.inl rfl)) (hlv x (List.mem_of_getElem? hx)) (p4 j x v hx hv).2⟩⟩
    | arr e z rows =>
     rcases hr with ⟨p1,p2⟩ | ⟨bb,cap,cs,p1,p2,p3,p4,p5,p6,p7⟩
     ·exact .inl ⟨by rw [hμn];exact p1,p2⟩
     ·exact .inr ⟨bb,cap,cs,by rw [hμn];exact p1,p2,p3,p4,p5,p6,fun i r j d hi hj=>let ⟨v,q1,q2,q3⟩:=p7 i r j d hi hj;⟨v,q1,q2,q3.goes hg⟩⟩
    | arrP e z rows =>
     obtain⟨bb,cap,cs,p1,p2,p3,p4,p5,p6,p7⟩:=hr
     exact⟨bb,cap,cs,by rw [hμn];exact p1,p2,p3,p4,p5,p6,fun i r j d hi hj=>let ⟨v,q1,q2,q3⟩:=p7 i r j d hi hj;⟨v,q1,q2,q3.goes hg⟩⟩
    | arrA e z rows =>
     have hlv:∀ r ∈ rows,∀ x ∈ r,liveB st'.m x=true:=z455 _ _ n h4 hn
     rcases hr with ⟨p1,p2⟩ | ⟨bb,cap,cs,p1,p2,p3,p4,p5,p6,p7⟩
     ·exact .inl ⟨by rw [hμn];exact p1,p2⟩
     ·exact .inr ⟨bb,cap,cs,by rw [hμn];exact p1,p2,p3,p4,p5,p6,fun i r j d hi hj=>let ⟨v,q1,q2,q3⟩:=p7 i r j d hi hj;⟨v,q1,q2,hval d d v (.inr (.inl rfl)) (hlv r (List.mem_of_getElem? hi) d (List.mem_of_getElem? hj)) q3⟩⟩
    | mp kk es c =>
     obtain⟨bb,mes,p1,p2,p3,p4⟩:=hr
     exact⟨bb,mes,by rw [hμn];exact p1,p2,p3,fun i e m hi hm=>⟨(p4 i e m hi hm).1,(p4 i e m hi hm).2.1,(p4 i e m hi hm).2.2.goes hg⟩⟩
   ·obtain⟨bb,cs,ty,p1,p2,p3,p4⟩:=hr
    have hlv:∀ x ∈ r',liveB st'.m x=true:=z92 _ _ n h4 hn
    refine⟨bb,cs,ty,by rw [hμn];exact p1,p2,by rw [← z333 hl];exact p3,fun j y v hy hv=>?_⟩
    obtain⟨x,hx,hxy⟩:=z334 hl hy
    exact⟨(p4 j x v hx hv).1,hval x y v hxy (hlv y (List.mem_of_getElem? hy)) (p4 j x v hx hv).2⟩
 ·unfold Pl.less at hn
  split at hn
  ·rename_i b hb;exact⟨b,hb⟩
  ·cases hn
 ·rcases hsub n _ ha with ⟨_,h5⟩ | ⟨_,h5⟩
  ·cases h5
  ·rcases hsub k _ hb with ⟨_,h6⟩ | ⟨_,h6⟩
   ·cases h6
   ·exact h.mem.inj n k b z l c z' l' c' h5 h6
 ·rcases hsub n _ hb with ⟨_,h5⟩ | ⟨_,h5⟩
  ·cases h5
  ·exact h.mem.base n b z l c h5
end
end Go.Ab
/- The set of rules by which a walk is reckoned. -/
namespace Go.Ab
open Go.RowKit
theorem z1095 {α:Type} (x:α) (l:List α) (d:α):(x::l).getD 0 d=x:=rfl
theorem z1096 {α:Type} (x:α) (l:List α) (n:Nat) (d:α):(x::l).getD (n + 1) d=l.getD n d:=rfl
theorem z1128 {α:Type} (x y:α) (l:List α):(x::l).set 0 y=y::l:=rfl
theorem z1129 {α:Type} (x y:α) (l:List α) (n:Nat):(x::l).set (n + 1) y=x::l.set n y:=rfl
theorem z1178 {α:Type} (x:α) (l:List α):(x::l)[0]?=some x:=rfl
theorem z1179 {α:Type} (x:α) (l:List α) (n:Nat):(x::l)[n + 1]?=l[n]?:=by simp
theorem z1196 (b:Bool):(b=true)=b:=by simp
theorem z1033 {α:Type} (l:List α):(Array.mk l).toList=l:=rfl
theorem z241 {P:Program} {o:Oper} {s:St} {K K':St→Prop} (h:stepK P o s K) (hK:∀ s,K s→K' s):stepK P o s K':=by
 unfold stepK at h ⊢
 split
 ·rename_i hc
  rw [hc] at h
  obtain⟨gx,h1,s',h2,h3⟩:=h
  exact⟨gx,h1,s',h2,hK _ h3⟩
 ·rename_i hc
  rw [hc] at h
  obtain⟨s',h1,h2⟩:=h
  exact⟨s',h1,hK _ h2⟩
theorem z285 (P:Program) (b:Bool) (o:Oper) (s:St) (R:St→Prop):guardRun P (.d (.bool b)) b o s R=stepK P o s R:=by
 apply propext
 constructor
 ·intro h
  have:=h R (fun _ h=>h)
  simp only [guardedK,guardK,forall_const] at this
  exact this.1
 ·intro h K' hK
  refine⟨fun _=>z241 h hK,fun e=>?_⟩
  cases b <;> cases e
theorem z344 (P:Program) (b c:Bool) (hbc:c=!b) (o:Oper) (s:St) (R:St→Prop):guardRun P (.d (.bool b)) c o s R=R (s.put o.dst .void):=by
 subst hbc
 apply propext
 constructor
 ·intro h
  have:=h R (fun _ h=>h)
  exact this.2 (by simp)
 ·intro h K' hK
  exact⟨fun e=>(by cases b <;> cases e),fun _=>hK _ h⟩
theorem z877 (P:Program) (o:Oper) (s:St) (R:St→Prop):guardRun P (.d (.bool true)) true o s R=stepK P o s R:=z285 P true o s R
theorem z880 (P:Program) (o:Oper) (s:St) (R:St→Prop):guardRun P (.d (.bool false)) false o s R=stepK P o s R:=z285 P false o s R
theorem z878 (P:Program) (o:Oper) (s:St) (R:St→Prop):guardRun P (.d (.bool true)) false o s R=R (s.put o.dst .void):=z344 P true false rfl o s R
theorem z879 (P:Program) (o:Oper) (s:St) (R:St→Prop):guardRun P (.d (.bool false)) true o s R=R (s.put o.dst .void):=z344 P false true rfl o s R
theorem z549 (P:Program) (want:Bool) (o:Oper) (s:St) (R:St→Prop):guardRun P .void want o s R=R (s.put o.dst .void):=by
 apply propext
 exact⟨fun h=>h R (fun _ h=>h),fun h K' hK=>hK _ h⟩
theorem z1136 (P:Program) (ops:Array Oper) (s:St) (K:St→Prop):runK P ops [] s K=K s:=rfl
theorem z1052 (P:Program) (ops:Array Oper) (o:Oper) (os:List Oper) (x:AV) (t:List AV) (m:List (Option Blk)) (K:St→Prop):runK P ops (o::os) ⟨x::t,m⟩ K=(dstOk o=true∧match guardT ops o with
  | none=>False
  | some none=>stepK P o ⟨x::t,m⟩ fun s=>runK P ops os s K
  | some (some (t',want))=>guardRun P ((⟨x::t,m⟩:St).ev (.tmp t')) want o ⟨x::t,m⟩ fun s=>runK P ops os s K):=rfl
theorem z231 {P:Program} {o:Oper} {s:St} {C C':Eff→List Nat→Prop} (h:effK P o s C) (hC:∀ e N,C e N→C' e N):effK P o s C':=by
 unfold effK at h ⊢
 split
 ·rename_i ho;simp only [ho] at h;obtain⟨gx,h1,e,h2,h3⟩:=h;exact⟨gx,h1,e,h2,hC _ _ h3⟩
 ·rename_i ho;simp only [ho] at h;obtain⟨d,h1,b,h2,h3,h4⟩:=h;rw [ho];exact⟨d,h1,b,h2,h3,hC _ _ h4⟩
 ·rename_i ho;simp only [ho] at h;obtain⟨d,h1,b,h2,h3,h4⟩:=h;rw [ho];exact⟨d,h1,b,h2,h3,hC _ _ h4⟩
 ·rename_i ho;simp only [ho] at h;obtain⟨d,h1,b,h2,h3,h4⟩:=h;rw [ho];exact⟨d,h1,b,h2,h3,hC _ _ h4⟩
 ·rename_i ho;simp only [ho] at h;obtain⟨d,h1,b,h2,h3,h4,h5⟩:=h
  refine⟨d,h1,b,h2,h3,h4,?_⟩
  split at h5
  ·exact hC _ _ h5
  ·exact h5.elim
 ·rename_i ho;simp only [ho] at h
  obtain⟨h1,h⟩:=h
  refine⟨h1,?_⟩
  split at h
  ·split at h
   ·obtain⟨cs,h2,h3,row',h4,h5⟩:=h
    exact⟨cs,h2,h3,row',h4,hC _ _ h5⟩
   ·exact h.elim
  ·split at h
   ·obtain⟨cs,h2,h3,r,h4,ds,h5,r',h6,h7,h8⟩:=h
    exact⟨cs,h2,h3,r,h4,ds,h5,r',h6,h7,hC _ _ h8⟩
   ·exact h.elim
  ·exact h.elim
 ·rename_i ho;simp only [ho] at h
  split at h
  ·obtain⟨r,h1,h2⟩:=h
   exact⟨r,h1,hC _ _ h2⟩
  ·exact h.elim
 ·rename_i h1 h2 h3 h4 h5 h6 h7
  have h':bindK (valOp P o.op s) fun x=>C ⟨x,none⟩ (footV o.op s):=by
   split at h
   ·rename_i ho;exact absurd ho (h1 _ _ _)
   ·rename_i ho;exact absurd ho (h2 _)
   ·rename_i ho;exact absurd ho (h3 _ _)
   ·rename_i ho;exact absurd ho (h4 _ _ _)
   ·rename_i ho;exact absurd ho (h5 _ _ _)
   ·rename_i ho;exact absurd ho (h6 _ _ _)
   ·rename_i ho;exact absurd ho (h7 _ _)
   ·exact h
  obtain⟨x,h7,h8⟩:=h'
  exact⟨x,h7,hC _ _ h8⟩
theorem z715 (P:Program) (o:Oper) (s:St) (R:Eff→List Nat→Prop):guardRunE P (.d (.bool true)) true o s R=effK P o s R:=by
 apply propext
 exact⟨fun h=>(h R (fun _ _ h=>h)).1 rfl,fun h K' hK=>⟨fun _=>z231 h hK,fun e=>(by cases e)⟩⟩
theorem z718 (P:Program) (o:Oper) (s:St) (R:Eff→List Nat→Prop):guardRunE P (.d (.bool false)) false o s R=effK P o s R:=by
 apply propext
 exact⟨fun h=>(h R (fun _ _ h=>h)).1 rfl,fun h K' hK=>⟨fun _=>z231 h hK,fun e=>(by cases e)⟩⟩
theorem z716 (P:Program) (o:Oper) (s:St) (R:Eff→List Nat→Prop):guardRunE P (.d (.bool true)) false o s R=R ⟨.void,none⟩ []:=by
 apply propext
 exact⟨fun h=>(h R (fun _ _ h=>h)).2 rfl,fun h K' hK=>⟨fun e=>(by cases e),fun _=>hK _ _ h⟩⟩
theorem z717 (P:Program) (o:Oper) (s:St) (R:Eff→List Nat→Prop):guardRunE P (.d (.bool false)) true o s R=R ⟨.void,none⟩ []:=by
 apply propext
 exact⟨fun h=>(h R (fun _ _ h=>h)).2 rfl,fun h K' hK=>⟨fun e=>(by cases e),fun _=>hK _ _ h⟩⟩
theorem z428 (P:Program) (want:Bool) (o:Oper) (s:St) (R:Eff→List Nat→Prop):guardRunE P .void want o s R=R ⟨.void,none⟩ []:=by
 apply propext
 exact⟨fun h=>h R (fun _ _ h=>h),fun h K' hK=>hK _ _ h⟩
theorem z1138 (P:Program) (ops:Array Oper) (i:Nat) (acc:List Key) (s:St) (K:St→Prop):runD P ops [] i acc s K=(pairsB ops (masks ops.toList []) acc.reverse=true∧K s):=rfl
def contD (P:Program) (ops:Array Oper) (os:List Oper) (i:Nat) (acc:List Key) (s:St) (dst:Option Tmp) (K:St→Prop) (e:Eff) (N:List Nat):Prop:=runD P ops os (i + 1) ((i,e.name,N)::acc) (s.apply dst e) K
theorem z1054 (P:Program) (ops:Array Oper) (o:Oper) (os:List Oper) (i:Nat) (acc:List Key) (x:AV) (t:List AV) (m:List (Option Blk)) (K:St→Prop):runD P ops (o::os) i acc ⟨x::t,m⟩ K=(dstOk o=true∧match guardT ops o with
  | none=>False
  | some none=>effK P o ⟨x::t,m⟩ (contD P ops os i acc ⟨x::t,m⟩ o.dst K)
  | some (some (t',want))=>guardRunE P ((⟨x::t,m⟩:St).ev (.tmp t')) want o ⟨x::t,m⟩ (contD P ops os i acc ⟨x::t,m⟩ o.dst K)):=rfl
theorem z996 (k k':IntKind) (x y:Int):opMinMax true [.d (.int k x),.d (.int k' y)]=some (.d (.int k (max x y))):=by
 simp only [opMinMax,if_true,Option.some.injEq,AV.d.injEq,DV.int.injEq,true_and];omega
theorem z995 (k k':IntKind) (x y:Int):opMinMax false [.d (.int k x),.d (.int k' y)]=some (.d (.int k (min x y))):=by
 simp only [opMinMax,Bool.false_eq_true,if_false,Option.some.injEq,AV.d.injEq,DV.int.injEq,true_and];omega
theorem z1006 (z:Nat):headIs z []=true:=rfl
theorem z876 (z:Nat) (r:List DV) (l:List (List DV)):headIs z (r::l)=(r.length == z):=rfl
theorem z1263 (n:Nat):((n:Int)).toNat=n:=by simp
theorem z1071 (n:Nat):(0≤(n:Int))=True:=by simp
attribute [go_sem] List.getElem?_toArray
attribute [go_sem] z1095 z1096 z1128 z1129 z1178 z1179 z1033 z1263 z1071
attribute [go_sem] z877 z880 z878 z879 z549 z1136 z1052 z715 z718 z716 z717 z428 z1138 z1054
attribute [go_sem] thenA blockA dstOk guardT stepK isCall stepOp valOp putV St.put St.ev cellOf constOf z1018 z1019 z1112 z1111
attribute [go_sem] callOf calleeOf opFieldAddr opLoad partOf partOfD opBinE AV.flatAgg leafD opEqS eqAt eqOne opBin intOp shiftOp isPtr opPick pickA opUn opNilCheck opField opIndexAddr opExtract opLen opCopy dstOf elemsOf z996 z995 opBox opAlloc opStore splice AV.cells newOp addN nameOf St.fresh St.addBlk
attribute [go_sem] opBuild fillA opSlice boundsOf z1006 z876 opConvert opMakeFunc opMakeSlice opBuildSlice opAppend rowOf rowsOf St.arrs AV.refsAll AV.refs AV.refs.AV.refss allSome reify leaf deep St.kill releaseAll St.release AV.sub AV.sub.AV.subs subMem Blk.sub snapLeaf
attribute [go_sem] contD contE contV effK St.apply Eff.name footV reachAll
attribute [go_sem] AV.one evG wideD opClear zrowP
attribute [go_sem] opLookup opMapEntry opMapUpdate opEntryStore zeroD findE setBorn keyOf intOf
attribute [go_sem] retD retS endsOk resultsA resA retA
end Go.Ab
/- The walk of a list of pieces of code,with rules that ask for no name. -/
namespace Go.Ab
open Go.RowKit
section
variable {P:Program} {rd:Option Nat} {n:Nat} {J:Env} {c x y:Code} {cs:List Code} {k:Option Nat} {st:St} {Q:Exit→Option Nat→St→Prop}
def WalkL (P:Program) (rd:Option Nat) (n:Nat) (J:Env):List Code→Option Nat→St→(Exit→Option Nat→St→Prop)→Prop
 | [],k,st,Q=>Q .normal k st
 | c::cs,k,st,Q=>Walk P rd n J c k st (thenA (fun k s=>WalkL P rd n J cs k s Q) Q)
theorem z4 {K:Option Nat→St→Prop} (h:K k st):thenA K Q .normal k st:=h
theorem z102 {K:Option Nat→St→Prop} {i:Nat} (h:Q (.exit i) k st):thenA K Q (.exit i) k st:=h
theorem z129 {K:Option Nat→St→Prop} (h:Q .ret k st):thenA K Q .ret k st:=h
theorem z62 {i:Nat} (h:Q .normal k st):blockA i Q (.exit i) k st:=by simp [blockA,h]
theorem z123 {i j:Nat} (hne:(j == i)=false) (h:Q (.exit j) k st):blockA i Q (.exit j) k st:=by
 have:j≠i:=by simpa using hne
 simp [blockA,this,h]
theorem z55 {i:Nat} (h:Q .normal k st):blockA i Q .normal k st:=h
theorem z110 {i:Nat} (h:Q .ret k st):blockA i Q .ret k st:=h
theorem z21 (h:WalkL P rd n J [c] k st Q):Walk P rd n J c k st Q :=
 z46 h fun e k s hq=>by cases e <;> exact hq
theorem z7 (h:Q .normal k st):WalkL P rd n J [] k st Q:=h
theorem z36 (h:WalkL P rd n J cs k st Q):WalkL P rd n J (.skip::cs) k st Q:=z1028 h
theorem z100 {id:Nat} (h:Q (.exit id) k st):WalkL P rd n J (.exit id::cs) k st Q:=z1029 h
theorem z210 (h:Q .ret k st):WalkL P rd n J (.ret::cs) k st Q:=z1123 h
theorem z25 (h:WalkL P rd n J (x::y::cs) k st Q):WalkL P rd n J (.seq x y::cs) k st Q :=
 z1122 (z46 h fun e k s hq=>by cases e <;> exact hq)
theorem z3 {id:Nat} {ops:Array Oper} (h:∀ K:St→Prop,(∀ s,WalkL P rd n J cs k s Q→K s)→runK P ops ops.toList st K):WalkL P rd n J (.region id ops false::cs) k st Q :=
 z751 (h _ fun _ h=>h)
theorem z8 {id:Nat} {ops:Array Oper} (hfol:P.follows .mixedOrders=true) (hback:backB ops=true) (h:∀ K:St→Prop,(∀ s,WalkL P rd n J cs k s Q→K s)→runD P ops ops.toList 0 [] st K):WalkL P rd n J (.region id ops true::cs) k st Q :=
 z928 hfol hback (h _ fun _ h=>h)
theorem z6 {o:Operand} {b:Bool} (hc:st.ev o=.d (.bool b)) (h1:b=true→WalkL P rd n J (x::cs) k st Q) (h2:b=false→WalkL P rd n J (y::cs) k st Q):WalkL P rd n J (.cond o x y::cs) k st Q :=
 z305 hc h1 h2
theorem z9 {o:Operand} (hc:st.ev o=.d (.bool true)) (h1:WalkL P rd n J (x::cs) k st Q):WalkL P rd n J (.cond o x y::cs) k st Q :=
 z305 hc (fun _=>h1) (fun h=>by cases h)
theorem z5 {o:Operand} (hc:st.ev o=.d (.bool false)) (h1:WalkL P rd n J (y::cs) k st Q):WalkL P rd n J (.cond o x y::cs) k st Q :=
 z305 hc (fun h=>by cases h) (fun _=>h1)
theorem z33 {id:Nat} (h:WalkL P rd n J [c] k st (blockA id (thenA (fun k s=>WalkL P rd n J cs k s Q) Q))):WalkL P rd n J (.block id c::cs) k st Q :=
 z929 (z21 h)
theorem z63 {st':St} (hw:Weak st st') (h:WalkL P rd n J (c::cs) k st' Q):WalkL P rd n J (c::cs) k st Q:=z567 hw h
theorem z438 {α:Type} (f:α→St) (I:α→Prop) (m:α→Nat) (a:α) (hw:Weak st (f a)) (h0:I a)
  (h:∀ a,I a→WalkL P rd n J [c] k (f a) (thenA (fun k' s=>k'=k∧∃ a',Weak s (f a')∧I a'∧m a'<m a) (thenA (fun k s=>WalkL P rd n J cs k s Q) Q))):WalkL P rd n J (.loop c::cs) k st Q :=
 z572 f (fun k' a=>k'=k∧I a) (fun _ a=>m a) a hw ⟨rfl,h0⟩ fun k' a hI=>by
  obtain⟨rfl,hI⟩:=hI
  refine z46 (z21 (h a hI)) fun e k s hq=>?_
  cases e with
  | normal=>obtain⟨rfl,a',h1,h2,h3⟩:=hq;exact⟨a',h1,⟨rfl,h2⟩,h3⟩
  | _=>exact hq
end
def wipeT:List Nat→List AV→List AV
 | [],t=>t
 | d::ds,t=>wipeT ds (t.set d .undef)
def wipeM:List Nat→List (Option Blk)→List (Option Blk)
 | [],m=>m
 | d::ds,m=>wipeM ds (m.set d none)
def setsT:List (Nat × AV)→List AV→List AV
 | [],t=>t
 | (i,x)::l,t=>setsT l (t.set i x)
def setsM:List (Nat × Option Blk)→List (Option Blk)→List (Option Blk)
 | [],m=>m
 | (i,x)::l,m=>setsM l (m.set i x)
def St.head (st:St) (ds:List Nat) (ts:List (Nat × AV)) (ms:List (Nat × Option Blk)):St:={ t:=setsT ts (wipeT ds st.t),m:=setsM ms (wipeM ds st.m) }
theorem z13 {P:Program} {rd:Option Nat} {n:Nat} {J:Env} {c:Code} {cs:List Code} {k:Option Nat} {st:St} {Q:Exit→Option Nat→St→Prop} {α:Type} (ts:α→List (Nat × AV)) (ms:α→List (Nat × Option Blk)) (I:α→Prop) (m:α→Nat) (a:α)
  (hw:Weak st (st.head (dsts c) (ts a) (ms a))) (h0:I a)
  (h:∀ a,I a→WalkL P rd n J [c] k (st.head (dsts c) (ts a) (ms a)) (thenA (fun k' s=>k'=k∧∃ a',Weak s (st.head (dsts c) (ts a') (ms a'))∧I a'∧m a'<m a) (thenA (fun k s=>WalkL P rd n J cs k s Q) Q))):WalkL P rd n J (.loop c::cs) k st Q :=
 z438 (fun a=>st.head (dsts c) (ts a) (ms a)) I m a hw h0 h
theorem z60 {P:Program} {rd:Option Nat} {n:Nat} {J:Env} {c:Code} {cs:List Code} {k:Option Nat} {st:St} {Q:Exit→Option Nat→St→Prop} {α:Type} (ts:α→List (Nat × AV)) (ms:α→List (Nat × Option Blk)) (I:Option Nat→α→Prop) (m:α→Nat) (a:α)
  (hw:Weak st (st.head (dsts c) (ts a) (ms a))) (h0:I k a)
  (h:∀ k a,I k a→WalkL P rd n J [c] k (st.head (dsts c) (ts a) (ms a)) (thenA (fun k' s=>∃ a',Weak s (st.head (dsts c) (ts a') (ms a'))∧I k' a'∧m a'<m a) (thenA (fun k s=>WalkL P rd n J cs k s Q) Q))):WalkL P rd n J (.loop c::cs) k st Q :=
 z572 (fun a=>st.head (dsts c) (ts a) (ms a)) I (fun _ a=>m a) a hw h0 fun k' a hI=>z46 (z21 (h k' a hI)) fun e k s hq=>by cases e <;> exact hq
attribute [go_sem] opDsts dsts wipeT wipeM setsT setsM St.head
theorem z11 {P:Program} {f:FuncId} {fn:Func} {c:Code} {args:List DV} {r:DV} (M:Nat) (he:∀ args w,(callFunc f args).run P w=.ok (.enter f args) w) (hf:P.funcs[f]?=some fn) (hb:fn.body=some c) (h4:fn.results.size≤4)
  (hw:∀ J,WalkL P none 0 J [c] (some 0) (St.start args fn.ntmps M) (retD P fn.results r)):Fn P f args r:=z1009 M he hf hb h4 fun J=>z21 (hw J)
theorem z297 {P:Program} {f:FuncId} {fn:Func} {c:Code} {args:List DV} {e z:Nat} {rows:List (List DV)} (M:Nat) (he:∀ args w,(callFunc f args).run P w=.ok (.enter f args) w) (hf:P.funcs[f]?=some fn) (hb:fn.body=some c) (h4:fn.results.size≤4)
  (hw:∀ J,WalkL P none 0 J [c] (some 0) (St.start args fn.ntmps M) (retS P fn.results e z rows)):FnS P f args e z rows:=z882 M he hf hb h4 fun J=>z21 (hw J)
inductive Nx:Prop→Prop→Prop
 | seq {P:Program} {rd:Option Nat} {n:Nat} {J:Env} {x y:Code} {cs:List Code} {k:Option Nat} {st:St} {Q:Exit→Option Nat→St→Prop}:Nx (WalkL P rd n J (.seq x y::cs) k st Q) (WalkL P rd n J (x::y::cs) k st Q)
 | skip {P:Program} {rd:Option Nat} {n:Nat} {J:Env} {cs:List Code} {k:Option Nat} {st:St} {Q:Exit→Option Nat→St→Prop}:Nx (WalkL P rd n J (.skip::cs) k st Q) (WalkL P rd n J cs k st Q)
 | block {P:Program} {rd:Option Nat} {n:Nat} {J:Env} {c:Code} {cs:List Code} {k:Option Nat} {st:St} {Q:Exit→Option Nat→St→Prop} {id:Nat}:Nx (WalkL P rd n J (.block id c::cs) k st Q) (WalkL P rd n J [c] k st (blockA id (thenA (fun k s=>WalkL P rd n J cs k s Q) Q)))
 | nil {P:Program} {rd:Option Nat} {n:Nat} {J:Env} {k:Option Nat} {st:St} {Q:Exit→Option Nat→St→Prop}:Nx (WalkL P rd n J [] k st Q) (Q .normal k st)
 | ret {P:Program} {rd:Option Nat} {n:Nat} {J:Env} {cs:List Code} {k:Option Nat} {st:St} {Q:Exit→Option Nat→St→Prop}:Nx (WalkL P rd n J (.ret::cs) k st Q) (Q .ret k st)
 | ext {P:Program} {rd:Option Nat} {n:Nat} {J:Env} {cs:List Code} {k:Option Nat} {st:St} {Q:Exit→Option Nat→St→Prop} {id:Nat}:Nx (WalkL P rd n J (.exit id::cs) k st Q) (Q (.exit id) k st)
 | here {i:Nat} {k:Option Nat} {st:St} {Q:Exit→Option Nat→St→Prop}:Nx (blockA i Q (.exit i) k st) (Q .normal k st)
 | bret {i:Nat} {k:Option Nat} {st:St} {Q:Exit→Option Nat→St→Prop}:Nx (blockA i Q .ret k st) (Q .ret k st)
 | bnormal {i:Nat} {k:Option Nat} {st:St} {Q:Exit→Option Nat→St→Prop}:Nx (blockA i Q .normal k st) (Q .normal k st)
 | tret {k:Option Nat} {st:St} {K:Option Nat→St→Prop} {Q:Exit→Option Nat→St→Prop}:Nx (thenA K Q .ret k st) (Q .ret k st)
 | text {k:Option Nat} {st:St} {K:Option Nat→St→Prop} {Q:Exit→Option Nat→St→Prop} {i:Nat}:Nx (thenA K Q (.exit i) k st) (Q (.exit i) k st)
 | tnormal {k:Option Nat} {st:St} {K:Option Nat→St→Prop} {Q:Exit→Option Nat→St→Prop}:Nx (thenA K Q .normal k st) (K k st)
 | other {i j:Nat} (hne:(j == i)=false) {k:Option Nat} {st:St} {Q:Exit→Option Nat→St→Prop}:Nx (blockA i Q (.exit j) k st) (Q (.exit j) k st)
theorem nx {A B:Prop} (b:B) (h:Nx A B:=by first | (constructor;done) | exact .other rfl):A:=by
 cases h with
 | seq=>exact z25 b
 | skip=>exact z36 b
 | block=>exact z33 b
 | nil=>exact z7 b
 | ret=>exact z210 b
 | ext=>exact z100 b
 | here=>exact z62 b
 | bret=>exact z110 b
 | bnormal=>exact z55 b
 | tret=>exact z129 b
 | text=>exact z102 b
 | tnormal=>exact z4 b
 | other hne=>exact z123 hne b
end Go.Ab
/- Iterators: a function value that hands on its elements one by one. The iterator's own walk. -/
namespace Go.Ab
open Go.RowKit
abbrev Seen:=Option Nat→Own→World→Prop
structure SeenOk (B:Nat) (J:Seen):Prop where
 below:∀ k o w w',J k o w→Below w.heap.size w w'→J k o w'
 other:∀ k o w w' r,B≤r→¬ o r→Other r w w'→J k o w→J k o w'
 lt:∀ k o w,J k o w→∀ b,o b→b<w.heap.size
def Gives (P:Program) (l:Nat) (J:Seen) (items:List (List DV)):Prop :=
 ∀ (m k:Nat) (o:Own) (w:World) (vals:Array Value) (row:List DV),items[k]?=some row→J (some k) o w→DRels w o row vals →
  YieldAt (fence none) m P l vals w fun e w'=>∃ b o',e=.returned (.bool b)∧J (if b then some (k + 1) else none) o' w'∧Stays w o w' o'
def Iter (P:Program) (f:FuncId) (caps:List DV) (items:List (List DV)):Prop:=Enters P f ∧
 ∀ (l:Nat) (J:Seen) (w:World) (own:Own) (vs:Array Value),SeenOk w.heap.size J→Gives P l J items→(∀ b,own b→b<w.heap.size)→Hid P w own→DRels w own caps vs→J (some 0) own w →
  Calls P f (#[.func (.yield l) #[] #[]]++vs) w fun e w'=>∃ v o',e=.returned v∧(J (some items.length) o' w'∨J none o' w')
def dropT:List AV→List AV
 | []=>[]
 | x::xs=>(match x.refs with
  | []=>x
  | _=>.undef)::dropT xs
def dropM:List (Option Blk)→List (Option Blk)
 | []=>[]
 | _::l=>none::dropM l
def St.drop (s:St):St:={ t:=dropT s.t,m:=dropM s.m }
def yieldOf (o:Oper) (s:St):Option (Nat × List AV):=match o.op with
 | .call { callee:=.value f,args,.. }=>match s.ev f with
  | .d (.yld l)=>some (l,args.toList.map s.ev)
  | _=>none
 | _=>none
def yieldK (l l':Nat) (items:List (List DV)) (xs:List AV) (dst:Option Tmp) (k:Option Nat) (s:St) (K:Option Nat→St→Prop):Prop :=
 l'=l∧∃ kk row,k=some kk∧reifyAll s xs=some row∧items[kk]?=some row∧K (some (kk + 1)) (s.drop.put dst (.d (.bool true)))∧K none (s.drop.put dst (.d (.bool false)))
def stepY (P:Program) (l:Nat) (items:List (List DV)) (o:Oper) (k:Option Nat) (s:St) (K:Option Nat→St→Prop):Prop:=match yieldOf o s with
 | some lx=>yieldK l lx.1 items lx.2 o.dst k s K
 | none=>stepK P o s (K k)
def guardedY (P:Program) (l:Nat) (items:List (List DV)) (t:AV) (want:Bool) (o:Oper) (k:Option Nat) (s:St) (K:Option Nat→St→Prop):Prop:=guardK t want (stepY P l items o k s K) (K k (s.put o.dst .void))
def guardRunY (P:Program) (l:Nat) (items:List (List DV)) (t:AV) (want:Bool) (o:Oper) (k:Option Nat) (s:St) (R:Option Nat→St→Prop):Prop:=∀ K':Option Nat→St→Prop,(∀ k s,R k s→K' k s)→guardedY P l items t want o k s K'
def runY (P:Program) (l:Nat) (items:List (List DV)) (ops:Array Oper):List Oper→Option Nat→St→(Option Nat→St→Prop)→Prop
 | [],k,s,K=>K k s
 | o::os,k,s,K=>dstOk o=true∧match guardT ops o with
  | none=>False
  | some none=>stepY P l items o k s fun k s=>runY P l items ops os k s K
  | some (some (t,want))=>guardRunY P l items (s.ev (.tmp t)) want o k s fun k s=>runY P l items ops os k s K
section
variable {P:Program} {base:Own} {out:Own} {st st':St} {μ:Pl} {tmps:Array Value} {w w':World} {o:Oper} {ops:Array Oper} {n:Nat}
theorem z737:∀ {t:List AV} {i:Nat} {y:AV},(dropT t)[i]?=some y→∃ x,t[i]?=some x∧(y=.undef∨(y=x∧x.refs=[]))
 | [],i,y,h=>by simp [dropT] at h
 | x::xs,i,y,h=>by
  cases i with
  | zero =>
   simp only [dropT,List.getElem?_cons_zero,Option.some.injEq] at h
   refine⟨x,rfl,?_⟩
   split at h
   ·rename_i hr;exact .inr ⟨h.symm,hr⟩
   ·exact .inl h.symm
  | succ i=>simp only [dropT,List.getElem?_cons_succ] at h ⊢;exact z737 h
theorem z736:∀ (t:List AV),(dropT t).length=t.length
 | []=>rfl
 | x::xs=>by simp [dropT,z736 xs]
theorem z738:∀ {m:List (Option Blk)} {i:Nat} {b:Blk},(dropM m)[i]?≠some (some b)
 | [],i,b,h=>by simp [dropM] at h
 | x::xs,i,b,h=>by
  cases i with
  | zero=>simp [dropM] at h
  | succ i=>simp only [dropM,List.getElem?_cons_succ] at h;exact z738 h
theorem z1086 {own:Own} {l:Nat} {v:Value} (h:AVRel w own μ (.d (.yld l)) v):v=.func (.yield l) #[] #[]:=by have:=h.d_inv;cases this;rfl
theorem z986 {own own':Own} {μ':Pl} {x:AV} {v:Value} (h:AVRel w own μ x v) (hg:Goes w own w' own') (hr:x.refs=[]):AVRel w' own' μ' x v :=
 h.goes hg fun n hn _=>by rw [hr] at hn;cases hn
theorem z1189 (h:StRel P base out st μ tmps w) {o':Own} (hs:Stays w out w' o') (hlt:∀ b,o' b→b<w'.heap.size) {dst:Option Tmp} {b:Bool} :
  StRel P (ltU w'.heap.size) o' (st.drop.put dst (.d (.bool b))) (fun _=>none) (putT tmps dst (.bool b)) w':=by
 have hO:∀ k,ownOf o' (fun _=>none) k→o' k:=by rintro k (h | ⟨n,z,l,c,h⟩);exact h;cases h
 have hg:Goes w (ownOf out μ) w' (ownOf o' (fun _=>none)):=fun k q v h1 h2=>by
  obtain⟨p1,p2⟩:=hs.goes k q v (fun hc=>h1 (.inl hc)) h2
  exact⟨fun hc=>p1 (hO k hc),p2⟩
 refine StRel.put ⟨by simp [St.drop,z736,h.size],fun i y v hy hv=>?_,⟨fun n b hb=>absurd hb z738,fun n hn=>(by cases hn),fun n k b z l c z' l' c' h=>(by cases h),fun n b z l c h=>(by cases h)⟩,h.hid.goes hg,hlt,fun _ h=>h⟩ (.d (.bool b)) dst
 obtain⟨x,hx,hy'⟩:=z737 hy
 rcases hy' with rfl | ⟨rfl,hr⟩
 ·exact .undef v
 ·exact z986 (h.tmp i _ v hx hv) hg hr
theorem z433 (h:StRel P base out st μ tmps w) {l:Nat} {xs:List AV} (hy:yieldOf o st=some (l,xs)) {items:List (List DV)} {J:Seen} {B:Nat} (hS:SeenOk B J) (hG:Gives P l J items) {kk:Nat} {row:List DV}
  (hrow:reifyAll st xs=some row) (hk:items[kk]?=some row) (hJ:J (some kk) out w) {ds:List Deferred} {K:Act→World→Prop} {Q:Exit→Act→World→Prop}
  (hK:∀ (b:Bool) o' w',StRel P (ltU w'.heap.size) o' (st.drop.put o.dst (.d (.bool b))) (fun _=>none) (putT tmps o.dst (.bool b)) w'→J (if b then some (kk + 1) else none) o' w'→Stays w (ownOf out μ) w' (ownOf o' (fun _=>none)) →
   K { tmps:=putT tmps o.dst (.bool b),defers:=ds } w'):o.wpIn (fence none) n P { tmps:=tmps,defers:=ds } w K Q:=by
 refine⟨fun _ _=>trivial,?_⟩
 unfold yieldOf at hy
 split at hy
 ·rename_i f args ts ho
  split at hy
  ·rename_i l' hev
   cases hy
   have hf:=h.ev f []
   rw [hev] at hf
   have hv:val tmps f=.func (.yield l) #[] #[]:=z1086 hf
   have hargs:args.map (val tmps)=(args.toList.map (val tmps)).toArray:=by apply Array.toList_inj.1;simp
   have hrels:DRels w out row ((args.toList.map (val tmps)).toArray):=z219 h (by simp) (fun i x v hx hv=>by
    simp only [List.getElem?_map,Option.map_eq_some_iff,List.getElem?_toArray] at hx hv
    obtain⟨a,ha,rfl⟩:=hx
    obtain⟨b,hb,rfl⟩:=hv
    rw [ha] at hb;cases hb
    exact h.ev a []) hrow
   obtain⟨fn,tmps1,assign,body,hyr,hround⟩:=hG (n - 1) kk out w _ row hk hJ hrels
   have hrun:(execOp ({ tmps:=tmps,defers:=ds }:Act).eval o).run P w=.ok (.round l fn tmps1 assign body) w:=by
    unfold execOp
    rw [z22]
    simp only [val] at hv hargs
    simp only [ho,resolve,hargs,hv,Deferred.ofValue,invoke,Sem.run_bind,Sem.run_pure,Result.andThen_ok,Array.empty_append]
    exact hyr
   rw [Oper.semAt_eq _ _ _ (by rw [ho];intro c hc;cases hc),hrun]
   simp only [Oper.uponIn_round]
   refine⟨(fun hsome=>(by cases hsome)),hround.mono ?_⟩
   rintro e w' ⟨b,o',rfl,hJ',hs⟩
   simp only [z78]
   have hlt:=hS.lt _ _ _ hJ'
   refine hK b o' w' (z1189 h hs hlt) hJ' ⟨hs.1,fun k hk ho=>?_⟩
   obtain⟨p1,p2⟩:=hs.2 k hk (fun hc=>ho (.inl hc))
   exact⟨p1,fun hc=>p2 (by rcases hc with hc | ⟨n,z,l,c,hc⟩;exact hc;cases hc)⟩
  ·cases hy
 ·cases hy
theorem z857 {l:Nat} {items:List (List DV)} {J:Seen} {B:Nat} (hS:SeenOk B J) (hG:Gives P l J items) {ds:List Deferred} {Qm:Exit→Act→World→Prop}:∀ (os:List Oper) (i:Nat) (k:Option Nat) (st:St) (K:Option Nat→St→Prop) (base:Own) (out:Own) (μ:Pl) (tmps:Array Value) (w:World),
  (∀ j o,os[j]?=some o→ops[i + j]?=some o)→runY P l items ops os k st K→StRel P base out st μ tmps w→(∀ w',BelowU base w w'→J k out w') →
  (∀ k' st' base' out' μ' tmps' w',StRel P base' out' st' μ' tmps' w'→(∀ w'',BelowU base' w' w''→J k' out' w'')→Stays w (ownOf out μ) w' (ownOf out' μ')→Same (opDsts os) tmps tmps'→K k' st'→Qm .normal { tmps:=tmps',defers:=ds } w') →
  wpOpsIn (fence none) n P ops Qm (List.range' i os.length) { tmps:=tmps,defers:=ds } w
 | [],i,k,st,K,base,out,μ,tmps,w,_,hr,h,hJ,hK=>hK k st base out μ tmps w h hJ (.refl _ _) (Same.refl _ _) hr
 | o::os,i,k,st,K,base,out,μ,tmps,w,hos,hr,h,hJ,hK=>by
  rw [List.length_cons,List.range'_succ,wpOpsIn_cons]
  have ho:ops[i]?=some o:=by simpa using hos 0 o (by simp)
  have hos':∀ j o',os[j]?=some o'→ops[i + 1 + j]?=some o':=fun j o' hj=>by have:=hos (j + 1) o' (by simpa using hj);rwa [show i + 1 + j=i + (j + 1) by omega]
  -- a step that is no yield
  have plain:∀ s',StepG P ops o st s'→dstOk o=true→runY P l items ops os k s' K→wpOpIn (fence none) n P ops Qm i (wpOpsIn (fence none) n P ops Qm (List.range' (i + 1) os.length)) { tmps:=tmps,defers:=ds } w:=fun s' h1 hd h2 =>
   z65 h ho hd h1 fun tmps' μ' w1 h3 hB hSa=>z857 hS hG os (i + 1) k s' K base out μ' tmps' w1 hos' h2 h3 (fun w'' hb=>hJ w'' (hB.keep.below.trans hb)) fun k2 st2 base2 out2 μ2 tmps2 w2 h4 hJ2 hs2 hSa2 hk2 =>
    hK k2 st2 base2 out2 μ2 tmps2 w2 h4 hJ2 (Stays.trans ⟨hB.keep.below.size,hB.stays⟩ hs2) (hSa.cons hSa2) hk2
  -- a yield that is wanted
  have yes:Region.wanted o (yielded ops tmps)=true→∀ lx,yieldOf o st=some lx→yieldK l lx.1 items lx.2 o.dst k st (fun k s=>runY P l items ops os k s K) →
    wpOpIn (fence none) n P ops Qm i (wpOpsIn (fence none) n P ops Qm (List.range' (i + 1) os.length)) { tmps:=tmps,defers:=ds } w:=by
   rintro hw ⟨l',xs⟩ hy ⟨rfl,kk,row,rfl,hrow,hk,ht,hf⟩
   unfold wpOpIn
   simp only [ho,hw,if_true]
   refine z433 h hy hS hG hrow hk (hJ w (.refl _ _)) fun b o' w1 h3 hJ1 hs1=>?_
   refine z857 hS hG os (i + 1) (if b then some (kk + 1) else none) (st.drop.put o.dst (.d (.bool b))) K (ltU w1.heap.size) o' _ _ w1 hos' (by cases b;exact hf;exact ht) h3 (fun w'' hb=>hS.below _ _ _ _ hJ1 hb.to) fun k2 st2 base2 out2 μ2 tmps2 w2 h4 hJ2 hs2 hSa2 hk2 =>
    hK k2 st2 base2 out2 μ2 tmps2 w2 h4 hJ2 (hs1.trans hs2) ((z44 tmps o.dst _).cons hSa2) hk2
  obtain⟨hd,hr⟩:=hr
  cases hg:guardT ops o with
  | none=>rw [hg] at hr;exact hr.elim
  | some g =>
   rw [hg] at hr
   cases g with
   | none =>
    have hgp:=z93 hg
    dsimp only at hr
    unfold stepY at hr
    split at hr
    ·rename_i lx hy
     exact yes (by simp [Region.wanted,hgp]) lx hy hr
    ·obtain⟨s1,h1,h2⟩:=z77 hr
     exact plain s1 (by unfold StepG;rw [hgp];exact h1) hd h2
   | some tw =>
    obtain⟨t,want⟩:=tw
    obtain⟨j,hj,ht⟩:=z82 hg
    have hr:guardedY P l items (st.ev (.tmp t)) want o k st (fun k s=>runY P l items ops os k s K):=hr _ fun k s hs=>hs
    unfold guardedY guardK at hr
    split at hr
    ·rename_i b hev
     by_cases hb:b=want
     ·have hr:=hr.1 hb
      unfold stepY at hr
      split at hr
      ·rename_i lx hy
       refine yes ?_ lx hy hr
       obtain⟨v,hv,hrel⟩:=z237 h hev (by simp)
       have:=z57 hrel
       subst this
       have:yielded ops tmps j=some b:=by unfold yielded;rw [ht];simp [hv]
       simp [Region.wanted,hj,this,hb]
      ·obtain⟨s1,h1,h2⟩:=z77 hr
       exact plain s1 (by unfold StepG;rw [hj];exact⟨t,ht,.inl ⟨by rw [hev,hb],h1⟩⟩) hd h2
     ·have hb':b=!want:=by cases b <;> cases want <;> simp_all
      exact plain _ (by unfold StepG;rw [hj];exact⟨t,ht,.inr ⟨.inl (by rw [hev,hb']),rfl⟩⟩) hd (hr.2 hb')
    ·rename_i hev
     exact plain _ (by unfold StepG;rw [hj];exact⟨t,ht,.inr ⟨.inr hev,rfl⟩⟩) hd hr
    ·exact hr.elim
theorem z569 {l:Nat} {items:List (List DV)} {J:Seen} {B0:Nat} (hS:SeenOk B0 J) (hG:Gives P l J items) {id:Nat} {k:Option Nat} {Q:Exit→Option Nat→St→Prop} (h:runY P l items ops ops.toList k st (Q .normal)) :
  Walk P none n (fun k _ o w=>J k o w) (.region id ops false) k st Q:=fun B base out μ tmps w ds _ hst hJ hM=>by
 refine wpIn_region ?_
 have:=z857 (n:=n) hS hG (ds:=ds) (Qm:=Ends P (fun k _ o w=>J k o w) B (dsts (.region id ops false)) (ownOf out μ) tmps w Q) ops.toList 0 k st (Q .normal) base out μ tmps w (fun j o hj=>by simpa using hj) h hst hJ
  (fun k' st' base' out' μ' tmps' w' h1 hJ' hs hSa hk=>⟨k',st',base',out',μ',h1,hJ',hM.stays hs,hs,hSa,hk⟩)
 rw [List.range_eq_range']
 simpa using this
theorem z491 {l:Nat} {items:List (List DV)} {J:Seen} {B0:Nat} (hS:SeenOk B0 J) (hG:Gives P l J items) {id:Nat} {k:Option Nat} {cs:List Code} {Q:Exit→Option Nat→St→Prop}
  (h:∀ K:Option Nat→St→Prop,(∀ k s,WalkL P none n (fun k _ o w=>J k o w) cs k s Q→K k s)→runY P l items ops ops.toList k st K) :
  WalkL P none n (fun k _ o w=>J k o w) (.region id ops false::cs) k st Q :=
 z569 hS hG (h _ fun _ _ h=>h)
theorem z1084 {f:FuncId} {fn:Func} {c:Code} {caps:List DV} {items:List (List DV)} (M:Nat) (he:∀ args w,(callFunc f args).run P w=.ok (.enter f args) w) (hf:P.funcs[f]?=some fn) (hb:fn.body=some c) (h4:fn.results=#[])
  (hw:∀ l J B,SeenOk B J→Gives P l J items→WalkL P none 0 (fun k _ o w=>J k o w) [c] (some 0) (St.start (.yld l::caps) fn.ntmps M) (fun e k _=>endsOk e∧(k=some items.length∨k=none))):Iter P f caps items:=by
 refine⟨he,fun l J w own vs hS hG hown hh hd h0=>?_⟩
 have hwk:=z21 (hw l J w.heap.size hS hG)
 have hD:DRels w own (.yld l::caps) (#[.func (.yield l) #[] #[]]++vs):=?_
 ·have hO:EnvOk w.heap.size (fun k _ o w=>J k o w):=fun k b o w1 w2 r hr hno ho hj=>hS.other k o w1 w2 r hr hno ho hj
  refine z125 M hf hb (by rw [h4];simp) hwk hown hh hD hO (fun w' hB=>hS.below _ _ _ _ h0 hB) fun e k s hq=>?_
  refine⟨hq.1,.tup [],by simp [resultsA,h4,allSome,retA],fun base' out' μ tmps v w' _ _ hj=>⟨v,out',rfl,?_⟩⟩
  rcases hq.2 with rfl | rfl
  ·exact .inl hj
  ·exact .inr hj
 refine⟨by rw [Array.size_append,← hd.1,List.length_cons,Nat.add_comm];rfl,fun i d v hi hv=>?_⟩
 ·cases i with
  | zero =>
   rw [Array.getElem?_append_left (by simp)] at hv
   simp at hi hv
   subst hi;subst hv
   exact .yld l
  | succ i =>
   simp only [List.getElem?_cons_succ] at hi
   refine hd.2 i d v hi ?_
   rw [Array.getElem?_append_right (by simp)] at hv
   simpa using hv
end
theorem z240 {P:Program} {l:Nat} {items:List (List DV)} {o:Oper} {k:Option Nat} {s:St} {K K':Option Nat→St→Prop} (h:stepY P l items o k s K) (hK:∀ k s,K k s→K' k s):stepY P l items o k s K':=by
 unfold stepY at h ⊢
 split
 ·rename_i hy
  rw [hy] at h
  obtain⟨h1,kk,row,h2,h3,h4,h5,h6⟩:=h
  exact⟨h1,kk,row,h2,h3,h4,hK _ _ h5,hK _ _ h6⟩
 ·rename_i hy
  rw [hy] at h
  exact z241 h fun s=>hK k s
theorem z711 (P:Program) (l:Nat) (items:List (List DV)) (o:Oper) (k:Option Nat) (s:St) (R:Option Nat→St→Prop):guardRunY P l items (.d (.bool true)) true o k s R=stepY P l items o k s R:=by
 apply propext
 exact⟨fun h=>(h R (fun _ _ h=>h)).1 rfl,fun h K' hK=>⟨fun _=>z240 h hK,fun e=>(by cases e)⟩⟩
theorem z714 (P:Program) (l:Nat) (items:List (List DV)) (o:Oper) (k:Option Nat) (s:St) (R:Option Nat→St→Prop):guardRunY P l items (.d (.bool false)) false o k s R=stepY P l items o k s R:=by
 apply propext
 exact⟨fun h=>(h R (fun _ _ h=>h)).1 rfl,fun h K' hK=>⟨fun _=>z240 h hK,fun e=>(by cases e)⟩⟩
theorem z712 (P:Program) (l:Nat) (items:List (List DV)) (o:Oper) (k:Option Nat) (s:St) (R:Option Nat→St→Prop):guardRunY P l items (.d (.bool true)) false o k s R=R k (s.put o.dst .void):=by
 apply propext
 exact⟨fun h=>(h R (fun _ _ h=>h)).2 rfl,fun h K' hK=>⟨fun e=>(by cases e),fun _=>hK _ _ h⟩⟩
theorem z713 (P:Program) (l:Nat) (items:List (List DV)) (o:Oper) (k:Option Nat) (s:St) (R:Option Nat→St→Prop):guardRunY P l items (.d (.bool false)) true o k s R=R k (s.put o.dst .void):=by
 apply propext
 exact⟨fun h=>(h R (fun _ _ h=>h)).2 rfl,fun h K' hK=>⟨fun e=>(by cases e),fun _=>hK _ _ h⟩⟩
theorem z427 (P:Program) (l:Nat) (items:List (List DV)) (want:Bool) (o:Oper) (k:Option Nat) (s:St) (R:Option Nat→St→Prop):guardRunY P l items .void want o k s R=R k (s.put o.dst .void):=by
 apply propext
 exact⟨fun h=>h R (fun _ _ h=>h),fun h K' hK=>hK _ _ h⟩
theorem z1135 (P:Program) (l:Nat) (items:List (List DV)) (ops:Array Oper) (k:Option Nat) (s:St) (K:Option Nat→St→Prop):runY P l items ops [] k s K=K k s:=rfl
theorem z1051 (P:Program) (l:Nat) (items:List (List DV)) (ops:Array Oper) (o:Oper) (os:List Oper) (k:Option Nat) (x:AV) (t:List AV) (m:List (Option Blk)) (K:Option Nat→St→Prop):runY P l items ops (o::os) k ⟨x::t,m⟩ K=(dstOk o=true∧match guardT ops o with
  | none=>False
  | some none=>stepY P l items o k ⟨x::t,m⟩ fun k s=>runY P l items ops os k s K
  | some (some (t',want))=>guardRunY P l items ((⟨x::t,m⟩:St).ev (.tmp t')) want o k ⟨x::t,m⟩ fun k s=>runY P l items ops os k s K):=rfl
attribute [go_sem] dropT dropM St.drop stepY yieldOf z711 z714 z712 z713 z427 z1135 z1051
end Go.Ab
/- A range over an iterator: the caller's walk. -/
namespace Go.Ab
open Go.RowKit
def setPs:List Nat→List DV→List AV→List AV
 | p::ps,d::ds,t=>setPs ps ds (t.set p (.d d))
 | _,_,t=>t
def St.wipe (D:List Nat) (s:St):St:={ t:=wipeT D s.t,m:=s.m }
def jumpCode:Exit→Option Code
 | .ret=>some .ret
 | .exit id=>some (.exit id)
 | .goto t=>some (.goto t)
 | _=>none
section
variable {P:Program} {base:Own} {out:Own} {st st':St} {μ:Pl} {tmps:Array Value} {w w':World} {J:Env} {k:Option Nat} {B:Nat}
theorem z565:∀ {D:List Nat} {t:List AV} {i:Nat} {x:AV},(wipeT D t)[i]?=some x→x=.undef∨(i ∉ D∧t[i]?=some x)
 | [],t,i,x,h=>.inr ⟨by simp,h⟩
 | d::D,t,i,x,h=>by
  rcases z565 (D:=D) h with h | ⟨h1,h2⟩
  ·exact .inl h
  ·rw [List.getElem?_set] at h2
   by_cases hd:d=i
   ·subst hd
    simp only [if_true] at h2
    split at h2
    ·cases h2;exact .inl rfl
    ·cases h2
   ·simp only [hd,if_false] at h2
    exact .inr ⟨by simp [h1];exact fun e=>hd e.symm,h2⟩
theorem z564:∀ (D:List Nat) (t:List AV),(wipeT D t).length=t.length
 | [],_=>rfl
 | d::D,t=>by simp [wipeT,z564 D]
theorem z489 {tmps':Array Value} (h:StRel P base out st μ tmps' w) {D:List Nat} (hS:Same D tmps tmps'):StRel P base out (st.wipe D) μ tmps w:=by
 refine⟨by rw [← hS.1,h.size];simp [St.wipe,z564],fun i x v hx hv=>?_,h.mem,h.hid,h.out,h.le⟩
 rcases z565 hx with rfl | ⟨h1,h2⟩
 ·exact .undef v
 ·exact h.tmp i x v h2 (by rw [hS.2 i h1];exact hv)
theorem Other.back {r:Nat} (ho:Other r w w') (hr:r<w.heap.size) {w2:World} (hB:BelowU base w' w2):∃ w1,BelowU base w w1∧Other r w1 w2:=by
 obtain⟨o,hwo⟩:∃ o,w.heap[r]?=some o:=⟨_,Array.getElem?_eq_getElem hr⟩
 have hr2:r<w2.heap.size:=Nat.lt_of_lt_of_le hr (by rw [← ho.wrote.size];exact hB.size)
 refine⟨w2.putObj r o,⟨hB.os.trans ho.wrote.os,hB.tape.trans ho.wrote.tape,hB.output.trans ho.wrote.output,by rw [World.putObj_size,← ho.wrote.size];exact hB.size,fun k hk=>?_⟩,⟨⟨rfl,rfl,rfl,by simp,fun k hk=>(World.putObj_heap_other hk).symm⟩,fun cs ty x e=>?_,fun es c e=>?_⟩⟩
 ·by_cases hkr:k=r
  ·subst hkr;rw [World.putObj_heap_same hr2,hwo]
  ·rw [World.putObj_heap_other hkr,hB.block k hk,ho.wrote.block k hkr]
 ·rw [World.putObj_heap_same hr2] at e
  exact ho.no cs ty x (hwo.trans e)
 ·rw [World.putObj_heap_same hr2] at e
  exact ho.noM es c (hwo.trans e)
theorem z38 (hO:EnvOk B J) (hJ:∀ w',BelowU base w w'→J k base out w') {r:Nat} (hB:B≤r) (hno:¬ out r) (hr:r<w.heap.size) (ho:Other r w w'):∀ w2,BelowU base w' w2→J k base out w2:=fun w2 h2=>by
 obtain⟨w1,h1,ho1⟩:=ho.back hr h2
 exact hO k base out w1 w2 r hB hno ho1 (hJ w1 h1)
theorem z41 {r:Nat} {o o':Obj} (h:w.heap[r]?=some o) (hno:∀ cs ty x,o≠.cells cs ty x) (hnoM:∀ es c,o≠.map es c):Other r w (w.putObj r o') :=
 ⟨⟨rfl,rfl,rfl,by simp,fun _ hk=>World.putObj_heap_other hk⟩,fun cs ty x e=>(by rw [h] at e;cases e;exact hno _ _ _ rfl),fun es c e=>(by rw [h] at e;cases e;exact hnoM _ _ rfl)⟩
theorem z488:∀ (ps:List Nat) (ds:List DV) (vs:List Value) (st:St) (tmps:Array Value),ds.length=vs.length→(∀ (i:Nat) d v,ds[i]?=some d→vs[i]?=some v→DRel w (ownOf out μ) d v)→StRel P base out st μ tmps w →
  StRel P base out { t:=setPs ps ds st.t,m:=st.m } μ ((ps.zip vs).foldl (fun t (p,v)=>t.setIfInBounds p v) tmps) w
 | [],_,_,st,tmps,_,_,h=>by simpa [setPs] using h
 | _::_,[],[],st,tmps,_,_,h=>by simpa [setPs] using h
 | p::ps,d::ds,v::vs,st,tmps,hl,hd,h=>by
  have h1:=h.put (.d (hd 0 d v rfl rfl)) (some p)
  have:=z488 ps ds vs (st.put (some p) (.d d)) (putT tmps (some p) v) (by simpa using hl) (fun i d' v' h1 h2=>hd (i + 1) d' v' (by simpa using h1) (by simpa using h2)) h1
  simpa [setPs,St.put,putT] using this
 | _::_,[],_::_,_,_,hl,_,_=>by simp at hl
 | _::_,_::_,[],_,_,hl,_,_=>by simp at hl
theorem z209:∀ (ps:List Nat) (vs:List Value) (tmps:Array Value),Same ps tmps ((ps.zip vs).foldl (fun t (p,v)=>t.setIfInBounds p v) tmps)
 | [],_,_=>Same.refl _ _
 | _::_,[],_=>Same.refl _ _
 | p::ps,v::vs,tmps=>⟨by have:=(z209 ps vs (tmps.setIfInBounds p v)).1;simpa using this,fun i hi=>by
  have h1:=(z209 ps vs (tmps.setIfInBounds p v)).2 i (by simp at hi;simp [hi.2])
  have h2:p≠i:=fun e=>hi (by simp [e])
  simp only [List.zip_cons_cons,List.foldl_cons]
  rw [h1,Array.getElem?_setIfInBounds_ne h2]⟩
theorem z1177 {own:Own} {f:FuncId} {cs:List DV} {v:Value} (h:AVRel w own μ (.d (.fn f cs)) v):∃ vs:Array Value,v=.func (.func f) #[] vs∧DRels w own cs vs:=by
 obtain⟨vs,h1,h2,h3⟩:=z547 h
 exact⟨vs,h1,h2,h3⟩
theorem z756 {n:Nat} {α:Type} {cs:List Code} {Q:Exit→Option Nat→St→Prop} {g:Operand} {ps:Array Tmp} {assign body:Code} {f:FuncId} {caps:List DV} {items:List (List DV)}
  (hg:st.ev g=.d (.fn f caps)) (hit:Iter P f caps items) (hps:∀ row ∈ items,row.length=ps.size)
  (fs:α→St) (I:Option Nat→Nat→α→Prop) (Ix:Exit→Option Nat→α→Prop) (a0:α) (hw:Weak st (fs a0)) (h0:I k 0 a0)
  (hround:∀ k' i a row,items[i]?=some row→I k' i a→∀ l m,WalkL P (some l) m J [assign] k' { t:=setPs ps.toList row (fs a).t,m:=(fs a).m }
   (thenA (fun k2 s=>WalkL P (some l) m J [body] k2 s fun e k3 s3=>match e with
    | .normal=>∃ a',Weak (s3.wipe (dsts (.rangeFunc g ps assign body))) (fs a')∧I k3 (i + 1) a'
    | e=>(jumpCode e).isSome∧∃ a',Weak (s3.wipe (dsts (.rangeFunc g ps assign body))) (fs a')∧Ix e k3 a') (fun _ _ _=>False)))
  (hdone:∀ k' a,I k' items.length a→WalkL P none n J cs k' (fs a) Q) (hstop:∀ e k' a,Ix e k' a→(jumpCode e).isSome→Q e k' (fs a)) :
  WalkL P none n J (.rangeFunc g ps assign body::cs) k st Q:=by
 intro B base out μ tmps w ds hO hA hJ hM
 obtain⟨vs,hgv,hcaps⟩:=z1177 (hg ▸ hA.ev g ds)
 obtain⟨μ0,hA0,hsub0⟩:=hw P base out μ tmps w hA
 have hgoes0:Goes w (ownOf out μ) w (ownOf out μ0):=fun b o v h1 h2=>⟨fun hc=>h1 (hsub0 b hc),h2⟩
 refine wpIn_rangeFunc ?_
 intro fn hfn
 obtain⟨rec,hrec⟩:∃ rec:LoopState→Option Code→Loop,rec=fun st pe=>{ state:=st,pending:=pe,fn,tmps:=tmps,params:=ps,assign,body,defers:=w.heap.size }:=⟨_,rfl⟩
 obtain⟨W1,hW1⟩:∃ W1,(w.alloc (.deferred (some []))).alloc (.loop (rec .ready none))=W1:=⟨_,rfl⟩
 have hL1:W1.heap[w.heap.size + 1]?=some (.loop (rec .ready none)):=by
  rw [← hW1];have:=World.alloc_heap_new (w.alloc (.deferred (some []))) (.loop (rec .ready none));rwa [World.size_alloc] at this
 have hK1:W1.heap[w.heap.size]?=some (.deferred (some [])):=by
  rw [← hW1];exact (Below.heap_alloc _ _ _ (by simp)).trans (World.alloc_heap_new w _)
 have hB1:Below w.heap.size w W1:=by
  rw [← hW1];exact ((Below.refl _ w).alloc (Nat.le_refl _) _).alloc (by simp) _
 have hz1:W1.heap.size=w.heap.size + 2:=by rw [← hW1];simp
 -- what the caller says between two rounds
 obtain⟨JJ,hJJ⟩:∃ JJ:Seen,JJ=fun ki o W=>∃ (e:Exit) (kk:Option Nat) (a:α) (b':Own) (o':Own) (μ':Pl),o=(fun b=>ownOf o' μ' b∨b=w.heap.size + 1)∧StRel P b' o' (fs a) μ' tmps W∧(∀ w'',BelowU b' W w''→J kk b' o' w'') ∧
   Stays w (ownOf out μ0) W (ownOf o' μ')∧¬ ownOf o' μ' w.heap.size∧¬ ownOf o' μ' (w.heap.size + 1)∧W.heap[w.heap.size]?=some (.deferred (some [])) ∧
   match ki with
   | some i=>I kk i a∧W.heap[w.heap.size + 1]?=some (.loop (rec .ready none))
   | none=>Ix e kk a∧(jumpCode e).isSome∧W.heap[w.heap.size + 1]?=some (.loop (rec .done (jumpCode e))):=⟨_,rfl⟩
 have hBw:B≤w.heap.size:=hM.1
 have hS:SeenOk W1.heap.size JJ:=by
  subst hJJ
  refine⟨?_,?_,?_⟩
  ·rintro ki o W W' ⟨e,kk,a,b',o',μ',rfl,h1,h2,h3,h4,h5,h6,h7⟩ hB
   have hl1:W'.heap[w.heap.size]?=some (.deferred (some [])):=by rw [hB.block _ (Array.getElem?_eq_some_iff.1 h6).1];exact h6
   refine⟨e,kk,a,b',o',μ',rfl,h1.below hB,fun w'' hb=>h2 w'' ((BelowU.of hB h1.le).trans hb),h3.trans ⟨hB.size,fun b hb ho=>⟨hB.block b hb,ho⟩⟩,h4,h5,hl1,?_⟩
   cases ki with
   | some i=>exact⟨h7.1,by rw [hB.block _ (Array.getElem?_eq_some_iff.1 h7.2).1];exact h7.2⟩
   | none=>exact⟨h7.1,h7.2.1,by rw [hB.block _ (Array.getElem?_eq_some_iff.1 h7.2.2).1];exact h7.2.2⟩
  ·rintro ki o W W' r hr hno ho ⟨e,kk,a,b',o',μ',rfl,h1,h2,h3,h4,h5,h6,h7⟩
   have hr1:r≠w.heap.size:=by omega
   have hr2:r≠w.heap.size + 1:=by omega
   have hnr:¬ o' r:=fun hc=>hno (.inl (.inl hc))
   have hbelow:∀ w2,BelowU b' W' w2→J kk b' o' w2:=by
    by_cases hrs:r<W.heap.size
    ·exact z38 hO h2 (by omega) hnr hrs ho
    ·intro w2 hb
     refine h2 w2 ⟨hb.os.trans ho.wrote.os,hb.tape.trans ho.wrote.tape,hb.output.trans ho.wrote.output,by rw [← ho.wrote.size];exact hb.size,fun q hq=>?_⟩
     rw [hb.block q hq]
     exact ho.wrote.block q (fun e=>by have:=h1.le q hq;omega)
   refine⟨e,kk,a,b',o',μ',rfl,h1.other ho,hbelow,⟨by rw [ho.wrote.size];exact h3.1,fun b hb hob=>?_⟩,h4,h5,by rw [ho.wrote.block _ (Ne.symm hr1)];exact h6,?_⟩
   ·rw [ho.wrote.block b (by omega)];exact h3.2 b hb hob
   ·cases ki with
    | some i=>exact⟨h7.1,by rw [ho.wrote.block _ (Ne.symm hr2)];exact h7.2⟩
    | none=>exact⟨h7.1,h7.2.1,by rw [ho.wrote.block _ (Ne.symm hr2)];exact h7.2.2⟩
  ·rintro ki o W ⟨e,kk,a,b',o',μ',rfl,h1,h2,h3,h4,h5,h6,h7⟩ b (hb | rfl)
   ·exact z32 h1 b hb
   ·cases ki with
    | some i=>exact (Array.getElem?_eq_some_iff.1 h7.2).1
    | none=>exact (Array.getElem?_eq_some_iff.1 h7.2.2).1
 have hG:Gives P (w.heap.size + 1) JJ items:=by
  intro m i o W vals row hi hj hrow
  rw [hJJ] at hj
  obtain⟨_,kk,a,b',o',μ',rfl,h1,h2,h3,h4,h5,h6,h7,h8⟩:=hj
  have hrl:=hps row (List.mem_of_getElem? hi)
  have hlt:w.heap.size + 1<W.heap.size:=(Array.getElem?_eq_some_iff.1 h8).1
  have hy:=run_yield (P:=P) (args:=vals) h8 (by rw [hrec];simp only;rw [← hrow.1,hrl])
  rw [hrec] at hy
  refine⟨fn,_,assign,body,hy,roundIn_of_wpIn trivial ?_⟩
  -- the element comes into the frame
  have hz:StRel P b' o' { t:=setPs ps.toList row (fs a).t,m:=(fs a).m } μ' ((ps.zip vals).foldl (fun t (p,v)=>t.setIfInBounds p v) tmps) W:=by
   have:=z488 ps.toList row vals.toList (fs a) tmps (by simpa using hrow.1) (fun i d v hd hv=>(hrow.2 i d v hd (by simpa using hv)).goes fun b o v h1 h2=>⟨fun hc=>h1 (.inl hc),h2⟩) h1
   rwa [← Array.toList_zip,← Array.foldl_toList] at *
  have hzs:Same ps.toList tmps ((ps.zip vals).foldl (fun t (p,v)=>t.setIfInBounds p v) tmps):=by
   have:=z209 ps.toList vals.toList tmps
   rwa [← Array.toList_zip,Array.foldl_toList] at this
  have hr0:=z21 (hround kk i a row hi h7 (w.heap.size + 1) m) B b' o' μ' _ W [] hO hz h2 (.nil (by omega))
  refine wpIn_mono hr0 ?_
  rintro e a1 w1 ⟨k1,s1,b1,o1,μ1,hA1,hJ1,hM1,hst1,hsa1,hq1⟩
  cases e with
  | normal =>
   -- the record is busy
   have hl1:w1.heap[w.heap.size + 1]?=some (.loop (rec .ready none)):=by rw [(hst1.2 _ hlt h5).1];exact h8
   have hno1:¬ ownOf o1 μ1 (w.heap.size + 1):=(hst1.2 _ hlt h5).2
   have hd1:w1.heap[w.heap.size]?=some (.deferred (some [])):=by rw [(hst1.2 _ (by omega) h4).1];exact h6
   have hnd1:¬ ownOf o1 μ1 w.heap.size:=(hst1.2 _ (by omega) h4).2
   have ho1:Other (w.heap.size + 1) w1 (w1.putObj (w.heap.size + 1) (.loop { rec .ready none with state:=.busy })):=z41 hl1 (fun _ _ _ e=>by cases e) (fun _ _ e=>by cases e)
   refine⟨_,run_beginRound hl1 (by rw [hrec]),?_⟩
   have hlt1:w.heap.size + 1<w1.heap.size:=(Array.getElem?_eq_some_iff.1 hl1).1
   have hM2:Marked B (ownOf o1 μ1) a1.defers (w1.putObj (w.heap.size + 1) (.loop { rec .ready none with state:=.busy })):=by
    obtain⟨q0,rs,q1,q2,q3⟩:=hM1
    refine⟨by simpa using q0,rs,q1,q2,fun r hr=>⟨(q3 r hr).1,(q3 r hr).2.1,?_⟩⟩
    rw [World.putObj_heap_other (fun e=>by subst e;have:=(q3 _ hr).2.2;rw [hl1] at this;cases this)]
    exact (q3 r hr).2.2
   have hb0:=z21 hq1 B b1 o1 μ1 a1.tmps _ a1.defers hO (hA1.other ho1) (z38 hO hJ1 (by omega) (fun hc=>hno1 (.inl hc)) hlt1 ho1) hM2
   refine wpIn_mono hb0 ?_
   rintro e2 a2 w2 ⟨k2,s2,b2,o2,μ2,hA2,hJ2,hM3,hst2,hsa2,hq2⟩
   have hz2:(w1.putObj (w.heap.size + 1) (.loop { rec .ready none with state:=.busy })).heap.size=w1.heap.size:=by simp
   have hl2:w2.heap[w.heap.size + 1]?=some (.loop { rec .ready none with state:=.busy }):=by
    rw [(hst2.2 _ (by rw [hz2];exact hlt1) hno1).1];exact World.putObj_heap_same hlt1
   have hno2:¬ ownOf o2 μ2 (w.heap.size + 1):=(hst2.2 _ (by rw [hz2];exact hlt1) hno1).2
   have hd2:w2.heap[w.heap.size]?=some (.deferred (some [])):=by
    rw [(hst2.2 _ (by rw [hz2];omega) hnd1).1,World.putObj_heap_other (by omega)];exact hd1
   have hnd2:¬ ownOf o2 μ2 w.heap.size:=(hst2.2 _ (by rw [hz2];omega) hnd1).2
   have hsame:Same (dsts (.rangeFunc g ps assign body)) tmps a2.tmps :=
    ((hzs.mono fun i hi=>by simp only [dsts,List.mem_append];exact .inl hi).trans (hsa1.mono fun i hi=>by simp only [dsts,List.mem_append];exact .inr (.inl hi))).trans (hsa2.mono fun i hi=>by simp only [dsts,List.mem_append];exact .inr (.inr hi))
   -- from the round's beginning to its end
   have hall:∀ (b:Nat),b<W.heap.size→b≠w.heap.size + 1→¬ ownOf o' μ' b→w2.heap[b]?=W.heap[b]?∧¬ ownOf o2 μ2 b:=by
    intro b hb hne ho
    obtain⟨p1,p2⟩:=hst1.2 b hb ho
    obtain⟨p3,p4⟩:=hst2.2 b (by rw [hz2];exact Nat.lt_of_lt_of_le hb hst1.1) p2
    exact⟨p3.trans ((World.putObj_heap_other hne).trans p1),p4⟩
   have hsz:W.heap.size≤w2.heap.size:=Nat.le_trans hst1.1 (by rw [← hz2];exact hst2.1)
   have hlt2:w.heap.size + 1<w2.heap.size:=(Array.getElem?_eq_some_iff.1 hl2).1
   have fin:∀ (pe:Option Code) (stt:LoopState) (a':α),Weak (s2.wipe (dsts (.rangeFunc g ps assign body))) (fs a')→∀ W5,W5=w2.putObj (w.heap.size + 1) (.loop (rec stt pe)) →
     ∃ μ5,StRel P b2 o2 (fs a') μ5 tmps W5∧(∀ w'',BelowU b2 W5 w''→J k2 b2 o2 w'')∧Stays w (ownOf out μ0) W5 (ownOf o2 μ5)∧¬ ownOf o2 μ5 w.heap.size∧¬ ownOf o2 μ5 (w.heap.size + 1)∧W5.heap[w.heap.size]?=some (.deferred (some [])) ∧
      W5.heap[w.heap.size + 1]?=some (.loop (rec stt pe))∧Stays W (fun b=>ownOf o' μ' b∨b=w.heap.size + 1) W5 (fun b=>ownOf o2 μ5 b∨b=w.heap.size + 1):=by
    rintro pe stt a' hwk W5 rfl
    have ho2:Other (w.heap.size + 1) w2 (w2.putObj (w.heap.size + 1) (.loop (rec stt pe))):=z41 hl2 (fun _ _ _ e=>by cases e) (fun _ _ e=>by cases e)
    obtain⟨μ5,h51,h52⟩:=hwk P b2 o2 μ2 tmps _ (z489 (hA2.other ho2) hsame)
    refine⟨μ5,h51,z38 hO hJ2 (by omega) (fun hc=>hno2 (.inl hc)) hlt2 ho2,⟨by rw [World.putObj_size];exact Nat.le_trans h3.1 hsz,fun b hb ho=>?_⟩,fun hc=>hnd2 (h52 _ hc),fun hc=>hno2 (h52 _ hc),by rw [World.putObj_heap_other (by omega)];exact hd2,World.putObj_heap_same hlt2,⟨by rw [World.putObj_size];exact hsz,fun b hb ho=>?_⟩⟩
    ·obtain⟨p1,p2⟩:=h3.2 b hb ho
     obtain⟨p3,p4⟩:=hall b (Nat.lt_of_lt_of_le hb h3.1) (by omega) p2
     exact⟨(World.putObj_heap_other (by omega)).trans (p3.trans p1),fun hc=>p4 (h52 _ hc)⟩
    ·have hne:b≠w.heap.size + 1:=fun e=>ho (.inr e)
     obtain⟨p3,p4⟩:=hall b hb hne (fun hc=>ho (.inl hc))
     exact⟨(World.putObj_heap_other hne).trans p3,fun hc=>by rcases hc with hc | hc;exact p4 (h52 _ hc);exact hne hc⟩
   have out_:∀ e3,(jumpCode e3).isSome→(∃ a',Weak (s2.wipe (dsts (.rangeFunc g ps assign body))) (fs a')∧Ix e3 k2 a')→∃ v w',(Instr.endRound (w.heap.size + 1) (jumpCode e3)).run P w2=.ok v w' ∧
     ∃ b o5,Ending.returned v=.returned (.bool b)∧JJ (if b then some (i + 1) else none) o5 w'∧Stays W (fun b=>ownOf o' μ' b∨b=w.heap.size + 1) w' o5:=by
    rintro e3 hjs ⟨a',hwk,hix⟩
    obtain⟨μ5,q1,q2,q3,q4,q5,q6,q7,q8⟩:=fin (jumpCode e3) .done a' hwk _ rfl
    have hen:=run_endRound (P:=P) (jumpCode e3) hl2
    have hjn:(jumpCode e3).isNone=false:=by cases hj:jumpCode e3 <;> simp_all
    rw [hjn] at hen
    refine⟨_,_,hen,false,(fun b=>ownOf o2 μ5 b∨b=w.heap.size + 1),rfl,?_,?_⟩
    ·rw [hJJ]
     refine⟨e3,k2,a',b2,o2,μ5,rfl,?_,?_,?_,q4,q5,?_,hix,hjs,?_⟩
     ·rw [hrec] at q1 ⊢;exact q1
     ·rw [hrec] at q2 ⊢;exact q2
     ·rw [hrec] at q3 ⊢;exact q3
     ·rw [hrec] at q6 ⊢;exact q6
     ·rw [hrec] at q7 ⊢;exact q7
    ·rw [hrec] at q8 ⊢;exact q8
   cases e2 with
   | normal =>
    obtain⟨a',hwk,hI'⟩:=hq2
    obtain⟨μ5,q1,q2,q3,q4,q5,q6,q7,q8⟩:=fin none .ready a' hwk _ rfl
    have hen:=run_endRound (P:=P) none hl2
    refine⟨_,_,hen,true,(fun b=>ownOf o2 μ5 b∨b=w.heap.size + 1),rfl,?_,?_⟩
    ·rw [hJJ]
     refine⟨.normal,k2,a',b2,o2,μ5,rfl,?_,?_,?_,q4,q5,?_,hI',?_⟩
     ·rw [hrec] at q1 ⊢;exact q1
     ·rw [hrec] at q2 ⊢;exact q2
     ·rw [hrec] at q3 ⊢;exact q3
     ·rw [hrec] at q6 ⊢;exact q6
     ·rw [hrec] at q7 ⊢;exact q7
    ·rw [hrec] at q8 ⊢;exact q8
   | ret=>exact out_ .ret hq2.1 hq2.2
   | exit id=>exact out_ (.exit id) hq2.1 hq2.2
   | goto t=>exact out_ (.goto t) hq2.1 hq2.2
   | panic c=>exact absurd hq2.1 (by simp [jumpCode])
   | outgrown=>exact absurd hq2.1 (by simp [jumpCode])
  | _=>exact hq1.elim
 have hJ0:JJ (some 0) (fun b=>ownOf out μ0 b∨b=w.heap.size + 1) W1:=by
  rw [hJJ]
  have hlow:∀ b,ownOf out μ0 b→b<w.heap.size:=z32 hA0
  exact⟨.normal,k,a0,base,out,μ0,rfl,hA0.below hB1,fun w'' hb=>hJ w'' ((BelowU.of hB1 hA.le).trans hb),⟨hB1.size,fun b hb ho=>⟨hB1.block b hb,ho⟩⟩,
   fun hc=>by have:=hlow _ hc;omega,fun hc=>by have:=hlow _ hc;omega,hK1,h0,hL1⟩
 have hgoes2:Goes w (ownOf out μ0) W1 (fun b=>ownOf out μ0 b∨b=w.heap.size + 1):=fun b o u p1 p2=>⟨fun hc=>by rcases hc with hc | rfl;exact p1 hc;exact absurd p2.lt (by omega),p2.heap (hB1.block b p2.lt)⟩
 have hcalls:=hit.2 (w.heap.size + 1) JJ W1 (fun b=>ownOf out μ0 b∨b=w.heap.size + 1) vs hS hG (fun b hb=>hS.lt _ _ _ hJ0 b hb) (hA0.hid.goes hgoes2)
  ⟨hcaps.1,fun i d v h1 h2=>((hcaps.2 i d v h1 h2).goes hgoes0).goes hgoes2⟩ hJ0
 refine⟨w.heap.size + 1,[{ target:=.collected w.heap.size,args:=#[] }],W1,{ target:=.fn (.func f) vs,args:=#[.func (.yield (w.heap.size + 1)) #[] #[]] },W1,f,
  #[.func (.yield (w.heap.size + 1)) #[] #[]]++vs,W1,?_,?_,fun _ _=>trivial,?_,fun h=>(by cases h),?_⟩
 ·rw [← hW1,hrec];exact run_enterLoop_outer _ _ _ _ _
 ·simp only [resolve]
  have hgv':({ tmps:=tmps,defers:=ds }:Act).eval g=.func (.func f) #[] vs:=hgv
  simp only [hgv']
  simp [Deferred.ofValue,go_sem]
 ·simp [invoke];exact hit.1 _ _
 ·refine (callsIn_wide (n:=n - 1)).2 (hcalls.mono ?_)
  rintro e W2 ⟨v,o,rfl,hj⟩
  have hMk:∀ (o':Own) (μ':Pl) (W4:World),Stays w (ownOf out μ0) W4 (ownOf o' μ')→¬ ownOf o' μ' w.heap.size→W4.heap[w.heap.size]?=some (.deferred (some [])) →
    Marked B (ownOf o' μ') ([{ target:=.collected w.heap.size,args:=#[] }]++ds) W4:=by
   intro o' μ' W4 hs hno hd
   obtain⟨q0,rs,q1,q2,q3⟩:=hM
   refine⟨Nat.le_trans q0 hs.1,w.heap.size::rs,by rw [q1];rfl,?_,fun r hr=>?_⟩
   ·rw [List.nodup_cons]
    refine⟨fun hc=>?_,q2⟩
    have:=(Array.getElem?_eq_some_iff.1 (q3 _ hc).2.2).1
    omega
   ·rcases List.mem_cons.1 hr with rfl | hr
    ·exact⟨q0,hno,hd⟩
    ·obtain⟨p1,p2,p3⟩:=q3 r hr
     obtain⟨p4,p5⟩:=hs.2 r (Array.getElem?_eq_some_iff.1 p3).1 (fun hc=>p2 (hsub0 r hc))
     exact⟨p1,p5,p4.trans p3⟩
  rcases hj with hj | hj
  ·rw [hJJ] at hj
   obtain⟨_,kk,a,b',o',μ',rfl,h1,h2,h3,h4,h5,h6,h7,h8⟩:=hj
   have hel:∃ o4,(Instr.endLoop (w.heap.size + 1)).run P W2=.ok (none) (W2.putObj (w.heap.size + 1) o4):=⟨_,by
    have hel:=run_endLoop (P:=P) h8 (by rw [hrec];simp)
    have hpn:(rec .ready none).pending=none:=by rw [hrec]
    rw [hpn] at hel
    exact hel⟩
   obtain⟨o4,hel⟩:=hel
   have ho2:Other (w.heap.size + 1) W2 (W2.putObj (w.heap.size + 1) o4):=z41 h8 (fun _ _ _ e=>by cases e) (fun _ _ e=>by cases e)
   refine⟨none,_,hel,?_⟩
   have hlt:w.heap.size + 1<W2.heap.size:=(Array.getElem?_eq_some_iff.1 h8).1
   have hs4:Stays w (ownOf out μ0) (W2.putObj (w.heap.size + 1) o4) (ownOf o' μ') :=
    ⟨by rw [World.putObj_size];exact h3.1,fun b hb ho=>⟨(World.putObj_heap_other (by omega)).trans (h3.2 b hb ho).1,(h3.2 b hb ho).2⟩⟩
   exact⟨kk,fs a,b',o',μ',h1.other ho2,z38 hO h2 (by omega) (fun hc=>h5 (.inl hc)) hlt ho2,hMk o' μ' _ hs4 h4 (by rw [World.putObj_heap_other (by omega)];exact h6),(Stays.less hsub0).trans hs4,Same.refl _ _,hdone kk a h7⟩
  ·rw [hJJ] at hj
   obtain⟨e,kk,a,b',o',μ',rfl,h1,h2,h3,h4,h5,h6,h7,hjs,h8⟩:=hj
   have hel:∃ o4,(Instr.endLoop (w.heap.size + 1)).run P W2=.ok (jumpCode e) (W2.putObj (w.heap.size + 1) o4):=⟨_,by
    have hel:=run_endLoop (P:=P) h8 (by rw [hrec];simp)
    have hpn:(rec .done (jumpCode e)).pending=jumpCode e:=by rw [hrec]
    rw [hpn] at hel
    exact hel⟩
   obtain⟨o4,hel⟩:=hel
   have ho2:Other (w.heap.size + 1) W2 (W2.putObj (w.heap.size + 1) o4):=z41 h8 (fun _ _ _ e=>by cases e) (fun _ _ e=>by cases e)
   refine⟨jumpCode e,_,hel,?_⟩
   have hlt:w.heap.size + 1<W2.heap.size:=(Array.getElem?_eq_some_iff.1 h8).1
   have hs4:Stays w (ownOf out μ0) (W2.putObj (w.heap.size + 1) o4) (ownOf o' μ') :=
    ⟨by rw [World.putObj_size];exact h3.1,fun b hb ho=>⟨(World.putObj_heap_other (by omega)).trans (h3.2 b hb ho).1,(h3.2 b hb ho).2⟩⟩
   have hend:∀ Q',Q' e kk (fs a)→Ends P J B (dsts (.rangeFunc g ps assign body)) (ownOf out μ) tmps w Q' e { tmps:=tmps,defers:=[{ target:=.collected w.heap.size,args:=#[] }]++ds } (W2.putObj (w.heap.size + 1) o4):=fun Q' hq =>
    ⟨kk,fs a,b',o',μ',h1.other ho2,z38 hO h2 (by omega) (fun hc=>h5 (.inl hc)) hlt ho2,hMk o' μ' _ hs4 h4 (by rw [World.putObj_heap_other (by omega)];exact h6),(Stays.less hsub0).trans hs4,Same.refl _ _,hq⟩
   have hq:=hstop e kk a h7 hjs
   cases e with
   | ret=>exact wpIn_ret (hend _ hq)
   | exit id=>exact wpIn_exit (hend _ hq)
   | goto t=>exact wpIn_goto (hend _ hq)
   | _=>simp [jumpCode] at hjs
theorem z573 {n:Nat} {α:Type} {cs:List Code} {Q:Exit→Option Nat→St→Prop} {g:Operand} {ps:Array Tmp} {assign body:Code} {f:FuncId} {caps:List DV} {items:List (List DV)}
  (hg:st.ev g=.d (.fn f caps)) (hit:Iter P f caps items) (hps:∀ row ∈ items,row.length=ps.size)
  (ts:α→List (Nat × AV)) (ms:α→List (Nat × Option Blk)) (I:Nat→α→Prop) (Ix:Exit→α→Prop) (a0:α) (hw:Weak st (st.head (dsts (.rangeFunc g ps assign body)) (ts a0) (ms a0))) (h0:I 0 a0)
  (hround:∀ i a row,items[i]?=some row→I i a→∀ l m,WalkL P (some l) m J [assign] k { t:=setPs ps.toList row (st.head (dsts (.rangeFunc g ps assign body)) (ts a) (ms a)).t,m:=(st.head (dsts (.rangeFunc g ps assign body)) (ts a) (ms a)).m }
   (thenA (fun k2 s=>WalkL P (some l) m J [body] k2 s fun e k3 s3=>k3=k∧match e with
    | .normal=>∃ a',Weak (s3.wipe (dsts (.rangeFunc g ps assign body))) (st.head (dsts (.rangeFunc g ps assign body)) (ts a') (ms a'))∧I (i + 1) a'
    | e=>(jumpCode e).isSome∧∃ a',Weak (s3.wipe (dsts (.rangeFunc g ps assign body))) (st.head (dsts (.rangeFunc g ps assign body)) (ts a') (ms a'))∧Ix e a') (fun _ _ _=>False)))
  (hdone:∀ a,I items.length a→WalkL P none n J cs k (st.head (dsts (.rangeFunc g ps assign body)) (ts a) (ms a)) Q) (hstop:∀ e a,Ix e a→(jumpCode e).isSome→Q e k (st.head (dsts (.rangeFunc g ps assign body)) (ts a) (ms a))) :
  WalkL P none n J (.rangeFunc g ps assign body::cs) k st Q:=by
 refine z756 hg hit hps (fun a=>st.head (dsts (.rangeFunc g ps assign body)) (ts a) (ms a)) (fun k' i a=>k'=k∧I i a) (fun e k' a=>k'=k∧Ix e a) a0 hw ⟨rfl,h0⟩ ?_ ?_ ?_
 ·rintro k' i a row hi ⟨rfl,hI⟩ l m
  refine z46 (hround i a row hi hI l m) fun e k2 s hq=>?_
  cases e with
  | normal =>
   refine z46 (z21 hq) fun e k3 s3 hq3=>?_
   obtain⟨rfl,h⟩:=hq3
   cases e with
   | normal=>obtain⟨a',h1,h2⟩:=h;exact⟨a',h1,rfl,h2⟩
   | _=>obtain⟨hj,a',h1,h2⟩:=h;exact⟨hj,a',h1,rfl,h2⟩
  | _=>exact hq
 ·rintro k' a ⟨rfl,hI⟩;exact hdone a hI
 ·rintro e k' a ⟨rfl,hI⟩ hj;exact hstop e a hI hj
attribute [go_sem] setPs St.wipe jumpCode
end
end Go.Ab
/- Functions that are handed memory which they may write;a slice over a box;names that move. -/
namespace Go.Ab
open Go.RowKit
def St.startG (m0:List Blk) (args:List AV) (nt M:Nat):St :=
 { t:=args.map (AV.mapN fun i=>some (M + i))++List.replicate (nt - args.length) .undef,m:=List.replicate M none++m0.map fun b=>some (b.mapN fun i=>some (M + i)) }
def blksG (s:St) (gs:List Nat):List Nat→List Blk→Prop
 | [],[]=>True
 | n::ns,b::bs=>(match (s.m[n]?:Option (Option Blk)) with
  | some (some b')=>b=b'.mapN (inv gs)
  | _=>False)∧blksG s gs ns bs
 | _,_=>False
def isMp (n:Nat):AV→Bool
 | .mp a=>a == n
 | _=>false
def mpPin (i M:Nat):List AV→List AV→Bool
 | x::xs,y::ys=>(isMp i x && isMp (M + i) y) || mpPin i M xs ys
 | _,_=>false
theorem z702 {n:Nat} {x:AV} (h:isMp n x=true):x=.mp n:=by
 unfold isMp at h
 split at h
 ·simp at h;rw [h]
 ·cases h
theorem z693 {i M:Nat}:∀ {xs ys:List AV},mpPin i M xs ys=true→∃ j:Nat,xs[j]?=some (AV.mp i)∧ys[j]?=some (AV.mp (M + i))
 | [],ys,h=>by cases ys <;> simp [mpPin] at h
 | x::xs,[],h=>by simp [mpPin] at h
 | x::xs,y::ys,h=>by
  simp only [mpPin,Bool.or_eq_true,Bool.and_eq_true] at h
  rcases h with ⟨h1,h2⟩ | h
  ·exact⟨0,by rw [z702 h1];rfl,by rw [z702 h2];rfl⟩
  ·obtain⟨j,h1,h2⟩:=z693 h;exact⟨j + 1,by simpa using h1,by simpa using h2⟩
def pinG (m0:List Blk) (args:List AV) (M:Nat) (s:St):List (Nat × Nat)→Prop
 | []=>True
 | (i,p)::l=>(match args[p]?,(s.t[p]?:Option AV),m0[i]?,(s.m[M + i]?:Option (Option Blk)) with
  | some (.box i' o),some (.box n o'),some (.box _),some (some (.box _))=>i'=i∧n=M + i∧o=o'
  | some (.own i'),some (.own n),some (.arr _ z _),some (some (.arr _ z' _))=>i'=i∧n=M + i∧z=z'
  | some (.agg cs),some (.agg cs'),some (.mp _ _ _),some (some (.mp _ _ _))=>mpPin i M cs cs'=true
  | _,_,_,_=>False)∧pinG m0 args M s l
def namesG (k M:Nat) (extra:List Nat):List Nat:=(List.range k).map (M + ·)++extra
def retG (P:Program) (rs:Array ResultVar) (m0:List Blk) (args:List AV) (M:Nat) (extra:List Nat) (ps:List (Nat × Nat)) (r:AV) (m1:List Blk) (ex:Exit) (_:Option Nat) (s:St):Prop :=
 endsOk ex∧bindK (resultsA P s rs) fun x=>r=x.mapN (inv (namesG m0.length M extra))∧blksG s (namesG m0.length M extra) (namesG m0.length M extra) m1∧pinG m0 args M s ps
section
variable {P:Program} {base:Own} {out:Own} {st st':St} {μ:Pl} {tmps:Array Value} {w w':World}
theorem z359 {s:St} {gs:List Nat}:∀ {ns:List Nat} {bs:List Blk},blksG s gs ns bs→ns.length=bs.length∧∀ (i:Nat) b,bs[i]?=some b→∃ (n:Nat) (b':Blk),ns[i]?=some n∧s.m[n]?=some (some b')∧b=b'.mapN (inv gs)
 | [],[],_=>⟨rfl,fun i b h=>by simp at h⟩
 | n::ns,b::bs,h=>by
  obtain⟨h1,h2⟩:=h
  obtain⟨h3,h4⟩:=z359 h2
  refine⟨by simp [h3],fun i b2 hi=>?_⟩
  cases i with
  | zero =>
   simp at hi;subst hi
   split at h1
   ·rename_i b' hb';exact⟨n,b',rfl,hb',h1⟩
   ·exact h1.elim
  | succ i=>simpa using h4 i b2 (by simpa using hi)
 | [],_::_,h=>h.elim
 | _::_,[],h=>h.elim
theorem z447 {own:Own} {m0:List Blk} {args:List AV} {vs:Array Value} {nt:Nat} {μ0:Pl} (M:Nat) (hown:∀ b,own b→base b) (hle:∀ b,base b→b<w.heap.size) (hM:MemRel base own w μ0 (m0.map some)) (hh:Hid P w (ownOf own μ0))
  (hl:args.length=vs.size) (ha:∀ (i:Nat) x v,args[i]?=some x→vs[i]?=some v→AVRel w (ownOf own μ0) μ0 x v) :
  StRel P base own (St.startG m0 args nt M) (fun k=>if M≤k then μ0 (k - M) else none) (vs++Array.replicate (nt - vs.size) undef) w:=by
 have hsub:∀ b,ownOf own (fun k=>if M≤k then μ0 (k - M) else none) b→ownOf own μ0 b:=by
  rintro b (h | ⟨n,z,l,c,h⟩)
  ·exact .inl h
  ·dsimp only at h;split at h
   ·exact .inr ⟨_,z,l,c,h⟩
   ·cases h
 have hg:Goes w (ownOf own μ0) w (ownOf own (fun k=>if M≤k then μ0 (k - M) else none)):=fun b o v h1 h2=>⟨fun hc=>h1 (hsub b hc),h2⟩
 have hμ:∀ n,(μ0 n).isSome→∀ k,some (M + n)=some k→(fun k=>if M≤k then μ0 (k - M) else none) k=μ0 n:=fun n _ k hk=>by cases hk;simp
 refine⟨by simp [St.startG,hl],fun i x v hx hv=>?_,⟨fun n b hb=>?_,fun n hn=>?_,fun n k b z l c z' l' c' h1 h2=>?_,fun n b z l c h=>?_⟩,hh.goes hg,hown,hle⟩
 ·by_cases hi:i<args.length
  ·rw [St.startG,List.getElem?_append_left (by simpa using hi)] at hx
   rw [Array.getElem?_append_left (by rw [← hl];exact hi)] at hv
   simp only [List.getElem?_map,Option.map_eq_some_iff] at hx
   obtain⟨y,hx,rfl⟩:=hx
   exact (ha i y v hx hv).mapN (.inl hg) (fun n _ hs k hk=>hμ n hs k hk)
  ·rw [St.startG,List.getElem?_append_right (by simpa using Nat.le_of_not_lt hi),List.getElem?_replicate] at hx
   split at hx
   ·cases hx;exact .undef v
   ·cases hx
 ·simp only [St.startG] at hb
  by_cases hi:n<M
  ·rw [List.getElem?_append_left (by simpa using hi),List.getElem?_replicate] at hb
   split at hb <;> cases hb
  ·rw [List.getElem?_append_right (by simpa using Nat.le_of_not_lt hi)] at hb
   simp only [List.length_replicate,List.getElem?_map,Option.map_eq_some_iff,Option.some.injEq] at hb
   obtain⟨b0,hb0,rfl⟩:=hb
   exact BlkRel.mapN (n:=n - M) (.inl hg) (by simp [Nat.le_of_not_lt hi]) hμ (fun _ _ _ _ _=>rfl) (hM.blk (n - M) b0 (by simp [hb0]))
 ·split at hn
  ·rename_i h
   obtain⟨b,hb⟩:=hM.dom (n - M) hn
   simp only [List.getElem?_map,Option.map_eq_some_iff,Option.some.injEq] at hb
   obtain⟨b0,hb0,rfl⟩:=hb
   exact⟨b0.mapN fun i=>some (M + i),by simp only [St.startG];rw [List.getElem?_append_right (by simpa using h)];simp [hb0]⟩
  ·cases hn
 ·split at h1
  ·split at h2
   ·have:=hM.inj _ _ b _ _ _ _ _ _ h1 h2;omega
   ·cases h2
  ·cases h1
 ·split at h
  ·exact hM.base _ b z l c h
  ·cases h
theorem z681 {m0:List Blk} {args:List AV} {M:Nat} {s:St}:∀ {ps:List (Nat × Nat)},pinG m0 args M s ps→∀ i p,(i,p) ∈ ps →
  (∃ o r r',args[p]?=some (.box i o)∧s.t[p]?=some (.box (M + i) o)∧m0[i]?=some (.box r)∧s.m[M + i]?=some (some (.box r'))) ∨
  (∃ e e' z r r',args[p]?=some (.own i)∧s.t[p]?=some (.own (M + i))∧m0[i]?=some (.arr e z r)∧s.m[M + i]?=some (some (.arr e' z r'))) ∨
  (∃ (cs cs':List AV) (j:Nat) (kk:KK) (es:List (MK × DV × Nat)) (c:Nat) (kk':KK) (es':List (MK × DV × Nat)) (c':Nat),args[p]?=some (.agg cs)∧s.t[p]?=some (.agg cs')∧cs[j]?=some (AV.mp i)∧cs'[j]?=some (AV.mp (M + i))∧m0[i]?=some (.mp kk es c)∧s.m[M + i]?=some (some (.mp kk' es' c')))
 | [],_,i,p,h=>by cases h
 | (j,q)::l,h,i,p,hm=>by
  obtain⟨h1,h2⟩:=h
  rcases List.mem_cons.1 hm with e | hm
  ·cases e
   split at h1
   ·rename_i i' o n o' r r' e1 e2 e3 e4
    obtain⟨rfl,rfl,rfl⟩:=h1
    exact .inl ⟨_,_,_,e1,e2,e3,e4⟩
   ·rename_i e1 e2 e3 e4
    obtain⟨rfl,rfl,rfl⟩:=h1
    exact .inr (.inl ⟨_,_,_,_,_,e1,e2,e3,e4⟩)
   ·rename_i e1 e2 e3 e4
    obtain⟨j,h3,h4⟩:=z693 h1
    exact .inr (.inr ⟨_,_,j,_,_,_,_,_,_,e1,e2,h3,h4,e3,e4⟩)
   ·exact h1.elim
  ·exact z681 h2 i p hm
theorem z35 {f:FuncId} {fn:Func} {c:Code} {m0 m1:List Blk} {args:List AV} {r:AV} (M:Nat) (he:∀ args w,(callFunc f args).run P w=.ok (.enter f args) w) (hf:P.funcs[f]?=some fn) (hb:fn.body=some c) (h4:fn.results.size≤4)
  (extra:List Nat) (ps:List (Nat × Nat)) (hnd:(namesG m0.length M extra).Nodup) (hD:ps.all (fun q=>!(dsts c).contains q.2)=true)
  (hw:∀ J,WalkL P none 0 J [c] (some 0) (St.startG m0 args fn.ntmps M) (retG P fn.results m0 args M extra ps r m1)):FnG P f m0 (ps.map (·.1)) args r m1:=by
 refine⟨he,fun base w own μ0 vs hown hle hM hh hl ha=>?_⟩
 have hst0:=z447 (nt:=fn.ntmps) M hown hle hM hh hl ha
 obtain⟨μs,hμs⟩:∃ μs:Pl,μs=fun k=>if M≤k then μ0 (k - M) else none:=⟨_,rfl⟩
 rw [← hμs] at hst0
 have hs0:∀ b,ownOf own μs b↔ownOf own μ0 b:=by
  intro b
  rw [hμs]
  constructor
  ·rintro (h | ⟨n,z,l,c,h⟩)
   ·exact .inl h
   ·dsimp only at h;split at h
    ·exact .inr ⟨_,z,l,c,h⟩
    ·cases h
  ·rintro (h | ⟨n,z,l,c,h⟩)
   ·exact .inl h
   ·exact .inr ⟨M + n,z,l,c,by simp [h]⟩
 refine z119 hf hb h4 hst0 (z21 (hw fun _ b o w'=>b=base∧o=own∧BelowU base w w')) (fun k b o w1 w2 q hq _ ho ⟨h1,h2,h3⟩=>⟨h1,h2,h3.trans (ho.wrote.below (fun hc=>by have:=hle q hc;omega))⟩) (fun w' hB=>⟨rfl,rfl,hB⟩) ?_
 rintro e k s ⟨hend,x,hx,hr,hblk,hpin⟩
 refine⟨hend,x,hx,?_⟩
 rintro b o μ tmps v w' hst hv ⟨rfl,rfl,hB⟩ hstay hsame
 obtain⟨gs,hgs⟩:∃ gs,gs=namesG m0.length M extra:=⟨_,rfl⟩
 rw [← hgs] at hr hblk hnd
 obtain⟨hlg,hget⟩:=z359 hblk
 obtain⟨μ1,hμ1⟩:∃ μ1:Pl,μ1=fun i=>(gs[i]?).bind μ:=⟨_,rfl⟩
 have h1s:∀ i L,μ1 i=some L→∃ n,gs[i]?=some n∧μ n=some L:=fun i L hi=>by
  rw [hμ1] at hi
  cases hn:gs[i]? with
  | none=>simp [hn] at hi
  | some n=>simp [hn] at hi;exact⟨n,rfl,hi⟩
 have h1i:∀ i n,gs[i]?=some n→μ1 i=μ n:=fun i n hi=>by rw [hμ1];simp [hi]
 have hsub:∀ q,ownOf o μ1 q→ownOf o μ q:=by
  rintro q (h | ⟨i,z,l,c,h⟩)
  ·exact .inl h
  ·obtain⟨n,_,hn⟩:=h1s i _ h;exact .inr ⟨n,z,l,c,hn⟩
 have hg:Goes w' (ownOf o μ) w' (ownOf o μ1):=fun q o' u h1 h2=>⟨fun hc=>h1 (hsub q hc),h2⟩
 have hinv:∀ n,(μ n).isSome→∀ i,inv gs n=some i→μ1 i=μ n:=fun n _ i hi=>h1i i n (z71 hi)
 refine⟨v,μ1,rfl,by rw [hr];exact hv.mapN (.inl hg) (fun n _ hs k hk=>hinv n hs k hk),⟨fun i b1 hi=>?_,fun i hi=>?_,fun a k q z l c z' l' c' q1 q2=>?_,fun i q z l c hi=>?_⟩,⟨⟨hB,fun q ob hq hno hnoM=>?_⟩,fun q hq hno=>?_⟩,fun i hi=>?_⟩
 ·simp only [List.getElem?_map,Option.map_eq_some_iff,Option.some.injEq] at hi
  obtain⟨b2,hi,rfl⟩:=hi
  obtain⟨n,b',e1,e2,rfl⟩:=hget i b2 hi
  exact BlkRel.mapN (.inl hg) (h1i i n e1) hinv (fun _ _ _ _ _=>rfl) (hst.mem.blk n b' e2)
 ·obtain⟨L,hL⟩:=Option.isSome_iff_exists.1 hi
  obtain⟨n,hn,_⟩:=h1s i L hL
  have:i<m1.length:=by rw [← hlg];exact (List.getElem?_eq_some_iff.1 hn).1
  exact⟨m1[i],by simp [this]⟩
 ·obtain⟨n,hn,e1⟩:=h1s a _ q1
  obtain⟨n',hn',e2⟩:=h1s k _ q2
  have:=hst.mem.inj n n' q _ _ _ _ _ _ e1 e2
  subst this
  exact z132 hnd hn hn'
 ·obtain⟨n,_,e1⟩:=h1s i _ hi
  exact hst.mem.base n q z l c e1
 ·by_cases hob:ownOf o μ0 q
  ·rcases hob with hob | ⟨i,z,l,c,hob⟩
   ·rw [hB.block q (hown q hob)];exact hq
   ·exfalso
    obtain⟨b1,hb1⟩:=hM.dom i (by simp [hob])
    have hbr:=hM.blk i b1 hb1
    cases b1 with
    | box row=>obtain⟨b',cs,ty,e1,e2,_⟩:=hbr;rw [hob] at e1;cases e1;rw [hq] at e2;cases e2;exact hno _ _ _ rfl
    | arr e z rows =>
     rcases hbr with ⟨e1,_⟩ | ⟨b',cap,cs,e1,e2,_⟩
     ·rw [hob] at e1;cases e1
     ·rw [hob] at e1;cases e1;rw [hq] at e2;cases e2;exact hno _ _ _ rfl
    | arrA e z rows =>
     rcases hbr with ⟨e1,_⟩ | ⟨b',cap,cs,e1,e2,_⟩
     ·rw [hob] at e1;cases e1
     ·rw [hob] at e1;cases e1;rw [hq] at e2;cases e2;exact hno _ _ _ rfl
    | arrP e z rows=>obtain⟨b',cap,cs,e1,e2,_⟩:=hbr;rw [hob] at e1;cases e1;rw [hq] at e2;cases e2;exact hno _ _ _ rfl
    | mp kk es clock=>obtain⟨b',mes,e1,e2,_⟩:=hbr;rw [hob] at e1;cases e1;rw [hq] at e2;cases e2;exact hnoM _ _ rfl
  ·rw [(hstay.2 q (Array.getElem?_eq_some_iff.1 hq).1 (fun hc=>hob ((hs0 q).1 hc))).1];exact hq
 ·obtain⟨e1,e2⟩:=hstay.2 q hq (fun hc=>hno ((hs0 q).1 hc))
  exact⟨e1,fun hc=>e2 (hsub q hc)⟩
 ·obtain⟨⟨i',p⟩,hm,rfl⟩:=List.mem_map.1 hi
  have hpD:p ∉ dsts c:=by
   have:=List.all_eq_true.1 hD _ hm
   simpa using this
  have hgi:∀ i,i<m0.length→gs[i]?=some (M + i):=fun i hi=>by
   rw [hgs,namesG,List.getElem?_append_left (by simpa using hi)];simp [hi]
  rcases z681 hpin i' p hm with ⟨o1,r1,r2,e1,e2,e3,e4⟩ | ⟨e0,e0',z,r1,r2,e1,e2,e3,e4⟩ | ⟨cs,cs',j,kk,es,c0,kk',es',c0',e1,e2,g1,g2,e3,e4⟩
  ·have hplt:p<vs.size:=by rw [← hl];exact (List.getElem?_eq_some_iff.1 e1).1
   have hvp:vs[p]?=some vs[p]:=by simp [hplt]
   obtain⟨b1,z1,l1,c1,f1,f2⟩:=z72 (ha p _ _ e1 hvp)
   have htp:tmps[p]?=some vs[p]:=by rw [hsame.2 p hpD,Array.getElem?_append_left hplt,hvp]
   obtain⟨b2,z2,l2,c2,f3,f4⟩:=z72 (hst.tmp p _ _ e2 htp)
   rw [f2] at f4
   simp only [Value.pointer.injEq,Option.some.injEq,Addr.mk.injEq] at f4
   obtain⟨b3,cs,ty,f5,_⟩:=(hM.blk i' (.box r1) (by simp [e3]):∃ b cs ty,_)
   obtain⟨b4,cs',ty',f6,_⟩:=hst.mem.blk (M + i') _ e4
   rw [h1i i' (M + i') (hgi i' (List.getElem?_eq_some_iff.1 e3).1),f3,f1]
   rw [f1] at f5;cases f5
   rw [f3] at f6;cases f6
   rw [f4.1]
  ·have hplt:p<vs.size:=by rw [← hl];exact (List.getElem?_eq_some_iff.1 e1).1
   have hvp:vs[p]?=some vs[p]:=by simp [hplt]
   have htp:tmps[p]?=some vs[p]:=by rw [hsame.2 p hpD,Array.getElem?_append_left hplt,hvp]
   have hA:=z29 (ha p _ _ e1 hvp)
   have hB':=z29 (hst.tmp p _ _ e2 htp)
   rw [h1i i' (M + i') (hgi i' (List.getElem?_eq_some_iff.1 e3).1)]
   have hb1:=hM.blk i' (.arr e0 z r1) (by simp [e3])
   have hb2:=hst.mem.blk (M + i') _ e4
   rcases hA with ⟨f1,f2⟩ | ⟨b1,z1,l1,c1,f1,f2⟩
   ·rcases hB' with ⟨f3,_⟩ | ⟨b2,z2,l2,c2,f3,f4⟩
    ·rw [f1,f3]
    ·rw [f2] at f4;cases f4
   ·rcases hB' with ⟨f3,f4⟩ | ⟨b2,z2,l2,c2,f3,f4⟩
    ·rw [f2] at f4;cases f4
    ·rw [f2] at f4
     cases f4
     rcases hb1 with ⟨g1,_⟩ | ⟨_,_,_,g1,_⟩
     ·rw [f1] at g1;cases g1
     ·rcases hb2 with ⟨g2,_⟩ | ⟨_,_,_,g2,_⟩
      ·rw [f3] at g2;cases g2
      ·rw [f1] at g1
       rw [f3] at g2
       simp only [Option.some.injEq,Loc.at.injEq] at g1 g2
       rw [f1,f3,g1.2.1,g2.2.1]
  ·have hplt:p<vs.size:=by rw [← hl];exact (List.getElem?_eq_some_iff.1 e1).1
   have hvp:vs[p]?=some vs[p]:=by simp [hplt]
   have htp:tmps[p]?=some vs[p]:=by rw [hsame.2 p hpD,Array.getElem?_append_left hplt,hvp]
   obtain⟨us,f1,f2,f3⟩:=z343 (ha p _ _ e1 hvp)
   obtain⟨us',f1',f2',f3'⟩:=z343 (hst.tmp p _ _ e2 htp)
   rw [f1] at f1'
   cases f1'
   have hjl:j<us.size:=by rw [← f2];exact (List.getElem?_eq_some_iff.1 g1).1
   obtain⟨b1,q1,q2⟩:=z465 (f3 j _ _ g1 (Array.getElem?_eq_getElem hjl))
   obtain⟨b2,q3,q4⟩:=z465 (f3' j _ _ g2 (Array.getElem?_eq_getElem hjl))
   rw [q2] at q4
   cases q4
   rw [h1i i' (M + i') (hgi i' (List.getElem?_eq_some_iff.1 e3).1),q1,q3]
end
end Go.Ab
/- Names that move;a slice as a box that it lies over. -/
namespace Go.Ab
open Go.RowKit
def mv (a b:Nat) (k:Nat):Option Nat:=if k=a then some b else some k
def St.move (a:Nat) (st:St):St:=match (st.m[a]?:Option (Option Blk)) with
 | some (some b)=>{ t:=st.t.map (AV.mapN (mv a st.m.length)),m:=(st.m.map (Option.map (Blk.mapN (mv a st.m.length)))).set a none++[some (b.mapN (mv a st.m.length))] }
 | _=>st
def boxed (len:Nat):AV→AV
 | .own n=>.bsl n 0 len
 | .elem n i o=>.box n (i + o)
 | _=>.undef
def rowOne:List DV→AV
 | [d]=>.d d
 | _=>.undef
def St.boxes (n:Nat) (st:St):St:=match (st.m[n]?:Option (Option Blk)) with
 | some (some (.arr _ 1 (r::rows)))=>{ t:=st.t.map (AV.sub n (boxed (r::rows).length)),m:=(subMem n (boxed (r::rows).length) st.m).set n (some (.box ((r::rows).map rowOne))) }
 | _=>st
section
variable {P:Program} {base:Own} {out:Own} {st st':St} {μ:Pl} {tmps:Array Value} {w w':World}
theorem z1025 (a:Nat) (st:St):Weak st (st.move a):=by
 intro P base out μ tmps w h
 unfold St.move
 split
 ·rename_i b hb
  obtain⟨L,hL⟩:∃ L,L=st.m.length:=⟨_,rfl⟩
  rw [← hL]
  have hlt:a<L:=by rw [hL];exact (List.getElem?_eq_some_iff.1 hb).1
  have hno:∀ k,(μ k).isSome→k<L:=fun k hk=>by
   obtain⟨b,hb⟩:=h.mem.dom k hk
   rw [hL];exact (List.getElem?_eq_some_iff.1 hb).1
  obtain⟨μ',hμ'⟩:∃ μ':Pl,μ'=fun k=>if k=L then μ a else if k=a then none else μ k:=⟨_,rfl⟩
  have hs:∀ k L',μ' k=some L'→(k=L∧μ a=some L')∨(k≠L∧k≠a∧μ k=some L'):=by
   intro k L' hk
   rw [hμ'] at hk
   dsimp only at hk
   split at hk
   ·rename_i e;exact .inl ⟨e,hk⟩
   ·split at hk
    ·cases hk
    ·rename_i e1 e2;exact .inr ⟨e1,e2,hk⟩
  have hsub:∀ b,ownOf out μ' b→ownOf out μ b:=by
   rintro b (h | ⟨n,z,l,c,h⟩)
   ·exact .inl h
   ·rcases hs n _ h with ⟨_,h⟩ | ⟨_,_,h⟩
    ·exact .inr ⟨a,z,l,c,h⟩
    ·exact .inr ⟨n,z,l,c,h⟩
  have hg:Goes w (ownOf out μ) w (ownOf out μ'):=fun b o v h1 h2=>⟨fun hc=>h1 (hsub b hc),h2⟩
  have hmv:∀ n,(μ n).isSome→∀ k,mv a L n=some k→μ' k=μ n:=by
   intro n hn k hk
   have:=hno n hn
   unfold mv at hk
   rw [hμ']
   split at hk
   ·rename_i e;cases hk;subst e;simp
   ·rename_i e
    cases hk
    simp only
    rw [if_neg (by omega),if_neg e]
  refine⟨μ',⟨by rw [h.size];simp,fun i x v hx hv=>?_,⟨fun k b' hk=>?_,fun k hk=>?_,fun k1 k2 b' z l c z' l' c' h1 h2=>?_,fun k b' z l c hk=>?_⟩,h.hid.less hsub,h.out,h.le⟩,hsub⟩
  ·simp only [List.getElem?_map,Option.map_eq_some_iff] at hx
   obtain⟨y,hx,rfl⟩:=hx
   exact (h.tmp i y v hx hv).mapN (.inl hg) (fun n _ hn k hk=>hmv n hn k hk)
  ·dsimp only at hk
   rcases Nat.lt_or_ge k L with hkl | hkl
   ·rw [List.getElem?_append_left (by simp [← hL,hkl]),List.getElem?_set] at hk
    split at hk
    ·split at hk <;> cases hk
    ·rename_i hka
     simp only [List.getElem?_map,Option.map_eq_some_iff] at hk
     obtain⟨ob,hob,b0,rfl,rfl⟩:=hk
     exact BlkRel.mapN (.inl hg) (by rw [hμ'];simp only;rw [if_neg (by omega),if_neg (Ne.symm hka)]) hmv (fun _ _ _ _ _=>rfl) (h.mem.blk k b0 hob)
   ·rw [List.getElem?_append_right (by simp [← hL,hkl])] at hk
    simp only [List.length_set,List.length_map,← hL] at hk
    have hk0:k=L:=by
     rcases Nat.eq_or_lt_of_le hkl with e | e
     ·exact e.symm
     ·rw [List.getElem?_eq_none (by simp;omega)] at hk;cases hk
    subst hk0
    simp at hk
    subst hk
    exact BlkRel.mapN (n:=a) (.inl hg) (by rw [hμ'];simp) hmv (fun _ _ _ _ _=>rfl) (h.mem.blk a b hb)
  ·obtain⟨L',hL'⟩:=Option.isSome_iff_exists.1 hk
   rcases hs k L' hL' with ⟨rfl,_⟩ | ⟨hkl,hka,hk'⟩
   ·exact⟨b.mapN (mv a k),by rw [List.getElem?_append_right (by simp [← hL])];simp [← hL]⟩
   ·obtain⟨b',hb'⟩:=h.mem.dom k (by simp [hk'])
    have hkl':=hno k (by simp [hk'])
    refine⟨b'.mapN (mv a L),?_⟩
    rw [List.getElem?_append_left (by simp [← hL,hkl']),List.getElem?_set_ne (Ne.symm hka)]
    simp [hb']
  ·rcases hs k1 _ h1 with ⟨rfl,e1⟩ | ⟨e1,e1a,e1b⟩
   ·rcases hs k2 _ h2 with ⟨rfl,_⟩ | ⟨_,e2a,e2b⟩
    ·rfl
    ·exact absurd (h.mem.inj a k2 b' _ _ _ _ _ _ e1 e2b).symm e2a
   ·rcases hs k2 _ h2 with ⟨rfl,e2⟩ | ⟨_,e2a,e2b⟩
    ·exact absurd (h.mem.inj k1 a b' _ _ _ _ _ _ e1b e2) e1a
    ·exact h.mem.inj k1 k2 b' _ _ _ _ _ _ e1b e2b
  ·rcases hs k _ hk with ⟨_,e⟩ | ⟨_,_,e⟩
   ·exact h.mem.base a b' z l c e
   ·exact h.mem.base k b' z l c e
 ·exact⟨μ,h,fun _ hb=>hb⟩
end
theorem z930 {P:Program} {rd:Option Nat} {n:Nat} {J:Env} {c:Code} {cs:List Code} {k:Option Nat} {st:St} {Q:Exit→Option Nat→St→Prop} (a:Nat) (h:WalkL P rd n J (c::cs) k (st.move a) Q):WalkL P rd n J (c::cs) k st Q :=
 z63 (z1025 a st) h
theorem z18 {P:Program} {rd:Option Nat} {n:Nat} {J:Env} {c c2:Code} {cs:List Code} {k:Option Nat} {st:St} {Q:Exit→Option Nat→St→Prop} (ts:List (Nat × AV)) (ms:List (Nat × Option Blk))
  (h:WalkL P rd n J [c] k st (thenA (fun k' s=>k'=k∧Weak s (st.head (dsts c) ts ms)) Q)) (h':WalkL P rd n J (c2::cs) k (st.head (dsts c) ts ms) Q):WalkL P rd n J (c::c2::cs) k st Q :=
 z46 (z21 h) fun e k' s hq=>by
  cases e <;> first | exact hq | skip
  obtain⟨rfl,hw⟩:=hq
  exact z63 hw h'
theorem z757 {P:Program} {rd:Option Nat} {n:Nat} {J:Env} {c:Code} {cs:List Code} {k:Option Nat} {st:St} {Q:Exit→Option Nat→St→Prop} (a L:Nat) (hL:st.m.length=L) (b:Blk) (hb:st.m[a]?=some (some b))
  (h:WalkL P rd n J (c::cs) k { t:=st.t.map (AV.mapN (mv a L)),m:=(st.m.map (Option.map (Blk.mapN (mv a L)))).set a none++[some (b.mapN (mv a L))] } Q):WalkL P rd n J (c::cs) k st Q:=by
 refine z930 a ?_
 subst hL
 unfold St.move
 rw [hb]
 exact h
def St.headT (L:Nat) (st:St) (ds:List Nat) (ts:List (Nat × AV)) (ms:List (Nat × Option Blk)) (tl:List (Option Blk)):St:={ t:=setsT ts (wipeT ds st.t),m:=setsM ms (wipeM ds (st.m.take L))++tl }
theorem z142 {P:Program} {rd:Option Nat} {n:Nat} {J:Env} {c:Code} {cs:List Code} {k:Option Nat} {st:St} {Q:Exit→Option Nat→St→Prop} {α:Type} (L:Nat) (ts:α→List (Nat × AV)) (ms:α→List (Nat × Option Blk)) (tl:α→List (Option Blk)) (I:α→Prop) (m:α→Nat) (a:α)
  (hw:Weak st (st.headT L (dsts c) (ts a) (ms a) (tl a))) (h0:I a)
  (h:∀ a,I a→WalkL P rd n J [c] k (st.headT L (dsts c) (ts a) (ms a) (tl a)) (thenA (fun k' s=>k'=k∧∃ a',Weak s (st.headT L (dsts c) (ts a') (ms a') (tl a'))∧I a'∧m a'<m a) (thenA (fun k s=>WalkL P rd n J cs k s Q) Q))):WalkL P rd n J (.loop c::cs) k st Q :=
 z438 (fun a=>st.headT L (dsts c) (ts a) (ms a) (tl a)) I m a hw h0 h
def argsG (st:St) (ns rd:List Nat):List AV→List AV→Prop
 | x::xs,y::ys=>argG st ns rd x y∧argsG st ns rd xs ys
 | _,_=>True
theorem z75 {st:St} {ns rd:List Nat} {x y:AV} (h:y=x.mapN (inv ns)):argG st ns rd x y:=.inr h
theorem z50 {st:St} {ns rd:List Nat} {x:AV} {d:DV} (h:reify st.m deep x=some d) (hr:x.refs.all (fun n=>rd.contains n)=true):argG st ns rd x (.d d) :=
 .inl ⟨d,rfl,h,fun n hn=>by simpa using List.all_eq_true.1 hr n hn⟩
theorem z59 {st:St} {ns rd:List Nat}:∀ {xs ys:List AV},argsG st ns rd xs ys→∀ (i:Nat) x y,xs[i]?=some x→ys[i]?=some y→argG st ns rd x y
 | [],_,_,i,x,y,h,_=>by simp at h
 | _::_,[],_,i,x,y,_,h=>by simp at h
 | x0::xs,y0::ys,h,i,x,y,h1,h2=>by
  cases i with
  | zero=>simp at h1 h2;subst h1;subst h2;exact h.1
  | succ i=>simp at h1 h2;exact z59 h.2 i x y h1 h2
theorem z79 (news:List Nat):∀ l:List AV,lessT news l l
 | []=>trivial
 | _::l=>⟨.inr (.inl rfl),z79 news l⟩
theorem z1312 (a b k:Nat):mv a b k=some (bif k == a then b else k):=by
 unfold mv
 by_cases h:k=a
 ·simp [h]
 ·rw [if_neg h,show (k == a)=false by simpa using h];rfl
attribute [go_sem] isMp mpPin St.headT St.move St.boxes boxed rowOne AV.mapN AV.mapN.AV.mapNs Blk.mapN St.startG retG blksG pinG namesG inv kp St.keep putM z1312 AV.flatA AV.flatA.AV.flatAs Blk.flatB
attribute [go_sem] Bool.true_or Bool.or_true Bool.false_or Bool.or_false if_true if_false ite_true ite_false Option.map_some Option.map_none Option.bind_some Option.isNone_none Option.isNone_some Option.getD_some Option.some.injEq Prod.mk.injEq List.length_cons List.length_nil List.map_cons List.map_nil List.drop_succ_cons List.take_succ_cons List.drop_zero List.take_zero
attribute [go_sem] List.cons_append List.nil_append List.append_nil and_true true_and Bool.false_eq_true decide_true decide_false Bool.not_true Bool.not_false Bool.and_true Bool.and_false Bool.true_and Bool.false_and beq_self_eq_true Nat.zero_add Nat.le_refl List.all_cons List.all_nil List.any_cons List.any_nil decide_eq_true_eq decide_eq_false_iff_not Bool.and_eq_true
attribute [go_sem] Option.toList_some Option.toList_none cond_true cond_false List.flatMap_cons List.flatMap_nil List.reverse_cons List.reverse_nil List.replicate_succ List.replicate_zero List.length_map List.length_append List.length_replicate List.range_zero List.contains_nil List.size_toArray false_or or_false true_or or_true z1196
attribute [go_sem] Nat.reduceAdd Nat.reduceSub Nat.reduceMul Nat.reducePow Int.reducePow Int.cast_ofNat_Int Nat.reduceLeDiff Nat.reduceEqDiff Nat.reduceLT Nat.reduceBEq Int.reduceBEq Int.reduceBNe Int.reduceEq Int.reduceLE Int.reduceLT Int.reduceNeg Int.reduceToNat reduceIte reduceCtorEq
end Go.Ab
