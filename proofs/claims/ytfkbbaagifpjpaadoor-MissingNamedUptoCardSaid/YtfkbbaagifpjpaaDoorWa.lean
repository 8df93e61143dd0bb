/- A walk engine over abstract states, and the contracts of the functions that the statement reaches: part 1. -/
import Derived.CallsIn
import Derived.OrdersIn
import Derived.Below
import Derived.Laws.Cells
import Derived.Laws.World
import Derived.Laws.Sem
import Derived.RangeFuncIn
import Derived.RangeFuncLeaves
import Derived.Laws.Entries
import Derived.Laws.Rows
import Derived.Laws.Slices
import Derived.Laws.Small
import Derived.Laws.Pointers
import Derived.Laws.Bits64
import Derived.Laws.Cover3
import Derived.Laws.Tables
import Derived.Laws.CopyRow
import Derived.Laws.AppendOwn
import Derived.Laws.MakeOwn
import Derived.Laws.StructEq
import Derived.MapKept
import Derived.ChangeKeysEq
set_option linter.unusedVariables false
set_option linter.unusedSimpArgs false
set_option linter.unnecessarySimpa false
/- The abstract state: deep read-only values,frame values with names for the call's own memory,and how both stand to the model's world. -/
namespace Go.Ab
open Go.RowKit
inductive MK where
 | i (n:Int)
 | s (l:List (IntKind × Int))
 deriving Inhabited,DecidableEq
def MK.val:MK→Value
 | .i n=>.int .i64 n
 | .s l=>.agg (l.map fun p=>Value.int p.1 p.2).toArray
abbrev KK:=Option (List IntKind)
def MK.fits:KK→MK→Bool
 | none,.i _=>true
 | some ks,.s l=>decide (l.map (·.1)=ks)
 | _,_=>false
inductive DV where
 | int (k:IntKind) (n:Int)
 | bool (b:Bool)
 | str (s:ByteArray)
 | sl (rows:List (List DV))
 | ptr (row:List DV) (off:Nat)
 | nilptr
 | fn (f:FuncId) (caps:List DV)
 | bnd (f:FuncId) (first:List DV)
 | nilfn
 | ub
 | any
 | yld (l:Nat)
 | agg (cells:List DV)
 | tup (vs:List DV)
 | mp (kk:KK) (keys:List (MK × Nat)) (vals:List DV) (clock:Nat)
 | raw (b off:Nat)
 | nilsl
 deriving Inhabited
abbrev DV.i (n:Int):DV:=.int .i64 n
inductive AV where
 | undef
 | void
 | d (x:DV)
 | nil
 | box (n off:Nat)
 | elem (n i off:Nat)
 | own (n:Nat)
 | view (n off len:Nat)
 | bsl (n off len:Nat)
 | mp (n:Nat)
 | vh (n len:Nat)
 | vc (n len:Nat)
 | dfull (rows:List (List DV))
 | agg (cells:List AV)
 | tup (vs:List AV)
 | fn (f:FuncId) (caps:List AV)
 deriving Inhabited
inductive Blk where
 | box (row:List AV)
 | arr (e:TypeId) (z:Nat) (rows:List (List DV))
 | arrP (e:TypeId) (z:Nat) (rows:List (List DV))
 | arrA (e:TypeId) (z:Nat) (rows:List (List AV))
 | mp (kk:KK) (es:List (MK × DV × Nat)) (clock:Nat)
 deriving Inhabited
structure St where
 t:List AV
 m:List (Option Blk)
 deriving Inhabited
inductive Loc where
 | none0
 | at (b z len cap:Nat)
abbrev Own:=Nat→Prop
abbrev Pl:=Nat→Option Loc
def Pl.owns (μ:Pl) (b:Nat):Prop:=∃ n z len cap,μ n=some (.at b z len cap)
structure BelowU (U:Own) (w w':World):Prop where
 os:w'.os=w.os
 tape:w'.tape=w.tape
 output:w'.output=w.output
 size:w.heap.size≤w'.heap.size
 block:∀ k,U k→w'.heap[k]?=w.heap[k]?
theorem BelowU.refl (U:Own) (w:World):BelowU U w w:=⟨rfl,rfl,rfl,Nat.le_refl _,fun _ _=>rfl⟩
theorem BelowU.trans {U:Own} {a b c:World} (h:BelowU U a b) (k:BelowU U b c):BelowU U a c :=
 ⟨k.os.trans h.os,k.tape.trans h.tape,k.output.trans h.output,Nat.le_trans h.size k.size,fun i hi=>(k.block i hi).trans (h.block i hi)⟩
theorem BelowU.mono {U U':Own} {w w':World} (h:BelowU U w w') (hs:∀ b,U' b→U b):BelowU U' w w':=⟨h.os,h.tape,h.output,h.size,fun k hk=>h.block k (hs k hk)⟩
def ltU (n:Nat):Own:=fun b=>b<n
theorem BelowU.of {U:Own} {w w':World} {n:Nat} (h:Below n w w') (hs:∀ b,U b→b<n):BelowU U w w':=⟨h.os,h.tape,h.output,h.size,fun k hk=>h.block k (hs k hk)⟩
theorem BelowU.to {w w':World} {n:Nat} (h:BelowU (ltU n) w w'):Below n w w':=⟨h.os,h.tape,h.output,h.size,fun k hk=>h.block k hk⟩
inductive DRel (w:World) (own:Own):DV→Value→Prop where
 | int (k n):DRel w own (.int k n) (.int k n)
 | bool (b):DRel w own (.bool b) (.bool b)
 | str (s):DRel w own (.str s) (.string s)
 | nilptr:DRel w own .nilptr (.pointer none)
 | nilfn:DRel w own .nilfn .nilFunc
 | ub (b):DRel w own .ub (.bool b)
 | any (v) (h:v.oneCell'=true):DRel w own .any v
 | yld (l):DRel w own (.yld l) (.func (.yield l) #[] #[])
 | raw (b off):DRel w own (.raw b off) (.pointer (some ⟨b,off,none⟩))
 | nilsl:DRel w own .nilsl (.slice none 0 0)
 | mp (kk keys vals clock) (b:Nat) (mes:Array MapEntry) (hb:¬ own b) (hh:w.heap[b]?=some (.map mes clock)) (hk:keys.length=mes.size) (hl:vals.length=mes.size)
   (hm:∀ (i:Nat) k m,keys[i]?=some k→mes[i]?=some m→(m.key=k.1.val∧k.1.fits kk=true)∧m.born=k.2)
   (hd:∀ (i:Nat) d m,vals[i]?=some d→mes[i]?=some m→DRel w own d m.val):DRel w own (.mp kk keys vals clock) (.map (some b))
 | slNil:DRel w own (.sl []) (.slice none 0 0)
 | slEmpty (a cap):DRel w own (.sl []) (.slice (some a) 0 cap)
 | sl (rows:List (List DV)) (b off z cap:Nat) (f:Nat→Nat→Value)
   (hlen:rows.length≤cap)
   (hz:∀ r ∈ rows,r.length=z)
   (hc:∀ i r j d,rows[i]?=some r→r[j]?=some d→¬ own b∧w.cell? ⟨b,off + i * z + j,none⟩=some (f i j)∧(f i j).oneCell'=true)
   (hd:∀ i r j d,rows[i]?=some r→r[j]?=some d→DRel w own d (f i j)) :
   DRel w own (.sl rows) (.slice (some ⟨b,off,none⟩) rows.length cap)
 | ptr (row:List DV) (off b o:Nat) (f:Nat→Value)
   (hc:∀ j d,row[j]?=some d→¬ own b∧w.cell? ⟨b,o + j,none⟩=some (f j)∧(f j).oneCell'=true)
   (hd:∀ j d,row[j]?=some d→DRel w own d (f j)) :
   DRel w own (.ptr row off) (.pointer (some ⟨b,o + off,none⟩))
 | fn (f caps) (vs:Array Value) (hl:caps.length=vs.size)
   (hd:∀ (i:Nat) d v,caps[i]?=some d→vs[i]?=some v→DRel w own d v) :
   DRel w own (.fn f caps) (.func (.func f) #[] vs)
 | bnd (f ds) (vs:Array Value) (hl:ds.length=vs.size)
   (hd:∀ (i:Nat) d v,ds[i]?=some d→vs[i]?=some v→DRel w own d v) :
   DRel w own (.bnd f ds) (.func (.func f) vs #[])
 | agg (cells) (vs:Array Value) (hl:cells.length=vs.size)
   (hd:∀ (i:Nat) d v,cells[i]?=some d→vs[i]?=some v→DRel w own d v) :
   DRel w own (.agg cells) (.agg vs)
 | tup (ds) (vs:Array Value) (hl:ds.length=vs.size)
   (hd:∀ (i:Nat) d v,ds[i]?=some d→vs[i]?=some v→DRel w own d v) :
   DRel w own (.tup ds) (.tuple vs)
def Holds (w:World) (b o:Nat):Value ⊕ (Array MapEntry × Nat)→Prop
 | .inl v=>w.cell? ⟨b,o,none⟩=some v
 | .inr x=>w.heap[b]?=some (.map x.1 x.2)
theorem Holds.lt {w:World} {b o:Nat} {v:Value ⊕ (Array MapEntry × Nat)} (h:Holds w b o v):b<w.heap.size:=by
 cases v with
 | inl v=>exact World.block_lt_of_cell? w _ h
 | inr x=>exact (Array.getElem?_eq_some_iff.1 h).1
theorem Holds.heap {w w':World} {b o:Nat} {v:Value ⊕ (Array MapEntry × Nat)} (h:Holds w b o v) (he:w'.heap[b]?=w.heap[b]?):Holds w' b o v:=by
 cases v with
 | inl v=>simp only [Holds,World.cell?] at h ⊢;rw [he];exact h
 | inr x=>simp only [Holds] at h ⊢;rw [he];exact h
theorem Holds.block {w:World} {b o:Nat} {v:Value ⊕ (Array MapEntry × Nat)} (h:Holds w b o v):(∃ cs ty x,w.heap[b]?=some (.cells cs ty x))∨∃ es c,w.heap[b]?=some (.map es c):=by
 cases v with
 | inl v =>
  simp only [Holds] at h
  unfold World.cell? at h
  cases ho:w.heap[b]? with
  | none=>simp [ho] at h
  | some ob=>cases ob <;> simp_all
 | inr x=>exact .inr ⟨_,_,h⟩
def Goes (w:World) (own:Own) (w':World) (own':Own):Prop :=
 ∀ b o v,¬ own b→Holds w b o v→¬ own' b∧Holds w' b o v
theorem Goes.refl (w:World) (own:Own):Goes w own w own:=fun _ _ _ h1 h2=>⟨h1,h2⟩
theorem Goes.trans {w w1 w2:World} {o o1 o2:Own} (h:Goes w o w1 o1) (h':Goes w1 o1 w2 o2):Goes w o w2 o2 :=
 fun b x v h1 h2=>let ⟨a,c⟩:=h b x v h1 h2;h' b x v a c
theorem Goes.cell {w w':World} {own own':Own} (h:Goes w own w' own') {b o:Nat} {v:Value} (h1:¬ own b) (h2:w.cell? ⟨b,o,none⟩=some v):¬ own' b∧w'.cell? ⟨b,o,none⟩=some v:=h b o (.inl v) h1 h2
theorem Goes.map {w w':World} {own own':Own} (h:Goes w own w' own') {b:Nat} {es:Array MapEntry} {c:Nat} (h1:¬ own b) (h2:w.heap[b]?=some (.map es c)):¬ own' b∧w'.heap[b]?=some (.map es c):=h b 0 (.inr (es,c)) h1 h2
theorem DRel.goes {w w':World} {own own':Own} (hg:Goes w own w' own') {d:DV} {v:Value} (h:DRel w own d v):DRel w' own' d v:=by
 induction h with
 | int k n=>exact .int k n
 | bool b=>exact .bool b
 | str s=>exact .str s
 | nilptr=>exact .nilptr
 | nilfn=>exact .nilfn
 | ub b=>exact .ub b
 | any v h=>exact .any v h
 | yld l=>exact .yld l
 | raw b off=>exact .raw b off
 | nilsl=>exact .nilsl
 | mp kk keys vals clock b mes hb hh hk hl hm hd ih=>let ⟨a',c'⟩:=hg.map hb hh;exact .mp kk keys vals clock b mes a' c' hk hl hm fun i d m h1 h2=>ih i d m h1 h2
 | slNil=>exact .slNil
 | slEmpty a cap=>exact .slEmpty a cap
 | sl rows b off z cap f hlen hz hc hd ih =>
  exact .sl rows b off z cap f hlen hz (fun i r j d h1 h2=>let ⟨a,c,e⟩:=hc i r j d h1 h2;let ⟨a',c'⟩:=hg.cell a c;⟨a',c',e⟩) (fun i r j d h1 h2=>ih i r j d h1 h2)
 | ptr row off b o f hc hd ih =>
  exact .ptr row off b o f (fun j d h=>let ⟨a,c,e⟩:=hc j d h;let ⟨a',c'⟩:=hg.cell a c;⟨a',c',e⟩) (fun j d h=>ih j d h)
 | fn f caps vs hl hd ih=>exact .fn f caps vs hl (fun i d v h1 h2=>ih i d v h1 h2)
 | bnd f ds vs hl hd ih=>exact .bnd f ds vs hl (fun i d v h1 h2=>ih i d v h1 h2)
 | agg cells vs hl hd ih=>exact .agg cells vs hl (fun i d v h1 h2=>ih i d v h1 h2)
 | tup ds vs hl hd ih=>exact .tup ds vs hl (fun i d v h1 h2=>ih i d v h1 h2)
def DV.flat:DV→Bool
 | .int .. | .bool _ | .str _ | .nilptr | .nilfn | .ub | .any | .yld _ | .raw .. | .nilsl=>true
 | .sl rows=>rows.isEmpty
 | .ptr .. | .mp ..=>false
 | .fn _ cs=>DV.flats cs
 | .bnd _ cs=>DV.flats cs
 | .agg cs=>DV.flats cs
 | .tup cs=>DV.flats cs
where DV.flats:List DV→Bool
 | []=>true
 | d::ds=>d.flat && DV.flats ds
theorem DV.flats_get {l:List DV} (h:DV.flat.DV.flats l=true) (i:Nat) (d:DV) (hi:l[i]?=some d):d.flat=true:=by
 induction l generalizing i with
 | nil=>simp at hi
 | cons x xs ih =>
  simp only [DV.flat.DV.flats,Bool.and_eq_true] at h
  cases i with
  | zero=>simp at hi;exact hi ▸ h.1
  | succ i=>simp at hi;exact ih h.2 i hi
theorem DRel.of_flat {w w':World} {own own':Own} {d:DV} {v:Value} (h:DRel w own d v) (hf:d.flat=true):DRel w' own' d v:=by
 induction h with
 | int k n=>exact .int k n
 | bool b=>exact .bool b
 | str s=>exact .str s
 | nilptr=>exact .nilptr
 | nilfn=>exact .nilfn
 | ub b=>exact .ub b
 | any v h=>exact .any v h
 | yld l=>exact .yld l
 | raw b off=>exact .raw b off
 | nilsl=>exact .nilsl
 | mp kk keys vals clock b mes hb hh hk hl hm hd ih=>simp [DV.flat] at hf
 | slNil=>exact .slNil
 | slEmpty a cap=>exact .slEmpty a cap
 | sl rows b off z cap f hlen hz hc hd ih =>
  simp only [DV.flat,List.isEmpty_iff] at hf
  subst hf
  exact .slEmpty _ _
 | ptr row off b o f hc hd ih=>simp [DV.flat] at hf
 | fn f caps vs hl hd ih=>exact .fn f caps vs hl (fun i d v h1 h2=>ih i d v h1 h2 (DV.flats_get (by simpa [DV.flat] using hf) i d h1))
 | bnd f caps vs hl hd ih=>exact .bnd f caps vs hl (fun i d v h1 h2=>ih i d v h1 h2 (DV.flats_get (by simpa [DV.flat] using hf) i d h1))
 | agg cells vs hl hd ih=>exact .agg cells vs hl (fun i d v h1 h2=>ih i d v h1 h2 (DV.flats_get (by simpa [DV.flat] using hf) i d h1))
 | tup ds vs hl hd ih=>exact .tup ds vs hl (fun i d v h1 h2=>ih i d v h1 h2 (DV.flats_get (by simpa [DV.flat] using hf) i d h1))
inductive AVRel (w:World) (own:Own) (μ:Pl):AV→Value→Prop where
 | undef (v):AVRel w own μ .undef v
 | void:AVRel w own μ .void Go.undef
 | d {x v} (h:DRel w own x v):AVRel w own μ (.d x) v
 | nil:AVRel w own μ .nil (.slice none 0 0)
 | box {n b z l c:Nat} (off:Nat) (h:μ n=some (.at b z l c)):AVRel w own μ (.box n off) (.pointer (some ⟨b,off,none⟩))
 | elem {n b z l c:Nat} (i off:Nat) (h:μ n=some (.at b z l c)):AVRel w own μ (.elem n i off) (.pointer (some ⟨b,i * z + off,none⟩))
 | ownNil {n:Nat} (h:μ n=some .none0):AVRel w own μ (.own n) (.slice none 0 0)
 | own {n b z l c:Nat} (h:μ n=some (.at b z l c)):AVRel w own μ (.own n) (.slice (some ⟨b,0,none⟩) l c)
 | view (n off len cap:Nat) (a:Option Addr) (hs:(μ n).isSome) (hle:len≤cap) (hn:a=none→cap=0)
   (h:0<len→∃ b z l c,μ n=some (.at b z l c)∧a=some ⟨b,off * z,none⟩∧off + len≤l∧off + cap≤c):AVRel w own μ (.view n off len) (.slice a len cap)
 | bsl {n b:Nat} (off len cap:Nat) (h:μ n=some (.at b 0 1 1)) (hle:len≤cap):AVRel w own μ (.bsl n off len) (.slice (some ⟨b,off,none⟩) len cap)
 | mp {n b:Nat} (h:μ n=some (.at b 0 2 2)):AVRel w own μ (.mp n) (.map (some b))
 | vh {n b z c:Nat} (len:Nat) (h:μ n=some (.at b z c c)) (hle:len≤c):AVRel w own μ (.vh n len) (.slice (some ⟨b,0,none⟩) len c)
 | vc {n b z c:Nat} (len:Nat) (h:μ n=some (.at b z c c)) (hlt:len<c):AVRel w own μ (.vc n len) (.slice (some ⟨b,0,none⟩) len c)
 | dfull {rows a} (h:DRel w own (.sl rows) (.slice a rows.length rows.length)):AVRel w own μ (.dfull rows) (.slice a rows.length rows.length)
 | agg (cells) (vs:Array Value) (hl:cells.length=vs.size)
   (hd:∀ (i:Nat) x v,cells[i]?=some x→vs[i]?=some v→AVRel w own μ x v):AVRel w own μ (.agg cells) (.agg vs)
 | tup (ds) (vs:Array Value) (hl:ds.length=vs.size)
   (hd:∀ (i:Nat) x v,ds[i]?=some x→vs[i]?=some v→AVRel w own μ x v):AVRel w own μ (.tup ds) (.tuple vs)
 | fn (f caps) (vs:Array Value) (hl:caps.length=vs.size)
   (hd:∀ (i:Nat) x v,caps[i]?=some x→vs[i]?=some v→AVRel w own μ x v):AVRel w own μ (.fn f caps) (.func (.func f) #[] vs)
def AV.refs:AV→List Nat
 | .box n _ | .elem n _ _ | .own n | .view n _ _ | .bsl n _ _ | .mp n | .vh n _ | .vc n _=>[n]
 | .agg cs | .tup cs | .fn _ cs=>AV.refss cs
 | _=>[]
where AV.refss:List AV→List Nat
 | []=>[]
 | x::xs=>x.refs++AV.refss xs
theorem AV.refss_get {l:List AV} {i:Nat} {x:AV} (hi:l[i]?=some x) {n:Nat} (h:n ∈ x.refs):n ∈ AV.refs.AV.refss l:=by
 induction l generalizing i with
 | nil=>simp at hi
 | cons y ys ih =>
  cases i with
  | zero=>simp at hi;subst hi;simp [AV.refs.AV.refss,h]
  | succ i=>simp at hi;simp [AV.refs.AV.refss,ih hi]
theorem AVRel.goes {w w':World} {own own':Own} {μ μ':Pl} (hg:Goes w own w' own')
  {x:AV} {v:Value} (h:AVRel w own μ x v) (hμ:∀ n ∈ x.refs,(μ n).isSome→μ' n=μ n):AVRel w' own' μ' x v:=by
 induction h with
 | undef v=>exact .undef v
 | void=>exact .void
 | d h=>exact .d (h.goes hg)
 | nil=>exact .nil
 | box off h=>exact .box off (by rw [hμ _ (by simp [AV.refs]) (by simp [h])];exact h)
 | elem i off h=>exact .elem i off (by rw [hμ _ (by simp [AV.refs]) (by simp [h])];exact h)
 | ownNil h=>exact .ownNil (by rw [hμ _ (by simp [AV.refs]) (by simp [h])];exact h)
 | own h=>exact .own (by rw [hμ _ (by simp [AV.refs]) (by simp [h])];exact h)
 | view n off len cap a hs hle hn h =>
  have e:=hμ n (by simp [AV.refs]) hs
  exact .view n off len cap a (by rw [e];exact hs) hle hn (by rw [e];exact h)
 | bsl off len cap h hle=>exact .bsl off len cap (by rw [hμ _ (by simp [AV.refs]) (by simp [h])];exact h) hle
 | mp h=>exact .mp (by rw [hμ _ (by simp [AV.refs]) (by simp [h])];exact h)
 | vh len h hle=>exact .vh len (by rw [hμ _ (by simp [AV.refs]) (by simp [h])];exact h) hle
 | vc len h hlt=>exact .vc len (by rw [hμ _ (by simp [AV.refs]) (by simp [h])];exact h) hlt
 | dfull h=>exact .dfull (h.goes hg)
 | agg cells vs hl hd ih=>exact .agg cells vs hl (fun i x v h1 h2=>ih i x v h1 h2 (fun n hn=>hμ n (by simpa [AV.refs] using AV.refss_get h1 hn)))
 | tup cells vs hl hd ih=>exact .tup cells vs hl (fun i x v h1 h2=>ih i x v h1 h2 (fun n hn=>hμ n (by simpa [AV.refs] using AV.refss_get h1 hn)))
 | fn f cells vs hl hd ih=>exact .fn f cells vs hl (fun i x v h1 h2=>ih i x v h1 h2 (fun n hn=>hμ n (by simpa [AV.refs] using AV.refss_get h1 hn)))
theorem AVRel.placed {w:World} {own:Own} {μ:Pl} {x:AV} {v:Value} (h:AVRel w own μ x v):∀ n ∈ x.refs,(μ n).isSome:=by
 have refss:∀ (l:List AV) (vs:Array Value),l.length=vs.size→(∀ (i:Nat) (x:AV) (v:Value),l[i]?=some x→vs[i]?=some v→∀ n ∈ x.refs,(μ n).isSome) →
   ∀ n ∈ AV.refs.AV.refss l,(μ n).isSome:=by
  intro l vs hl ih n hn
  have:∀ (l:List AV),n ∈ AV.refs.AV.refss l→∃ (i:Nat) (x:AV),l[i]?=some x∧n ∈ x.refs:=by
   intro l
   induction l with
   | nil=>simp [AV.refs.AV.refss]
   | cons y ys ih' =>
    simp only [AV.refs.AV.refss,List.mem_append]
    rintro (h | h)
    ·exact⟨0,y,by simp,h⟩
    ·obtain⟨i,x,h1,h2⟩:=ih' h
     exact⟨i + 1,x,by simpa using h1,h2⟩
  obtain⟨i,x,h1,h2⟩:=this l hn
  have hi:i<vs.size:=by rw [← hl];exact (List.getElem?_eq_some_iff.1 h1).1
  exact ih i x vs[i] h1 (by simp [hi]) n h2
 induction h with
 | undef v=>simp [AV.refs]
 | void=>simp [AV.refs]
 | d h=>simp [AV.refs]
 | nil=>simp [AV.refs]
 | box off h=>simp [AV.refs,h]
 | elem i off h=>simp [AV.refs,h]
 | ownNil h=>simp [AV.refs,h]
 | own h=>simp [AV.refs,h]
 | view n off len cap a hs hle hn h=>simp [AV.refs,hs]
 | bsl off len cap h hle=>simp [AV.refs,h]
 | mp h=>simp [AV.refs,h]
 | vh len h hle=>simp [AV.refs,h]
 | vc len h hlt=>simp [AV.refs,h]
 | dfull h=>simp [AV.refs]
 | agg cells vs hl hd ih=>simpa [AV.refs] using refss cells vs hl ih
 | tup cells vs hl hd ih=>simpa [AV.refs] using refss cells vs hl ih
 | fn f cells vs hl hd ih=>simpa [AV.refs] using refss cells vs hl ih
def BlkRel (w:World) (own:Own) (μ:Pl) (n:Nat):Blk→Prop
 | .box row=>∃ b cs ty,μ n=some (.at b 0 1 1)∧w.heap[b]?=some (.cells cs ty (0,0))∧row.length≤cs.size ∧
   ∀ (j:Nat) x v,row[j]?=some x→cs[j]?=some v→v.oneCell'=true∧AVRel w own μ x v
 | .arr e z rows=>(μ n=some .none0∧rows=[])∨∃ b cap cs,μ n=some (.at b z rows.length cap)∧w.heap[b]?=some (.cells cs e (0,0)) ∧
   rows.length≤cap∧cap≤maxLen∧cs.size=cap * z∧(∀ r ∈ rows,r.length=z) ∧
   ∀ (i:Nat) r (j:Nat) d,rows[i]?=some r→r[j]?=some d→∃ v,cs[i * z + j]?=some v∧v.oneCell'=true∧DRel w own d v
 | .arrP e z rows=>∃ b cap cs,μ n=some (.at b z cap cap)∧w.heap[b]?=some (.cells cs e (0,0)) ∧
   rows.length≤cap∧cap≤maxLen∧cs.size=cap * z∧(∀ r ∈ rows,r.length=z) ∧
   ∀ (i:Nat) r (j:Nat) d,rows[i]?=some r→r[j]?=some d→∃ v,cs[i * z + j]?=some v∧v.oneCell'=true∧DRel w own d v
 | .arrA e z rows=>(μ n=some .none0∧rows=[])∨∃ b cap cs,μ n=some (.at b z rows.length cap)∧w.heap[b]?=some (.cells cs e (0,0)) ∧
   rows.length≤cap∧cap≤maxLen∧cs.size=cap * z∧(∀ r ∈ rows,r.length=z) ∧
   ∀ (i:Nat) r (j:Nat) x,rows[i]?=some r→r[j]?=some x→∃ v,cs[i * z + j]?=some v∧v.oneCell'=true∧AVRel w own μ x v
 | .mp kk es clock=>∃ b mes,μ n=some (.at b 0 2 2)∧w.heap[b]?=some (.map mes clock)∧mes.size=es.length ∧
   ∀ (i:Nat) e m,es[i]?=some e→mes[i]?=some m→(m.key=e.1.val∧e.1.fits kk=true)∧m.born=e.2.2∧DRel w own e.2.1 m.val
def ownOf (out:Own) (μ:Pl):Own:=fun b=>out b∨μ.owns b
structure MemRel (base:Own) (out:Own) (w:World) (μ:Pl) (m:List (Option Blk)):Prop where
 blk:∀ (n:Nat) b,m[n]?=some (some b)→BlkRel w (ownOf out μ) μ n b
 dom:∀ n,(μ n).isSome→∃ b,m[n]?=some (some b)
 inj:∀ n k b z l c z' l' c',μ n=some (.at b z l c)→μ k=some (.at b z' l' c')→n=k
 base:∀ n b z l c,μ n=some (.at b z l c)→¬ base b∧b<w.heap.size∧¬ out b
def hidP (P:Program):Bool:=P.globals.size != 0
def wideD:DV:=.ptr [.i 200,.i 100,.i (-50),.i 50] 0
def bruijnD:DV:=.ptr ([0,1,56,2,57,49,28,3,61,58,42,50,38,29,17,4,62,47,59,36,45,43,51,22,53,39,33,30,24,18,12,5,63,55,48,27,60,41,37,16,46,35,44,21,52,32,23,11,54,26,40,15,34,20,31,10,25,14,19,9,13,8,7,6].map (DV.int .u8)) 0
def hidOf (P:Program) (g:Nat):Option DV:=match P.globals.size,g with
 | 1,0=>some wideD
 | 2,1=>some bruijnD
 | 3,1=>some bruijnD
 | 3,2=>some wideD
 | _,_=>none
def Hid (P:Program) (w:World) (own:Own):Prop:=∀ g d,hidOf P g=some d→DRel w own d (.pointer (some ⟨g,0,none⟩))
theorem Hid.goes {P:Program} {w w':World} {own own':Own} (h:Hid P w own) (hg:Goes w own w' own'):Hid P w' own':=fun g d hp=>(h g d hp).goes hg
theorem Hid.less {P:Program} {w:World} {own own':Own} (h:Hid P w own) (hl:∀ b,own' b→own b):Hid P w own':=h.goes fun b _ _ h1 h2=>⟨fun hc=>h1 (hl b hc),h2⟩
theorem Hid.no {P:Program} {w:World} {own:Own} (h:hidP P=false):Hid P w own:=fun g d hp=>by
 have:P.globals.size=0:=by simpa [hidP] using h
 simp [hidOf,this] at hp
structure StRel (P:Program) (base:Own) (out:Own) (st:St) (μ:Pl) (tmps:Array Value) (w:World):Prop where
 size:tmps.size=st.t.length
 tmp:∀ (i:Nat) x v,st.t[i]?=some x→tmps[i]?=some v→AVRel w (ownOf out μ) μ x v
 mem:MemRel base out w μ st.m
 hid:Hid P w (ownOf out μ)
 out:∀ b,out b→base b
 le:∀ b,base b→b<w.heap.size
end Go.Ab
/- The operations on abstract states. -/
namespace Go.Ab
open Go.RowKit
def tsz (P:Program) (t:TypeId):Option Nat:=(P.info? t).map (·.size)
def tbytes (P:Program) (t:TypeId):Option Nat:=(P.info? t).map (·.bytes)
def tagg (P:Program) (t:TypeId):Option Bool:=match P.underlying t with
 | some (.struct _) | some (.array _ _)=>some true
 | some _=>some false
 | none=>none
def tzero (P:Program) (t:TypeId):Option Value:=match P.info? t with
 | some i=>i.zero
 | none=>none
def tslice (P:Program) (t:TypeId):Option TypeId:=match P.underlying t with
 | some (.slice e)=>some e
 | _=>none
def tfields (P:Program) (t:TypeId):Option (List (Nat × Nat × Bool)):=match P.underlying t with
 | some (.struct fs)=>fs.toList.mapM fun f=>match tsz P f.type,tagg P f.type with
  | some s,some a=>some (f.offset,s,a)
  | _,_=>none
 | _=>none
def tint (P:Program) (t:TypeId):Option IntKind:=match P.underlying t with
 | some (.int k)=>some k
 | _=>none
def cellOf:Value→AV
 | .bool b=>.d (.bool b)
 | .int k n=>.d (.int k n)
 | .string s=>.d (.str s)
 | .slice none l c=>if l=0∧c=0 then .nil else .undef
 | .pointer none=>.d .nilptr
 | .nilFunc=>.d .nilfn
 | .map none=>.d .any
 | .func (.func f) a b=>if a=#[]∧b=#[] then .d (.fn f []) else .undef
 | _=>.undef
def constOf:Value→AV
 | .agg cs=>.agg (cs.toList.map cellOf)
 | v=>cellOf v
def St.ev (st:St):Operand→AV
 | .tmp t=>st.t.getD t .undef
 | .const v=>constOf v
 | .func f=>.d (.fn f [])
 | .global _=>.undef
def AV.one:AV→Bool
 | .undef | .void | .agg _ | .tup _ | .d (.agg _) | .d (.tup _)=>false
 | _=>true
def AV.cells:AV→Option (List AV)
 | .agg cs=>if cs.all AV.one then some cs else none
 | .d (.agg cs)=>if (cs.map AV.d).all AV.one then some (cs.map AV.d) else none
 | x=>if x.one then some [x] else none
def St.put (st:St) (dst:Option Tmp) (x:AV):St:=match dst with
 | some d=>{ st with t:=st.t.set d x }
 | none=>st
def partOf (agg:Bool) (off size:Nat) (row:List AV):Option AV :=
 if agg then (if off + size≤row.length then some (.agg ((row.drop off).take size)) else none) else row[off]?
def partOfD (agg:Bool) (off size:Nat) (row:List DV):Option AV :=
 if agg then (if off + size≤row.length then some (.d (.agg ((row.drop off).take size))) else none) else (row[off]?).map .d
def splice {α:Type} (row:List α) (off:Nat) (xs:List α):Option (List α) :=
 if off + xs.length≤row.length then some (row.take off++(xs++row.drop (off + xs.length))) else none
def leaf (m:List (Option Blk)):AV→Option DV
 | .d x=>some x
 | .nil=>some (.sl [])
 | .own n=>match m[n]? with
  | some (some (.arr _ _ rows))=>some (.sl rows)
  | _=>none
 | .view n off len=>match m[n]? with
  | some (some (.arr _ _ rows))=>if off + len≤rows.length then some (.sl ((rows.drop off).take len)) else none
  | _=>none
 | .elem n i off=>match m[n]? with
  | some (some (.arr _ _ rows))=>(rows[i]?).map fun r=>.ptr r off
  | _=>none
 | .mp n=>match m[n]? with
  | some (some (.mp kk es c))=>some (.mp kk (es.map fun e=>(e.1,e.2.2)) (es.map fun e=>e.2.1) c)
  | _=>none
 | .vh n len=>match m[n]? with
  | some (some (.arrP _ _ rows))=>if rows.length=len then some (.sl rows) else none
  | _=>none
 | _=>none
def allSome {α:Type}:List (Option α)→Option (List α)
 | []=>some []
 | none::_=>none
 | some a::l=>(allSome l).map (a::·)
def reify (m:List (Option Blk)):Nat→AV→Option DV
 | 0,x=>leaf m x
 | f + 1,.box n off=>match m[n]? with
  | some (some (.box row))=>(allSome (row.map (reify m f))).map fun r=>.ptr r off
  | _=>none
 | f + 1,.agg cs=>(allSome (cs.map (reify m f))).map .agg
 | f + 1,.tup cs=>(allSome (cs.map (reify m f))).map .tup
 | f + 1,.fn g cs=>(allSome (cs.map (reify m f))).map (.fn g)
 | _ + 1,x=>leaf m x
def deep:Nat:=6
def AV.sub (n:Nat) (h:AV→AV):AV→AV
 | .box k o=>if k=n then h (.box k o) else .box k o
 | .elem k i o=>if k=n then h (.elem k i o) else .elem k i o
 | .own k=>if k=n then h (.own k) else .own k
 | .view k o l=>if k=n then h (.view k o l) else .view k o l
 | .bsl k o l=>if k=n then h (.bsl k o l) else .bsl k o l
 | .mp k=>if k=n then h (.mp k) else .mp k
 | .vh k l=>if k=n then h (.vh k l) else .vh k l
 | .vc k l=>if k=n then h (.vc k l) else .vc k l
 | .agg cs=>.agg (AV.subs n h cs)
 | .tup cs=>.tup (AV.subs n h cs)
 | .fn f cs=>.fn f (AV.subs n h cs)
 | x=>x
where AV.subs (n:Nat) (h:AV→AV):List AV→List AV
 | []=>[]
 | x::xs=>x.sub n h::AV.subs n h xs
def leafD:AV→Option DV
 | .d x=>some x
 | _=>none
def snapLeaf (b:Blk):AV→AV
 | .own _=>match b with
  | .arr _ _ rows=>.d (.sl rows)
  | _=>.undef
 | .view _ off len=>match b with
  | .arr _ _ rows=>if off + len≤rows.length then .d (.sl ((rows.drop off).take len)) else .undef
  | _=>.undef
 | .elem _ i off=>match b with
  | .arr _ _ rows=>match rows[i]? with
   | some r=>.d (.ptr r off)
   | none=>.undef
  | _=>.undef
 | .box _ off=>match b with
  | .box row=>match allSome (row.map leafD) with
   | some ds=>.d (.ptr ds off)
   | none=>.undef
  | _=>.undef
 | .mp _=>match b with
  | .mp kk es c=>.d (.mp kk (es.map fun e=>(e.1,e.2.2)) (es.map fun e=>e.2.1) c)
  | _=>.undef
 | _=>.undef
def Blk.sub (n:Nat) (h:AV→AV):Blk→Blk
 | .box row=>.box (row.map (AV.sub n h))
 | .arrA e z rows=>.arrA e z (rows.map fun r=>r.map (AV.sub n h))
 | b=>b
def subMem (n:Nat) (h:AV→AV):List (Option Blk)→List (Option Blk)
 | []=>[]
 | none::l=>none::subMem n h l
 | some b::l=>some (b.sub n h)::subMem n h l
def St.release (n:Nat) (st:St):St:=match st.m[n]? with
 | some (some b)=>{ t:=st.t.map (AV.sub n (snapLeaf b)),m:=subMem n (snapLeaf b) (st.m.set n none) }
 | _=>st
def St.kill (n:Nat) (st:St):St :=
 { t:=st.t.map (AV.sub n fun _=>.undef),m:=subMem n (fun _=>.undef) st.m }
def releaseAll:List Nat→St→St
 | [],st=>st
 | n::l,st=>releaseAll l (st.release n)
def AV.refsAll:List AV→List Nat
 | []=>[]
 | x::xs=>x.refs++AV.refsAll xs
end Go.Ab
/- One operation on an abstract state. -/
namespace Go.Ab
open Go.RowKit
def St.addBlk (st:St) (d:Nat) (x:AV) (b:Blk):St:={ t:=st.t.set d x,m:=st.m.set d (some b) }
def St.fresh (st:St) (d:Nat):Bool:=match st.m[d]? with
 | some none=>true
 | _=>false
def nameOf (d:Nat):Blk→AV
 | .box _=>.box d 0
 | .arr ..=>.own d
 | .arrP ..=>.own d
 | .arrA ..=>.own d
 | .mp ..=>.mp d
def opAlloc (P:Program) (elem:TypeId):Option Blk:=match tzero P elem with
 | some z=>match (constOf z).cells with
  | some row=>some (.box row)
  | none=>none
 | none=>none
def opBox (x:AV):Option Blk:=match x.cells with
 | some row=>some (.box row)
 | none=>none
def fillA (fs:List (Nat × Nat × Bool)) (cells:List AV):List (Nat × AV)→Option (List AV)
 | []=>some cells
 | (i,x)::r=>match fs[i]?,x.cells with
  | some (off,size,_),some xs=>if xs.length=size then (match splice cells off xs with
   | some cs=>fillA fs cs r
   | none=>none) else none
  | _,_=>none
def opBuild (P:Program) (t:TypeId) (parts:List (Nat × AV)):Option AV:=match tfields P t,tzero P t with
 | some fs,some z=>match (constOf z).cells with
  | some zs=>match fillA fs zs parts with
   | some cs=>some (.agg cs)
   | none=>none
  | none=>none
 | _,_=>none
def rowOf (st:St) (x:AV):Option (List DV):=match x.cells with
 | some cs=>allSome (cs.map (reify st.m deep))
 | none=>none
def rowsOf (st:St) (z:Nat):List AV→Option (List (List DV))
 | []=>some []
 | x::xs=>match rowOf st x,rowsOf st z xs with
  | some r,some rs=>if r.length=z then some (r::rs) else none
  | _,_=>none
def St.arrs (st:St):List Nat→Bool
 | []=>true
 | n::l=>(match st.m[n]? with
  | some (some (.arr _ _ _))=>true
  | some (some (.box row))=>(allSome (row.map leafD)).isSome
  | some (some (.mp _ _ _))=>true
  | _=>false) && st.arrs l
def opBuildSlice (P:Program) (st:St) (t:TypeId) (len:Nat) (parts:List (Nat × AV)):Option Blk:=match tslice P t with
 | some e=>match tsz P e with
  | some z=>if parts.map (·.1)=List.range len∧len≤2 ^ 24∧len * z≤2 ^ 24∧(len * z=0∨((tzero P e).map (·.cells.size))=some z) then
    match rowsOf st z (parts.map (·.2)),st.arrs (AV.refsAll (parts.map (·.2))) with
    | some rows,true=>some (.arr e z rows)
    | _,_=>none
   else none
  | none=>none
 | none=>none
def opLoad (P:Program) (st:St) (t:TypeId) (a:AV):Option AV:=match tagg P t,tsz P t with
 | some g,some size=>match (match a with
   | .box n off=>match st.m[n]? with
    | some (some (.box row))=>partOf g off size row
    | _=>none
   | .d (.ptr row off)=>partOfD g off size row
   | .elem n i off=>match st.m[n]? with
    | some (some (.arr _ _ rows))=>match rows[i]? with
     | some r=>partOfD g off size r
     | none=>none
    | some (some (.arrA _ _ rows))=>match rows[i]? with
     | some r=>partOf g off size r
     | none=>none
    | _=>none
   | _=>none) with
  | some x=>some (x)
  | none=>none
 | _,_=>none
def opStore (P:Program) (st:St) (t:TypeId) (a x:AV):Option St:=match tsz P t,x.cells with
 | some size,some cs=>if cs.length=size then (match a with
   | .box n off=>match st.m[n]? with
    | some (some (.box row))=>match splice row off cs with
     | some row'=>some { st with m:=st.m.set n (some (.box row')) }
     | none=>none
    | _=>none
   | .elem n i off=>match st.m[n]? with
    | some (some (.arr e z rows))=>match rows[i]?,allSome (cs.map (reify st.m deep)) with
     | some r,some ds=>match splice r off ds,st.arrs x.refs && !x.refs.contains n with
      | some r',true=>let st':=releaseAll x.refs st;some { st' with m:=st'.m.set n (some (.arr e z (rows.set i r'))) }
      | _,_=>none
     | _,_=>none
    | some (some (.arrA e z rows))=>match rows[i]? with
     | some r=>match splice r off cs with
      | some r'=>some { st with m:=st.m.set n (some (.arrA e z (rows.set i r'))) }
      | none=>none
     | none=>none
    | _=>none
   | _=>none) else none
 | _,_=>none
def opNilCheck (x:AV):Option AV:=match x with
 | .box .. | .elem .. | .d (.ptr ..) | .d (.raw ..) | .fn .. | .d (.fn ..)=>some (x)
 | _=>none
def bAnd (k:IntKind) (a b:Int):Int:=k.wrap (BitVec.ofInt k.bits a &&& BitVec.ofInt k.bits b).toNat
def bOr (k:IntKind) (a b:Int):Int:=k.wrap (BitVec.ofInt k.bits a ||| BitVec.ofInt k.bits b).toNat
def bXor (k:IntKind) (a b:Int):Int:=k.wrap (BitVec.ofInt k.bits a ^^^ BitVec.ofInt k.bits b).toNat
def bAndNot (k:IntKind) (a b:Int):Int:=k.wrap (BitVec.ofInt k.bits a &&& ~~~BitVec.ofInt k.bits b).toNat
def bShl (k:IntKind) (a b:Int):Int:=k.wrap (a * 2 ^ (min b.toNat k.bits))
def bShr (k:IntKind) (a b:Int):Int:=a.fdiv (2 ^ (min b.toNat k.bits))
def intOp (op:BinOp) (k:IntKind) (a b:Int):Option DV:=match op with
 | .add=>some (.int k (k.wrap (a + b)))
 | .sub=>some (.int k (k.wrap (a - b)))
 | .mul=>some (.int k (k.wrap (a * b)))
 | .quo=>if b=0 then none else some (.int k (k.wrap (a.tdiv b)))
 | .rem=>if b=0 then none else some (.int k (a.tmod b))
 | .and=>some (.int k (bAnd k a b))
 | .or=>some (.int k (bOr k a b))
 | .xor=>some (.int k (bXor k a b))
 | .andNot=>some (.int k (bAndNot k a b))
 | .eql=>some (.bool (a == b))
 | .neq=>some (.bool (a != b))
 | .lss=>some (.bool (decide (a<b)))
 | .leq=>some (.bool (decide (a≤b)))
 | .gtr=>some (.bool (decide (a > b)))
 | .geq=>some (.bool (decide (a ≥ b)))
 | _=>none
def shiftOp (op:BinOp) (k:IntKind) (a b:Int):Option DV:=if b<0 then none else match op with
 | .shl=>some (.int k (bShl k a b))
 | .shr=>some (.int k (bShr k a b))
 | _=>none
def isPtr:AV→Option Bool
 | .box .. | .elem .. | .d (.ptr ..) | .d (.raw ..)=>some true
 | .d .nilptr=>some false
 | _=>none
def opBin (P:Program) (op:BinOp) (xType:TypeId) (x y:AV):Option AV:=match op,x,y with
 | .shl,.d (.int k a),.d (.int _ b) | .shr,.d (.int k a),.d (.int _ b)=>match shiftOp op k a b with
  | some v=>some (.d v)
  | none=>none
 | _,.d (.int k a),.d (.int k' b)=>if k=k' then (match intOp op k a b with
  | some v=>some (.d v)
  | none=>none) else none
 | .eql,.d (.bool a),.d (.bool b)=>match P.underlying xType with
  | some .bool=>some (.d (.bool (a == b)))
  | _=>none
 | .neq,.d (.bool a),.d (.bool b)=>match P.underlying xType with
  | some .bool=>some (.d (.bool (!(a == b))))
  | _=>none
 | .eql,x,.d .nilptr=>match P.underlying xType,isPtr x with
  | some (.pointer _),some b=>some (.d (.bool (!b)))
  | _,_=>none
 | .neq,x,.d .nilptr=>match P.underlying xType,isPtr x with
  | some (.pointer _),some b=>some (.d (.bool b))
  | _,_=>none
 | .eql,.d .nilsl,.nil=>match tslice P xType with
  | some _=>some (.d (.bool true))
  | none=>none
 | .eql,.d (.sl rows),.nil=>match tslice P xType,rows.isEmpty with
  | some _,false=>some (.d (.bool false))
  | some _,true=>some (.d .ub)
  | _,_=>none
 | _,_,_=>none
def tleaf (P:Program) (t:TypeId):Option Bool:=match P.underlying t with
 | some .bool=>some true
 | some (.int _)=>some false
 | _=>none
def teqL (P : Program) (fs : List Field) : Option (List (Nat × Bool)) := fs.mapM fun f => if f.name = "_" then none else (tleaf P f.type).map fun b => (f.offset, b)
def teqPart (P : Program) (f : Field) : Option (List (Nat × Bool)) := if f.name = "_" then none else match tleaf P f.type with
 | some b=>some [(f.offset,b)]
 | none=>match P.underlying f.type,tsz P f.type with
  | some (.struct gs),some size=>if P.stoodInHeld f.type then none else match teqL P gs.toList with
   | some l=>if l.all (fun p=>decide (p.1<size)) then some (l.map fun p=>(f.offset + p.1,p.2)) else none
   | none=>none
  | _,_=>none
def teq (P:Program) (t:TypeId):Option (List (Nat × Bool)):=match P.underlying t with
 | some (.struct fs)=>if P.stoodInHeld t || P.eqGuardType P.depth t then none else (fs.toList.mapM (teqPart P)).map List.flatten
 | _=>none
def eqOne (isB:Bool) (x y:DV):Option Bool:=match x,y with
 | .int k a,.int k' b=>if isB=false∧k=k' then some (a == b) else none
 | .bool a,.bool b=>if isB=true then some (a == b) else none
 | _,_=>none
def eqAt (xs ys:List DV):List (Nat × Bool)→Option Bool
 | []=>some true
 | p::l=>match xs[p.1]?,ys[p.1]? with
  | some x,some y=>match eqOne p.2 x y,eqAt xs ys l with
   | some a,some b=>some (a && b)
   | _,_=>none
  | _,_=>none
def AV.flatAgg:AV→Option (List DV)
 | .agg cs=>allSome (cs.map leafD)
 | .d (.agg ds)=>some ds
 | _=>none
def opEqS (P:Program) (op:BinOp) (t:TypeId) (xs ys:List DV):Option AV:=match teq P t with
 | some l=>match eqAt xs ys l with
  | some b=>match op with
   | .eql=>some (.d (.bool b))
   | .neq=>some (.d (.bool (!b)))
   | _=>none
  | none=>none
 | none=>none
def opBinE (P:Program) (op:BinOp) (t:TypeId) (x y:AV):Option AV:=match x.flatAgg with
 | some xs=>match y.flatAgg with
  | some ys=>opEqS P op t xs ys
  | none=>none
 | none=>opBin P op t x y
def opUn (op:UnOp) (x:AV):Option AV:=match op,x with
 | .not,.d (.bool b)=>some (.d (.bool (!b)))
 | .neg,.d (.int k n)=>some (.d (.int k (k.wrap (0 - n))))
 | _,_=>none
def pickA (c:Bool):AV→AV→AV
 | .d (.bool a),.d (.bool b)=>.d (.bool (bif c then a else b))
 | a,b=>bif c then a else b
def opPick (c a b:AV):Option AV:=match c with
 | .d (.bool c)=>some (pickA c a b)
 | _=>none
def opConvert (P:Program) (src t:TypeId) (x:AV):Option AV:=match P.underlying src,tint P t,x with
 | some _,some k,.d (.int _ n)=>some (.d (.int k (k.wrap n)))
 | _,_,_=>none
def opMakeFunc (fn:Fn) (first:List AV) (captured:List AV):Option AV:=match fn with
 | .func f=>match first with
  | []=>some (.fn f captured)
  | x::xs=>match captured with
   | []=>match allSome ((x::xs).map (reify [] deep)) with
    | some ds=>some (.d (.bnd f ds))
    | none=>none
   | _::_=>none
 | _=>none
def opMakeSlice (P:Program) (st:St) (t:TypeId) (l c:AV):Option Blk:=match tslice P t,l,c with
 | some e,.d (.int _ n),.d (.int _ n')=>match tsz P e,tbytes P e,tzero P e with
  | some z,some by_,some zv=>if n=n'∧0≤n∧n≤2 ^ 40∧by_≤2 ^ 7 then
    match rowOf st (constOf zv) with
    | some zr=>if zr.length=z then some (.arr e z (List.replicate n.toNat zr)) else none
    | none=>none
   else none
  | _,_,_=>none
 | _,_,_=>none
def boundsOf (len:Nat) (lo hi:Option AV):Option (Nat × Nat) :=
 match (match hi with
  | none=>some len
  | some (.d (.int _ h))=>if 0≤h∧h≤len then some h.toNat else none
  | _=>none) with
 | some h=>match lo with
  | none=>some (0,h)
  | some (.d (.int _ l))=>if 0≤l∧l≤h then some (l.toNat,h) else none
  | _=>none
 | none=>none
def headIs (z:Nat):List (List DV)→Bool
 | []=>true
 | r::_=>r.length == z
def opSlice3 (P:Program) (st:St) (t:TypeId) (x:AV) (lo hi mx:Option AV):Option AV:=match tslice P t,x,lo,hi,mx with
 | some e,.own n,none,some (.d (.int _ h)),some (.d (.int _ m))=>match tsz P e,st.m[n]? with
  | some z,some (some (.arr _ z' rows))=>if z'=z∧0<rows.length∧h=rows.length∧m=rows.length then some (.view n 0 rows.length) else none
  | _,_=>none
 | _,_,_,_,_=>none
def tarr (P:Program) (t:TypeId):Option Nat:=match P.underlying t with
 | some (.array n e)=>if tsz P e=some 1 then some n else none
 | _=>none
def opSliceA (P:Program) (st:St) (t:TypeId) (x:AV) (lo hi:Option AV):Option AV:=match tarr P t with
 | some n=>match boundsOf n lo hi with
  | some (l,h)=>if l<n then (match x with
    | .box m off=>match st.m[m]? with
     | some (some (.box _))=>some (.bsl m (off + l) (h - l))
     | _=>none
    | .d (.ptr row off)=>if off + n≤row.length then some (.d (.sl (((row.drop (off + l)).take (h - l)).map fun d=>[d]))) else none
    | _=>none) else none
  | none=>none
 | none=>none
def opSlice (P:Program) (st:St) (t:TypeId) (x:AV) (lo hi mx:Option AV):Option AV:=match mx,tslice P t with
 | none,some e=>match tsz P e with
  | some z=>match x with
   | .nil=>match boundsOf 0 lo hi with
    | some _=>some (.nil)
    | none=>none
   | .d (.sl rows)=>match boundsOf rows.length lo hi,headIs z rows with
    | some (l,h),true=>some (.d (.sl ((rows.drop l).take (h - l))))
    | _,_=>none
   | .own n=>match st.m[n]? with
    | some (some (.arr _ z' rows))=>match boundsOf rows.length lo hi with
     | some (l,h)=>if z'=z then some (.view n l (h - l)) else none
     | none=>none
    | _=>none
   | .view n off len=>match st.m[n]? with
    | some (some (.arr _ z' rows))=>match boundsOf len lo hi with
     | some (l,h)=>if z'=z∧off + len≤rows.length then some (.view n (off + l) (h - l)) else none
     | none=>none
    | _=>none
   | _=>none
  | none=>none
 | some _,some _=>opSlice3 P st t x lo hi mx
 | none,none=>opSliceA P st t x lo hi
 | _,_=>none
def opFieldAddr (P:Program) (s:TypeId) (x:AV) (f:Nat):Option AV:=match tfields P s with
 | some fs=>match fs[f]? with
  | some (fo,size,_)=>if size=0 then none else match x with
   | .box n off=>some (.box n (off + fo))
   | .elem n i off=>some (.elem n i (off + fo))
   | .d (.ptr row off)=>some (.d (.ptr row (off + fo)))
   | .d (.raw b off)=>some (.d (.raw b (off + fo)))
   | _=>none
  | none=>none
 | none=>none
def opField (P:Program) (s:TypeId) (x:AV) (f:Nat):Option AV:=match tfields P s with
 | some fs=>match fs[f]? with
  | some (fo,size,g)=>match (match x with
    | .agg cs=>partOf g fo size cs
    | .d (.agg cs)=>partOfD g fo size cs
    | _=>none) with
   | some v=>some (v)
   | none=>none
  | none=>none
 | none=>none
def opIndexAddr (P:Program) (st:St) (t:TypeId) (x i:AV):Option AV:=match tslice P t,i with
 | some e,.d (.int _ i)=>match tsz P e with
  | some z=>if 0≤i then (match x with
    | .d (.sl rows)=>match rows[i.toNat]? with
     | some r=>if r.length=z then some (.d (.ptr r 0)) else none
     | none=>none
    | .own n=>match st.m[n]? with
     | some (some (.arr _ z' rows))=>if z'=z∧i.toNat<rows.length then some (.elem n i.toNat 0) else none
     | some (some (.arrA _ z' rows))=>if z'=z∧i.toNat<rows.length then some (.elem n i.toNat 0) else none
     | _=>none
    | .view n off len=>match st.m[n]? with
     | some (some (.arr _ z' _))=>if z'=z∧i.toNat<len then some (.elem n (off + i.toNat) 0) else none
     | _=>none
    | .bsl n off len=>if z=1∧i.toNat<len then some (.box n (off + i.toNat)) else none
    | _=>none) else none
  | none=>none
 | none,.d (.int _ i)=>match tarr P t with
  | some n=>if 0≤i∧i.toNat<n then (match x with
    | .box m off=>some (.box m (off + i.toNat))
    | .d (.ptr row off)=>some (.d (.ptr row (off + i.toNat)))
    | _=>none) else none
  | none=>none
 | _,_=>none
def opExtract (x:AV) (i:Nat):Option AV:=match x with
 | .tup vs=>match vs[i]? with
  | some v=>some (v)
  | none=>none
 | .d (.tup vs)=>match vs[i]? with
  | some v=>some (.d v)
  | none=>none
 | _=>none
def elemsOf (st:St):AV→Option (List (List DV))
 | .nil=>some []
 | .d (.sl rows)=>some rows
 | .own n=>match st.m[n]? with
  | some (some (.arr _ _ rows))=>some rows
  | _=>none
 | .view n off len=>match st.m[n]? with
  | some (some (.arr _ _ rows))=>if off + len≤rows.length then some ((rows.drop off).take len) else none
  | _=>none
 | _=>none
def lenA (st:St):AV→Option Nat
 | .own n=>match st.m[n]? with
  | some (some (.arrA _ _ rows))=>some rows.length
  | _=>none
 | _=>none
def opLen (P:Program) (st:St) (t:TypeId) (x:AV):Option AV:=match tslice P t with
 | some _=>match x with
  | .view _ _ len | .bsl _ _ len | .vh _ len | .vc _ len=>some (.d (.int .i64 len))
  | x=>match elemsOf st x with
   | some rows=>some (.d (.int .i64 rows.length))
   | none=>match lenA st x with
    | some n=>some (.d (.int .i64 n))
    | none=>none
 | none=>none
def opAppend (P:Program) (st:St) (dst:Option Tmp) (t t':TypeId) (s x:AV):Option St:=if t'=t then match dst,tslice P t with
 | some d,some e=>match tsz P e,tbytes P e,(tzero P e).map (·.cells.size),elemsOf st x with
  | some z,some by_,some zl,some xs=>if zl=z∧0<z∧0<by_∧by_≤2 ^ 7∧headIs z xs then (match s with
    | .nil=>match st.fresh d with
     | true=>if xs.length≤2 ^ 39 then some (st.addBlk d (.own d) (.arr e z xs)) else none
     | _=>none
    | .own n=>match st.m[n]? with
     | some (some (.arr e' z' rows))=>if e'=e∧z'=z∧rows.length + xs.length≤2 ^ 39 then
       (let st':=st.kill n;some ({ st' with m:=st'.m.set n (some (.arr e z (rows++xs))) }.put dst (.own n)))
      else none
     | _=>none
    | .vc n len=>match st.m[n]? with
     | some (some (.arrP e' z' rows))=>if e'=e∧z'=z∧rows.length=len∧xs.length=1 then some ({ st with m:=st.m.set n (some (.arrP e z (rows++xs))) }.put dst (.vh n (len + 1))) else none
     | _=>none
    | .dfull rows=>match st.fresh d with
     | true=>if rows.length + xs.length≤2 ^ 39∧0<rows.length∧0<xs.length∧headIs z rows then some (st.addBlk d (.own d) (.arr e z (rows++xs))) else none
     | _=>none
    | .vh n len=>match st.m[n]?,st.fresh d with
     | some (some (.arr _ z' rows)),true=>if z'=z∧rows.length=len∧rows.length + xs.length≤2 ^ 39∧0<rows.length∧0<xs.length then some (st.addBlk d (.own d) (.arr e z (rows++xs))) else none
     | _,_=>none
    | _=>none) else none
  | _,_,_,_=>none
 | _,_=>none else none
def dstOf (st:St):AV→Option (Nat × Nat × Nat)
 | .own n=>match st.m[n]? with
  | some (some (.arr _ _ rows))=>some (n,0,rows.length)
  | _=>none
 | .view n off len=>some (n,off,len)
 | _=>none
def opCopyB (P:Program) (st:St) (e:TypeId) (n off len:Nat) (y:AV):Option (Nat × Nat × Blk):=match tsz P e,elemsOf st y,st.m[n]? with
 | some s,some xs,some (some (.box row))=>if s=1∧headIs 1 xs=true∧off + len≤row.length then
   some (min xs.length len,n,.box (row.take off++((xs.take (min xs.length len)).map (fun r=>AV.d (r.getD 0 .any))++row.drop (off + min xs.length len)))) else none
 | _,_,_=>none
def opCopyA (P:Program) (st:St) (t:TypeId) (x y:AV):Option (Nat × Nat × Blk):=match tslice P t with
 | some e=>match tsz P e,elemsOf st y,dstOf st x with
  | some s,some xs,some (n,off,len)=>match st.m[n]? with
   | some (some (.arr e' z rows))=>if s=1∧z=1∧headIs 1 xs=true∧off + len≤rows.length then
     some (min xs.length len,n,.arr e' z (rows.take off++(xs.take (min xs.length len)++rows.drop (off + min xs.length len)))) else none
   | _=>none
  | _,_,_=>none
 | none=>none
def opCopy (P:Program) (st:St) (t:TypeId) (x y:AV):Option (Nat × Nat × Blk):=match x with
 | .bsl n off len=>(match tslice P t with
  | some e=>opCopyB P st e n off len y
  | none=>none)
 | x=>opCopyA P st t x y
def zrowP (P:Program) (e:TypeId):Option (List DV):=match tzero P e with
 | some zv=>match (constOf zv).cells with
  | some cs=>allSome (cs.map (reify [] deep))
  | none=>none
 | none=>none
def opClear (P:Program) (st:St) (t:TypeId) (x:AV):Option (Nat × Blk):=match tslice P t,x with
 | some e,.view n off len=>match zrowP P e,st.m[n]? with
  | some zr,some (some (.arr e' z rows))=>if zr.length=z∧off + len≤rows.length then
    some (n,.arr e' z (rows.take off++(List.replicate len zr++rows.drop (off + len)))) else none
  | _,_=>none
 | _,_=>none
def opMinMax (mx:Bool) (args:List AV):Option AV:=match args with
 | [.d (.int k x),.d (.int _ y)]=>some (.d (.int k (if mx then (if y > x then y else x) else (if y<x then y else x))))
 | _=>none
def isI64:Option TypeDesc→Bool
 | some (.int .i64)=>true
 | _=>false
def fieldInts (P:Program) (t:TypeId):Option (Bool × Nat × IntKind):=match P.underlying t with
 | some (.int k)=>some (false,1,k)
 | some (.array n e)=>match P.underlying e with
  | some (.int k)=>if tsz P e=some 1∧tsz P t=some n then some (true,n,k) else none
  | _=>none
 | _=>none
def segsInt (P:Program):List Field→Nat→Option (List IntKind)
 | [],_=>some []
 | f :: fs, off => if f.name = "_" ∨ f.offset ≠ off then none else match fieldInts P f.type with
  | some (_,n,k)=>(segsInt P fs (off + n)).map (List.replicate n k++·)
  | none=>none
def tkeyS (P:Program) (k:TypeId):KK:=match P.underlying k with
 | some (.struct fs)=>if P.stoodInHeld k=false then segsInt P fs.toList 0 else none
 | _=>none
def tmapK (P:Program) (t:TypeId):Option (KK × TypeId):=match P.underlying t with
 | some (.map k e)=>match P.underlying k with
  | some (.int .i64)=>some (none,e)
  | _=>match tkeyS P k with
   | some n=>some (some n,e)
   | none=>none
 | _=>none
def intOf:DV→Option (IntKind × Int)
 | .int k n=>some (k,n)
 | _=>none
def keyOf:KK→AV→Option MK
 | none,.d (.int .i64 n)=>some (.i n)
 | some ks,x=>match x.flatAgg with
  | some ds=>match allSome (ds.map intOf) with
   | some l=>if l.map (·.1)=ks then some (.s l) else none
   | none=>none
  | none=>none
 | _,_=>none
def findE:List (MK × DV × Nat)→MK→Nat→Option (Nat × DV × Nat)
 | [],_,_=>none
 | e::es,k,i=>if k=e.1 then some (i,e.2.1,e.2.2) else findE es k (i + 1)
def setBorn:List (MK × DV × Nat)→Int→DV→Option (List (MK × DV × Nat))
 | [],_,_=>none
 | e::es,b,v=>if (e.2.2:Int)=b then some ((e.1,v,e.2.2)::es) else (match setBorn es b v with
  | some es'=>some (e::es')
  | none=>none)
def zeroD (P:Program) (e:TypeId):Option DV:=match tzero P e with
 | some z=>reify [] deep (constOf z)
 | none=>none
def mkE (keys:List (MK × Nat)) (vals:List DV):List (MK × DV × Nat):=List.zipWith (fun k v=>(k.1,v,k.2)) keys vals
def lookD (P:Program) (e:TypeId) (es:List (MK × DV × Nat)) (k:MK) (ok:Bool):Option AV:=match findE es k 0 with
 | some (_,v,_)=>some (if ok then .tup [.d v,.d (.bool true)] else .d v)
 | none=>match zeroD P e with
  | some z=>some (if ok then .tup [.d z,.d (.bool false)] else .d z)
  | none=>none
def opLookup (P:Program) (st:St) (t:TypeId) (x ix:AV) (ok:Bool):Option AV:=match tmapK P t,x with
 | some (kk,e),.d (.mp kk' keys vals _)=>match keyOf kk ix with
  | some k=>if kk'=kk then lookD P e (mkE keys vals) k ok else none
  | none=>none
 | some (kk,e),.mp n=>match keyOf kk ix,st.m[n]? with
  | some k,some (some (.mp kk' es _))=>if kk'=kk then (match findE es k 0 with
   | some (_,v,_)=>some (if ok then .tup [.d v,.d (.bool true)] else .d v)
   | none=>match zeroD P e with
    | some z=>some (if ok then .tup [.d z,.d (.bool false)] else .d z)
    | none=>none) else none
  | _,_=>none
 | _,_=>none
def opMapEntry (P:Program) (st:St) (t:TypeId) (m k:AV):Option (AV × Nat × Blk):=match tmapK P t,m with
 | some (kk,e),.mp n=>match keyOf kk k,st.m[n]? with
  | some k,some (some (.mp kk' es c))=>if kk'=kk then (match findE es k 0 with
   | some (_,v,b)=>some (.tup [.d v,.d (.int .i64 b)],n,.mp kk es c)
   | none=>match zeroD P e with
    | some z=>some (.tup [.d z,.d (.int .i64 c)],n,.mp kk (es++[(k,z,c)]) (c + 1))
    | none=>none) else none
  | _,_=>none
 | _,_=>none
def opMapUpdate (P:Program) (st:St) (t:TypeId) (m k x:AV):Option (Nat × Blk):=match tmapK P t,m with
 | some (kk,_),.mp n=>match keyOf kk k,st.m[n]?,reify [] deep x with
  | some k,some (some (.mp kk' es c)),some d=>if kk'=kk then (match findE es k 0 with
   | some (j,_,b)=>some (n,.mp kk (es.set j (k,d,b)) c)
   | none=>some (n,.mp kk (es++[(k,d,c)]) (c + 1))) else none
  | _,_,_=>none
 | _,_=>none
def opEntryStore (st:St) (m s x:AV):Option (Nat × Blk):=match m,s with
 | .mp n,.d (.int _ b)=>match st.m[n]?,reify [] deep x with
  | some (some (.mp kk es c)),some d=>match setBorn es b d with
   | some es'=>some (n,.mp kk es' c)
   | none=>none
  | _,_=>none
 | _,_=>none
def putV (st:St) (dst:Option Tmp):Option AV→Option St
 | some x=>some (st.put dst x)
 | none=>none
def addN (st:St) (dst:Option Tmp) (b:Option Blk):Option St:=match dst,b with
 | some d,some b=>match st.fresh d with
  | true=>some (st.addBlk d (nameOf d b) b)
  | _=>none
 | _,_=>none
def evG (P:Program) (st:St):Operand→AV
 | .global g=>match hidOf P g with
  | some d=>.d d
  | none=>.undef
 | .tmp t=>st.ev (.tmp t)
 | .const v=>st.ev (.const v)
 | .func f=>st.ev (.func f)
def valOp (P:Program) (o:Op) (st:St):Option AV:=match o with
 | .move x | .assign x=>some (st.ev x)
 | .pick c a b=>opPick (st.ev c) (st.ev a) (st.ev b)
 | .build t parts=>opBuild P t (parts.toList.map fun p=>(p.1,st.ev p.2))
 | .load t a=>opLoad P st t (evG P st a)
 | .nilCheck x=>opNilCheck (st.ev x)
 | .binOp op xt x y _=>opBinE P op xt (st.ev x) (st.ev y)
 | .unOp op _ x=>opUn op (st.ev x)
 | .convert src t x=>opConvert P src t (st.ev x)
 | .makeFunc fn first captured=>opMakeFunc fn (first.toList.map st.ev) (captured.toList.map st.ev)
 | .slice t x lo hi mx=>opSlice P st t (st.ev x) (lo.map st.ev) (hi.map st.ev) (mx.map st.ev)
 | .fieldAddr s x f=>opFieldAddr P s (st.ev x) f
 | .field s x f=>opField P s (st.ev x) f
 | .indexAddr t x i=>opIndexAddr P st t (evG P st x) (st.ev i)
 | .extract x i=>opExtract (st.ev x) i
 | .lookup t x ix ok=>opLookup P st t (st.ev x) (st.ev ix) ok
 | .call { callee:=.builtin .len,args,argTypes }=>match argTypes.toList,args.toList.map st.ev with
  | [t],[x]=>opLen P st t x
  | _,_=>none
 | .call { callee:=.builtin .min,args,.. }=>opMinMax false (args.toList.map st.ev)
 | .call { callee:=.builtin .max,args,.. }=>opMinMax true (args.toList.map st.ev)
 | _=>none
def newOp (P:Program) (o:Op) (st:St):Option Blk:=match o with
 | .alloc e=>opAlloc P e
 | .box _ x=>opBox (st.ev x)
 | .makeSlice t l c=>opMakeSlice P st t (st.ev l) (st.ev c)
 | .makeMap t none=>(tmapK P t).map fun p=>.mp p.1 [] 0
 | _=>none
def stepOp (P:Program) (o:Oper) (st:St):Option St:=match o.op with
 | .alloc .. | .box .. | .makeSlice .. | .makeMap ..=>addN st o.dst (newOp P o.op st)
 | .buildSlice t len parts=>match opBuildSlice P st t len (parts.toList.map fun p=>(p.1,st.ev p.2)) with
  | some b=>match o.dst,st.fresh (o.dst.getD 0) with
   | some d,true=>some ((releaseAll (AV.refsAll ((parts.toList.map fun p=>(p.1,st.ev p.2)).map (·.2))) st).addBlk d (.own d) b)
   | _,_=>none
  | none=>none
 | .store t a x=>opStore P st t (st.ev a) (st.ev x)
 | .call { callee:=.builtin .append,args,argTypes }=>match argTypes.toList,args.toList.map st.ev with
  | [t,t'],[s,x]=>opAppend P st o.dst t t' s x
  | _,_=>none
 | .call { callee:=.builtin .copy,args,argTypes }=>match argTypes.toList,args.toList.map st.ev with
  | [t,_],[x,y]=>match opCopy P st t x y with
   | some (c,n,b)=>some { t:=(st.put o.dst (.d (.int .i64 c))).t,m:=st.m.set n (some b) }
   | none=>none
  | _,_=>none
 | .call { callee:=.builtin .clear,args,argTypes }=>match o.dst,argTypes.toList,args.toList.map st.ev with
  | none,[t],[x]=>match opClear P st t x with
   | some (n,b)=>some { t:=st.t,m:=st.m.set n (some b) }
   | none=>none
  | _,_,_=>none
 | .mapEntry t m k=>match opMapEntry P st t (st.ev m) (st.ev k) with
  | some (v,n,b)=>some { t:=(st.put o.dst v).t,m:=st.m.set n (some b) }
  | none=>none
 | .mapUpdate t m k x=>match opMapUpdate P (releaseAll (st.ev x).refs st) t ((releaseAll (st.ev x).refs st).ev m) ((releaseAll (st.ev x).refs st).ev k) ((releaseAll (st.ev x).refs st).ev x) with
  | some (n,b)=>some { t:=(releaseAll (st.ev x).refs st).t,m:=(releaseAll (st.ev x).refs st).m.set n (some b) }
  | none=>none
 | .entryStore _ m s x=>match opEntryStore st (st.ev m) (st.ev s) (st.ev x) with
  | some (n,b)=>some { t:=st.t,m:=st.m.set n (some b) }
  | none=>none
 | _=>putV st o.dst (valOp P o.op st)
end Go.Ab
/- How values and memory are carried along: the laws under the soundness of the operations. -/
namespace Go.Ab
open Go.RowKit
theorem z1064 {w:World} {own:Own} {d:DV} {v:Value} (h:DRel w own d v) (h1:(AV.d d).one=true):v.oneCell'=true:=by
 cases h <;> first | rfl | assumption | simp [AV.one] at h1
theorem AVRel.oneCell {w:World} {own:Own} {μ:Pl} {x:AV} {v:Value} (h:AVRel w own μ x v) (h1:x.one=true):v.oneCell'=true:=by
 cases h with
 | d h=>exact z1064 h h1
 | _=>first | rfl | simp [AV.one] at h1
theorem AVRel.d_inv {w:World} {own:Own} {μ:Pl} {x:DV} {v:Value} (h:AVRel w own μ (.d x) v):DRel w own x v:=by cases h;assumption
theorem z23 {w:World} {own:Own} {μ:Pl} {x:AV} {v:Value} (h:AVRel w own μ x v) {cs:List AV} (hc:x.cells=some cs) :
  v.cells.size=cs.length∧(∀ (i:Nat) y u,cs[i]?=some y→v.cells[i]?=some u→AVRel w own μ y u)∧(∀ y ∈ cs,y.one=true):=by
 unfold AV.cells at hc
 split at hc
 ·-- agg
  rename_i l
  split at hc
  ·rename_i hall
   cases hc
   cases h with
   | agg _ vs hl hd=>exact⟨hl.symm,hd,by simpa using hall⟩
  ·cases hc
 ·rename_i l
  split at hc
  ·rename_i hall
   cases hc
   have h:=h.d_inv
   cases h with
   | agg _ vs hl hd =>
    refine⟨by simp [Value.cells,hl],fun i y u h1 h2=>?_,by simpa using hall⟩
    simp only [List.getElem?_map,Option.map_eq_some_iff] at h1
    obtain⟨d,h1,rfl⟩:=h1
    exact .d (hd i d u h1 h2)
  ·cases hc
 ·split at hc
  ·rename_i h1
   cases hc
   have hv:v.cells=#[v]:=by
    have:=h.oneCell h1
    unfold Value.cells
    split
    ·simp [Value.oneCell'] at this
    ·rfl
   rw [hv]
   refine⟨rfl,fun i y u h2 h3=>?_,by simpa using h1⟩
   cases i with
   | zero=>simp at h2 h3;subst h2;subst h3;exact h
   | succ i=>simp at h2
  ·cases hc
theorem z483 (w:World) (own:Own) (μ:Pl) (v:Value):AVRel w own μ (cellOf v) v:=by
 unfold cellOf
 split
 ·exact .d (.bool _)
 ·exact .d (.int _ _)
 ·exact .d (.str _)
 ·split
  ·rename_i h;obtain⟨rfl,rfl⟩:=h;exact .nil
  ·exact .undef _
 ·exact .d .nilptr
 ·exact .d .nilfn
 ·exact .d (.any _ rfl)
 ·split
  ·rename_i h;obtain⟨rfl,rfl⟩:=h;exact .d (.fn _ _ _ rfl (fun i d v h1 _=>by simp at h1))
  ·exact .undef _
 ·exact .undef _
theorem z61 (w:World) (own:Own) (μ:Pl) (v:Value):AVRel w own μ (constOf v) v:=by
 unfold constOf
 split
 ·rename_i cs
  refine .agg _ cs (by simp) (fun i x v h1 h2=>?_)
  simp only [List.getElem?_map,Option.map_eq_some_iff] at h1
  obtain⟨u,h1,rfl⟩:=h1
  rw [Array.getElem?_toList,h2] at h1
  cases h1
  exact z483 w own μ _
 ·exact z483 w own μ _
section
variable {P:Program} {base:Own} {out:Own} {st:St} {μ:Pl} {tmps:Array Value} {w:World}
theorem StRel.get (h:StRel P base out st μ tmps w) (t:Nat):AVRel w (ownOf out μ) μ (st.t.getD t .undef) (tmps.getD t Go.undef):=by
 by_cases ht:t<st.t.length
 ·have ht':t<tmps.size:=by rw [h.size];exact ht
  refine h.tmp t _ _ (by simp [List.getD,ht]) (by simp [ht'])
 ·have:st.t.getD t .undef=.undef:=by simp [List.getD,List.getElem?_eq_none (Nat.le_of_not_lt ht)]
  rw [this]
  exact .undef _
theorem StRel.ev (h:StRel P base out st μ tmps w) (x:Operand) (ds:List Deferred):AVRel w (ownOf out μ) μ (st.ev x) (({ tmps:=tmps,defers:=ds }:Act).eval x):=by
 cases x with
 | tmp t=>exact h.get t
 | const v=>exact z61 _ _ _ _
 | func f=>exact .d (.fn _ _ _ rfl (fun i d v h1 _=>by simp at h1))
 | global g=>exact .undef _
theorem StRel.evG (h:StRel P base out st μ tmps w) (x:Operand) (ds:List Deferred):AVRel w (ownOf out μ) μ (Go.Ab.evG P st x) (({ tmps:=tmps,defers:=ds }:Act).eval x):=by
 cases x with
 | global g =>
  simp only [Go.Ab.evG]
  split
  ·rename_i d hg
   exact .d (h.hid g d hg)
  ·exact .undef _
 | tmp t=>exact h.ev (.tmp t) ds
 | const v=>exact h.ev (.const v) ds
 | func f=>exact h.ev (.func f) ds
def putT (tmps:Array Value) (dst:Option Tmp) (v:Value):Array Value:=match dst with
 | some d=>tmps.setIfInBounds d v
 | none=>tmps
theorem z1034 {own:Own} {t:List AV} (h:∀ (i:Nat) x v,t[i]?=some x→tmps[i]?=some v→AVRel w own μ x v) {d:Nat} {x:AV} {v:Value} (hx:AVRel w own μ x v) :
  ∀ (i:Nat) y u,(t.set d x)[i]?=some y→(tmps.setIfInBounds d v)[i]?=some u→AVRel w own μ y u:=by
 intro i y u h1 h2
 rw [List.getElem?_set] at h1
 rw [Array.getElem?_setIfInBounds] at h2
 by_cases hi:d=i
 ·subst hi
  simp only [if_true] at h1 h2
  split at h1
  ·split at h2
   ·cases h1;cases h2;exact hx
   ·cases h2
  ·cases h1
 ·simp only [hi,if_false] at h1 h2
  exact h i y u h1 h2
theorem StRel.put (h:StRel P base out st μ tmps w) {x:AV} {v:Value} (hx:AVRel w (ownOf out μ) μ x v) (dst:Option Tmp) :
  StRel P base out (st.put dst x) μ (putT tmps dst v) w:=by
 cases dst with
 | none=>exact h
 | some d =>
  refine⟨by simp [putT,St.put,h.size],?_,h.mem,h.hid,h.out,h.le⟩
  simp only [St.put,putT]
  exact z1034 h.tmp hx
theorem MemRel.arr {m:List (Option Blk)} (h:MemRel base out w μ m) {n:Nat} {e z:Nat} {rows:List (List DV)} (hn:m[n]?=some (some (.arr e z rows))) :
  (μ n=some .none0∧rows=[])∨∃ b cap cs,μ n=some (.at b z rows.length cap)∧w.heap[b]?=some (.cells cs e (0,0)) ∧
   rows.length≤cap∧cap≤maxLen∧cs.size=cap * z∧(∀ r ∈ rows,r.length=z) ∧
   ∀ (i:Nat) r (j:Nat) d,rows[i]?=some r→r[j]?=some d→∃ v,cs[i * z + j]?=some v∧v.oneCell'=true∧DRel w (ownOf out μ) d v:=h.blk n _ hn
theorem MemRel.arrA {m:List (Option Blk)} (h:MemRel base out w μ m) {n:Nat} {e z:Nat} {rows:List (List AV)} (hn:m[n]?=some (some (.arrA e z rows))) :
  (μ n=some .none0∧rows=[])∨∃ b cap cs,μ n=some (.at b z rows.length cap)∧w.heap[b]?=some (.cells cs e (0,0)) ∧
   rows.length≤cap∧cap≤maxLen∧cs.size=cap * z∧(∀ r ∈ rows,r.length=z) ∧
   ∀ (i:Nat) r (j:Nat) x,rows[i]?=some r→r[j]?=some x→∃ v,cs[i * z + j]?=some v∧v.oneCell'=true∧AVRel w (ownOf out μ) μ x v:=h.blk n _ hn
theorem MemRel.arrP {m:List (Option Blk)} (h:MemRel base out w μ m) {n:Nat} {e z:Nat} {rows:List (List DV)} (hn:m[n]?=some (some (.arrP e z rows))) :
  ∃ b cap cs,μ n=some (.at b z cap cap)∧w.heap[b]?=some (.cells cs e (0,0)) ∧
   rows.length≤cap∧cap≤maxLen∧cs.size=cap * z∧(∀ r ∈ rows,r.length=z) ∧
   ∀ (i:Nat) r (j:Nat) d,rows[i]?=some r→r[j]?=some d→∃ v,cs[i * z + j]?=some v∧v.oneCell'=true∧DRel w (ownOf out μ) d v:=h.blk n _ hn
theorem MemRel.box {m:List (Option Blk)} (h:MemRel base out w μ m) {n:Nat} {row:List AV} (hn:m[n]?=some (some (.box row))) :
  ∃ b cs ty,μ n=some (.at b 0 1 1)∧w.heap[b]?=some (.cells cs ty (0,0))∧row.length≤cs.size ∧
   ∀ (j:Nat) x v,row[j]?=some x→cs[j]?=some v→v.oneCell'=true∧AVRel w (ownOf out μ) μ x v:=h.blk n _ hn
theorem z17 {w:World} {b:Nat} {cs:Array Value} {ty:TypeId} {fr:Nat × Nat} (h:w.heap[b]?=some (.cells cs ty fr)) (o:Nat):w.cell? ⟨b,o,none⟩=cs[o]?:=by
 simp [World.cell?,h]
theorem z232 {own':Own} {e z:Nat} {rows:List (List DV)} {b:Nat} {cs:Array Value} (hb:¬ own' b) (hsub:∀ b,own' b→ownOf out μ b)
  (hh:w.heap[b]?=some (.cells cs e (0,0)))
  (hd:∀ (i:Nat) r (j:Nat) d,rows[i]?=some r→r[j]?=some d→∃ v,cs[i * z + j]?=some v∧v.oneCell'=true∧DRel w (ownOf out μ) d v) :
  ∀ (i:Nat) r (j:Nat) d,rows[i]?=some r→r[j]?=some d→(¬ own' b∧w.cell? ⟨b,i * z + j,none⟩=some (cs.getD (i * z + j) Go.undef)∧(cs.getD (i * z + j) Go.undef).oneCell'=true) ∧
   DRel w own' d (cs.getD (i * z + j) Go.undef):=by
 intro i r j d h1 h2
 obtain⟨v,hv,ho,hr⟩:=hd i r j d h1 h2
 have hg:cs.getD (i * z + j) Go.undef=v:=by simp [Array.getD_eq_getD_getElem?,hv]
 rw [hg,z17 hh,hv]
 exact⟨⟨hb,rfl,ho⟩,hr.goes (fun b o v h1 h2=>⟨fun hc=>h1 (hsub b hc),h2⟩)⟩
end
end Go.Ab
/- A value of the frame read as a deep one. -/
namespace Go.Ab
open Go.RowKit
theorem z15 {α:Type}:∀ {l:List (Option α)} {ds:List α},allSome l=some ds→l.length=ds.length∧∀ (i:Nat) d,ds[i]?=some d→l[i]?=some (some d)
 | [],ds,h=>by simp [allSome] at h;subst h;simp
 | none::l,ds,h=>by simp [allSome] at h
 | some a::l,ds,h=>by
  simp only [allSome,Option.map_eq_some_iff] at h
  obtain⟨ds',h,rfl⟩:=h
  obtain⟨h1,h2⟩:=z15 h
  refine⟨by simp [h1],fun i d hi=>?_⟩
  cases i with
  | zero=>simpa using hi
  | succ i=>simpa using h2 i d (by simpa using hi)
section
variable {P:Program} {base:Own} {out:Own} {μ:Pl} {w:World} {m:List (Option Blk)}
theorem z908 {own':Own} (hsub:∀ b,own' b→ownOf out μ b):Goes w (ownOf out μ) w own':=fun b _ _ h1 h2=>⟨fun hc=>h1 (hsub b hc),h2⟩
theorem z252 (hM:MemRel base out w μ m) (own':Own) (hsub:∀ b,own' b→ownOf out μ b) (V:Nat→Prop) (hV:∀ n b z l c,V n→μ n=some (.at b z l c)→¬ own' b)
  {x:AV} {v:Value} {d:DV} (h:AVRel w (ownOf out μ) μ x v) (hr:leaf m x=some d) (hx:∀ n ∈ x.refs,V n):DRel w own' d v:=by
 unfold leaf at hr
 split at hr
 ·cases hr;exact h.d_inv.goes (z908 hsub)
 ·cases hr;cases h;exact .slNil
 ·rename_i n
  split at hr
  ·rename_i e z rows hn
   cases hr
   rcases hM.arr hn with ⟨h0,rfl⟩ | ⟨b,cap,cs,hμ,hh,hle,_,hsz,hz,hd⟩
   ·cases h with
    | ownNil h=>exact .slNil
    | own h=>rw [h0] at h;cases h
   ·cases h with
    | ownNil h=>rw [hμ] at h;cases h
    | own h =>
     rw [hμ] at h;cases h
     have hb:=hV n _ _ _ _ (hx n (by simp [AV.refs])) hμ
     have hA:=z232 (own':=own') hb hsub hh hd
     exact .sl rows b 0 z cap (fun i j=>cs.getD (i * z + j) Go.undef) hle hz (fun i r j d h1 h2=>by simpa using (hA i r j d h1 h2).1) (fun i r j d h1 h2=>(hA i r j d h1 h2).2)
  ·cases hr
 ·rename_i n off len
  split at hr
  ·rename_i e z rows hn
   split at hr
   ·rename_i hol
    cases hr
    cases h with
    | view _ _ _ cap a hs hle hnil hpos =>
    by_cases hl:len=0
    ·subst hl
     simp only [List.take_zero]
     cases a with
     | none=>have:=hnil rfl;subst this;exact .slNil
     | some a=>exact .slEmpty a cap
    ·obtain⟨b,z',l,c,hμ,rfl,h1,h2⟩:=hpos (by omega)
     rcases hM.arr hn with ⟨h0,rfl⟩ | ⟨b',cap',cs,hμ',hh,hle',_,hsz,hz,hd⟩
     ·rw [hμ] at h0;cases h0
     rw [hμ] at hμ';cases hμ'
     have hb:=hV n _ _ _ _ (hx n (by simp [AV.refs])) hμ
     have hA:=z232 (own':=own') hb hsub hh hd
     have hlen:((rows.drop off).take len).length=len:=by simp;omega
     have hget:∀ i r,((rows.drop off).take len)[i]?=some r→rows[off + i]?=some r:=by
      intro i r hi
      rw [List.getElem?_take] at hi
      split at hi
      ·simpa [List.getElem?_drop] using hi
      ·cases hi
     have key:=DRel.sl (w:=w) (own:=own') ((rows.drop off).take len) b (off * z) z cap (fun i j=>cs.getD ((off + i) * z + j) Go.undef) (by rw [hlen];exact hle)
      (fun r hr=>hz r (List.mem_of_mem_drop (List.mem_of_mem_take hr)))
      (fun i r j d h1 h2=>by
       have:=(hA (off + i) r j d (hget i r h1) h2).1
       rw [Nat.add_mul] at this
       simpa [Nat.add_mul] using this)
      (fun i r j d h1 h2=>(hA (off + i) r j d (hget i r h1) h2).2)
     rw [hlen] at key
     exact key
   ·cases hr
  ·cases hr
 ·rename_i n i off
  split at hr
  ·rename_i e z rows hn
   simp only [Option.map_eq_some_iff] at hr
   obtain⟨r,hi,rfl⟩:=hr
   cases h with
   | elem _ _ hμ =>
   rcases hM.arr hn with ⟨h0,rfl⟩ | ⟨b',cap',cs,hμ',hh,hle',_,hsz,hz,hd⟩
   ·simp at hi
   rw [hμ] at hμ';cases hμ'
   have hb:=hV n _ _ _ _ (hx n (by simp [AV.refs])) hμ
   have hA:=z232 (own':=own') hb hsub hh hd
   exact .ptr r off _ (i * z) (fun j=>cs.getD (i * z + j) Go.undef) (fun j d h=>(hA i r j d hi h).1) (fun j d h=>(hA i r j d hi h).2)
  ·cases hr
 ·rename_i n
  split at hr
  ·rename_i kk es c hn
   cases hr
   cases h with
   | mp hμ =>
   have hbr:=hM.blk n _ hn
   obtain⟨b,mes,hμ',hh,hsz,hd⟩:=hbr
   rw [hμ] at hμ';cases hμ'
   have hb:=hV n _ _ _ _ (hx n (by simp [AV.refs])) hμ
   exact .mp kk (es.map fun e=>(e.1,e.2.2)) (es.map fun e=>e.2.1) c _ mes hb hh (by simp [hsz]) (by simp [hsz]) (fun i k m h1 h2=>by
    simp only [List.getElem?_map,Option.map_eq_some_iff] at h1
    obtain⟨e,h1,rfl⟩:=h1
    exact⟨(hd i e m h1 h2).1,(hd i e m h1 h2).2.1⟩) (fun i d m h1 h2=>by
    simp only [List.getElem?_map,Option.map_eq_some_iff] at h1
    obtain⟨e,h1,rfl⟩:=h1
    exact (hd i e m h1 h2).2.2.goes (z908 hsub))
  ·cases hr
 ·rename_i n len
  split at hr
  ·rename_i e z rows hn
   split at hr
   ·rename_i hlen
    cases hr
    obtain⟨b,cap,cs,hμ,hh,hle,_,hsz,hz,hd⟩:=hM.arrP hn
    cases h with
    | vh _ h1 h2 =>
     rw [hμ] at h1;cases h1
     have hb:=hV n _ _ _ _ (hx n (by simp [AV.refs])) hμ
     have hA:=z232 (own':=own') hb hsub hh hd
     rw [← hlen]
     exact .sl rows b 0 z cap (fun i j=>cs.getD (i * z + j) Go.undef) hle hz (fun i r j d h1 h2=>by simpa using (hA i r j d h1 h2).1) (fun i r j d h1 h2=>(hA i r j d h1 h2).2)
   ·cases hr
  ·cases hr
 ·cases hr
theorem z39 (hM:MemRel base out w μ m) (own':Own) (hsub:∀ b,own' b→ownOf out μ b) (V:Nat→Prop) (hV:∀ n b z l c,V n→μ n=some (.at b z l c)→¬ own' b) :
  ∀ (f:Nat) (x:AV) (v:Value) (d:DV),AVRel w (ownOf out μ) μ x v→reify m f x=some d→(∀ n ∈ x.refs,V n) →
   ((∀ n row,V n→m[n]?=some (some (.box row))→∀ k ∈ AV.refs.AV.refss row,V k)∨(∀ n ∈ x.refs,∃ e z rows,m[n]?=some (some (.arr e z rows))))→DRel w own' d v:=by
 intro f
 induction f with
 | zero=>intro x v d h hr hx _;exact z252 hM own' hsub V hV h (by simpa [reify] using hr) hx
 | succ f ih =>
  intro x v d h hr hx hor
  have many:∀ (cs:List AV) (vs:Array Value) (ds:List DV),cs.length≤vs.size→(∀ (i:Nat) x v,cs[i]?=some x→vs[i]?=some v→AVRel w (ownOf out μ) μ x v) →
    allSome (cs.map (reify m f))=some ds→(∀ n ∈ AV.refs.AV.refss cs,V n)→((∀ n row,V n→m[n]?=some (some (.box row))→∀ k ∈ AV.refs.AV.refss row,V k)∨(∀ n ∈ AV.refs.AV.refss cs,∃ e z rows,m[n]?=some (some (.arr e z rows)))) →
    ds.length=cs.length∧∀ (i:Nat) d v,ds[i]?=some d→vs[i]?=some v→DRel w own' d v:=by
   intro cs vs ds hl hd hs hV' hor'
   obtain⟨h1,h2⟩:=z15 hs
   refine⟨by rw [← h1];simp,fun i d v hi hv=>?_⟩
   have h3:=h2 i d hi
   simp only [List.getElem?_map,Option.map_eq_some_iff] at h3
   obtain⟨x,hxi,hrx⟩:=h3
   exact ih x v d (hd i x v hxi hv) hrx (fun n hn=>hV' n (AV.refss_get hxi hn)) (hor'.imp id fun h n hn=>h n (AV.refss_get hxi hn))
  unfold reify at hr
  split at hr
  ·rename_i heq;cases heq
  ·-- box
   rename_i n off heq
   cases heq
   split at hr
   ·rename_i row hn
    simp only [Option.map_eq_some_iff] at hr
    obtain⟨ds,hs,rfl⟩:=hr
    cases h with
    | box _ hμ =>
    obtain⟨b,cs,ty,hμ',hh,hsz,hd⟩:=hM.box hn
    rw [hμ] at hμ';cases hμ'
    have hVn:V n:=hx n (by simp [AV.refs])
    have hall:∀ n row,V n→m[n]?=some (some (.box row))→∀ k ∈ AV.refs.AV.refss row,V k:=by
     rcases hor with h | h
     ·exact h
     ·obtain⟨e,z,rows,h⟩:=h n (by simp [AV.refs]);rw [hn] at h;cases h
    obtain⟨h1,h2⟩:=many row cs ds hsz (fun i x v a b=>(hd i x v a b).2) hs (hall n row hVn hn) (.inl hall)
    have hb:=hV n _ _ _ _ hVn hμ
    have key:=DRel.ptr (w:=w) (own:=own') ds off _ 0 (fun j=>cs.getD j Go.undef)
     (fun j d hj=>by
      have hlt':j<row.length:=by rw [← h1];exact (List.getElem?_eq_some_iff.1 hj).1
      have hlt:j<cs.size:=Nat.lt_of_lt_of_le hlt' hsz
      have hg:cs[j]?=some (cs.getD j Go.undef):=by simp [hlt]
      refine⟨hb,by rw [z17 hh];simpa using hg,(hd j row[j] _ (by simp [hlt']) hg).1⟩)
     (fun j d hj=>by
      have hlt:j<cs.size:=Nat.lt_of_lt_of_le (by rw [← h1];exact (List.getElem?_eq_some_iff.1 hj).1) hsz
      exact h2 j d _ hj (by simp [hlt]))
    simpa using key
   ·cases hr
  ·rename_i cs heq
   cases heq
   simp only [Option.map_eq_some_iff] at hr
   obtain⟨ds,hs,rfl⟩:=hr
   cases h with
   | agg _ vs hl hd =>
   obtain⟨h1,h2⟩:=many cs vs ds (Nat.le_of_eq hl) hd hs (by simpa [AV.refs] using hx) (by simpa [AV.refs] using hor)
   exact .agg ds vs (h1.trans hl) h2
  ·rename_i cs heq
   cases heq
   simp only [Option.map_eq_some_iff] at hr
   obtain⟨ds,hs,rfl⟩:=hr
   cases h with
   | tup _ vs hl hd =>
   obtain⟨h1,h2⟩:=many cs vs ds (Nat.le_of_eq hl) hd hs (by simpa [AV.refs] using hx) (by simpa [AV.refs] using hor)
   exact .tup ds vs (h1.trans hl) h2
  ·rename_i g cs heq
   cases heq
   simp only [Option.map_eq_some_iff] at hr
   obtain⟨ds,hs,rfl⟩:=hr
   cases h with
   | fn _ _ vs hl hd =>
   obtain⟨h1,h2⟩:=many cs vs ds (Nat.le_of_eq hl) hd hs (by simpa [AV.refs] using hx) (by simpa [AV.refs] using hor)
   exact .fn g ds vs (h1.trans hl) h2
  ·exact z252 hM own' hsub V hV h hr hx
end
end Go.Ab
/- The memory of the call's own,as it changes: a new block,a block written,a name given up,a name that moves. -/
namespace Go.Ab
open Go.RowKit
section
variable {P:Program} {base:Own} {out:Own} {st:St} {μ:Pl} {tmps:Array Value} {w w':World}
theorem z83 (own:Own) (hB:Below w.heap.size w w'):Goes w own w' own:=fun b o v h1 h2=>⟨h1,h2.heap (hB.block b h2.lt)⟩
theorem z31 (hM:MemRel base out w μ st.m) {n b z l c:Nat} (h:μ n=some (.at b z l c)):b<w.heap.size:=(hM.base n b z l c h).2.1
theorem BlkRel.goes {own own':Own} {μ':Pl} {n:Nat} {b:Blk} (hg:Goes w own w' own') (hμn:μ' n=μ n) (hμ:∀ k,(μ k).isSome→μ' k=μ k)
  (hh:∀ b z l c,μ n=some (.at b z l c)→w'.heap[b]?=w.heap[b]?) (h:BlkRel w own μ n b):BlkRel w' own' μ' n b:=by
 cases b with
 | box row =>
  obtain⟨b,cs,ty,h1,h2,h3,h4⟩:=h
  exact⟨b,cs,ty,by rw [hμn];exact h1,by rw [hh b _ _ _ h1];exact h2,h3,fun j x v hx hv=>⟨(h4 j x v hx hv).1,(h4 j x v hx hv).2.goes hg (fun n _ hs=>hμ n hs)⟩⟩
 | arr e z rows =>
  rcases h with ⟨h1,h2⟩ | ⟨b,cap,cs,h1,h2,h3,h4,h5,h6,h7⟩
  ·exact .inl ⟨by rw [hμn];exact h1,h2⟩
  ·refine .inr ⟨b,cap,cs,by rw [hμn];exact h1,by rw [hh b _ _ _ h1];exact h2,h3,h4,h5,h6,fun i r j d a b=>?_⟩
   obtain⟨v,p,q,r⟩:=h7 i r j d a b
   exact⟨v,p,q,r.goes hg⟩
 | arrP e z rows =>
  obtain⟨b,cap,cs,h1,h2,h3,h4,h5,h6,h7⟩:=h
  refine⟨b,cap,cs,by rw [hμn];exact h1,by rw [hh b _ _ _ h1];exact h2,h3,h4,h5,h6,fun i r j d a b=>?_⟩
  obtain⟨v,p,q,r⟩:=h7 i r j d a b
  exact⟨v,p,q,r.goes hg⟩
 | arrA e z rows =>
  rcases h with ⟨h1,h2⟩ | ⟨b,cap,cs,h1,h2,h3,h4,h5,h6,h7⟩
  ·exact .inl ⟨by rw [hμn];exact h1,h2⟩
  ·refine .inr ⟨b,cap,cs,by rw [hμn];exact h1,by rw [hh b _ _ _ h1];exact h2,h3,h4,h5,h6,fun i r j d a b=>?_⟩
   obtain⟨v,p,q,r⟩:=h7 i r j d a b
   exact⟨v,p,q,r.goes hg (fun n _ hs=>hμ n hs)⟩
 | mp kk es clock =>
  obtain⟨b,mes,h1,h2,h3,h4⟩:=h
  exact⟨b,mes,by rw [hμn];exact h1,by rw [hh b _ _ _ h1];exact h2,h3,fun i e m hi hm=>⟨(h4 i e m hi hm).1,(h4 i e m hi hm).2.1,(h4 i e m hi hm).2.2.goes hg⟩⟩
theorem StRel.below (h:StRel P base out st μ tmps w) (hB:Below w.heap.size w w'):StRel P base out st μ tmps w':=by
 have hg:=z83 (ownOf out μ) hB
 refine⟨h.size,fun i x v h1 h2=>(h.tmp i x v h1 h2).goes hg (fun _ _ _=>rfl),⟨fun n b hn=>(h.mem.blk n b hn).goes hg rfl (fun _ _=>rfl) (fun b z l c hb=>hB.block b (z31 h.mem hb)),h.mem.dom,h.mem.inj,fun n b z l c hb=>?_⟩,h.hid.goes hg,h.out,fun b hb=>Nat.lt_of_lt_of_le (h.le b hb) hB.size⟩
 have:=h.mem.base n b z l c hb
 exact⟨this.1,Nat.lt_of_lt_of_le this.2.1 hB.size,this.2.2⟩
def Pl.upd (μ:Pl) (n:Nat) (l:Option Loc):Pl:=fun k=>if k=n then l else μ k
theorem Pl.upd_same (μ:Pl) (n:Nat) (l:Option Loc):μ.upd n l n=l:=by simp [Pl.upd]
theorem Pl.upd_ne (μ:Pl) {n k:Nat} (l:Option Loc) (h:k≠n):μ.upd n l k=μ k:=by simp [Pl.upd,h]
theorem z113 (hM:MemRel base out w μ st.m) {d:Nat} (hd:st.m[d]?=some none):μ d=none:=by
 cases h:μ d with
 | none=>rfl
 | some l=>obtain⟨b,hb⟩:=hM.dom d (by simp [h]);rw [hd] at hb;cases hb
theorem z19 {d:Nat} (h:st.fresh d=true):st.m[d]?=some none:=by
 unfold St.fresh at h
 split at h
 ·assumption
 ·cases h
theorem StRel.add (h:StRel P base out st μ tmps w) (hB:Below w.heap.size w w') {d:Nat} (hd:st.m[d]?=some none) (L:Loc)
  (hL:∀ b z l c,L=.at b z l c→w.heap.size≤b∧b<w'.heap.size) {blk:Blk} {x:AV} {v:Value}
  (hblk:BlkRel w' (ownOf out (μ.upd d (some L))) (μ.upd d (some L)) d blk)
  (hx:AVRel w' (ownOf out (μ.upd d (some L))) (μ.upd d (some L)) x v) :
  StRel P base out (st.addBlk d x blk) (μ.upd d (some L)) (tmps.setIfInBounds d v) w':=by
 have hnp:=z113 h.mem hd
 have hμ:∀ k,(μ k).isSome→μ.upd d (some L) k=μ k:=fun k hk=>Pl.upd_ne μ _ (fun e=>by subst e;rw [hnp] at hk;cases hk)
 have hown:∀ b,ownOf out (μ.upd d (some L)) b→ownOf out μ b∨w.heap.size≤b:=by
  rintro b (hb | ⟨n,z,l,c,hb⟩)
  ·exact .inl (.inl hb)
  ·by_cases hn:n=d
   ·subst hn
    rw [Pl.upd_same] at hb
    cases hb
    exact .inr (hL b z l c rfl).1
   ·rw [Pl.upd_ne μ _ hn] at hb
    exact .inl (.inr ⟨n,z,l,c,hb⟩)
 have hg:Goes w (ownOf out μ) w' (ownOf out (μ.upd d (some L))):=fun b o v h1 h2=>by
  have hlt:=h2.lt
  refine⟨fun hc=>?_,(z83 _ hB b o v h1 h2).2⟩
  rcases hown b hc with h3 | h3
  ·exact h1 h3
  ·omega
 refine⟨by simp [St.addBlk,h.size],?_,⟨fun n b hn=>?_,fun n hn=>?_,fun n k b z l c z' l' c' h1 h2=>?_,fun n b z l c hb=>?_⟩,h.hid.goes hg,h.out,fun b hb=>Nat.lt_of_lt_of_le (h.le b hb) hB.size⟩
 ·refine z1034 (fun i x v h1 h2=>(h.tmp i x v h1 h2).goes hg (fun n _ hs=>hμ n hs)) hx
 ·simp only [St.addBlk] at hn
  rw [List.getElem?_set] at hn
  by_cases hdn:d=n
  ·subst hdn
   simp only [if_true] at hn
   split at hn
   ·cases hn;exact hblk
   ·cases hn
  ·simp only [hdn,if_false] at hn
   exact (h.mem.blk n b hn).goes hg (Pl.upd_ne μ _ (Ne.symm hdn)) hμ (fun b z l c hb=>hB.block b (z31 h.mem hb))
 ·simp only [St.addBlk]
  rw [List.getElem?_set]
  by_cases hdn:d=n
  ·subst hdn
   have:d<st.m.length:=(List.getElem?_eq_some_iff.1 hd).1
   simp [this]
  ·simp only [hdn,if_false]
   rw [Pl.upd_ne μ _ (Ne.symm hdn)] at hn
   exact h.mem.dom n hn
 ·by_cases hn:n=d
  ·by_cases hk:k=d
   ·rw [hn,hk]
   ·subst hn
    rw [Pl.upd_same] at h1
    rw [Pl.upd_ne μ _ hk] at h2
    cases h1
    have:=(hL b z l c rfl).1
    have:=z31 h.mem h2
    omega
  ·by_cases hk:k=d
   ·subst hk
    rw [Pl.upd_same] at h2
    rw [Pl.upd_ne μ _ hn] at h1
    cases h2
    have:=(hL b z' l' c' rfl).1
    have:=z31 h.mem h1
    omega
   ·rw [Pl.upd_ne μ _ hn] at h1
    rw [Pl.upd_ne μ _ hk] at h2
    exact h.mem.inj n k b z l c z' l' c' h1 h2
 ·by_cases hn:n=d
  ·subst hn
   rw [Pl.upd_same] at hb
   cases hb
   have:=hL b z l c rfl
   exact⟨fun hc=>by have:=h.le b hc;omega,this.2,fun hc=>by have:=h.le b (h.out b hc);omega⟩
  ·rw [Pl.upd_ne μ _ hn] at hb
   have:=h.mem.base n b z l c hb
   exact⟨this.1,Nat.lt_of_lt_of_le this.2.1 hB.size,this.2.2⟩
structure Keep (base:Own) (w w':World):Prop where
 below:BelowU base w w'
 others:∀ (k:Nat) (o:Obj),w.heap[k]?=some o→(∀ cs ty x,o≠.cells cs ty x)→(∀ es c,o≠.map es c)→w'.heap[k]?=some o
theorem Keep.refl (base:Own) (w:World):Keep base w w:=⟨.refl _ _,fun _ _ h _ _=>h⟩
theorem Keep.trans {a b c:World} (h:Keep base a b) (k:Keep base b c):Keep base a c:=⟨h.below.trans k.below,fun i o hi ho hm=>k.others i o (h.others i o hi ho hm) ho hm⟩
theorem Keep.mono {B B':Own} (h:Keep B w w') (hB:∀ b,B' b→B b):Keep B' w w':=⟨h.below.mono hB,h.others⟩
theorem z54 (h:Below w.heap.size w w') (hB:∀ b,base b→b<w.heap.size):Keep base w w' :=
 ⟨.of h hB,fun k o hk _ _=>by rw [h.block k (Array.getElem?_eq_some_iff.1 hk).1];exact hk⟩
structure KeepO (base:Own) (own:Own) (w:World) (own':Own) (w':World):Prop where
 keep:Keep base w w'
 stays:∀ b,b<w.heap.size→¬ own b→w'.heap[b]?=w.heap[b]?∧¬ own' b
theorem KeepO.refl (base:Own) (own:Own) (w:World):KeepO base own w own w:=⟨.refl _ _,fun _ _ h=>⟨rfl,h⟩⟩
theorem KeepO.trans {own own1 own2:Own} {a b c:World} (h:KeepO base own a own1 b) (k:KeepO base own1 b own2 c):KeepO base own a own2 c :=
 ⟨h.keep.trans k.keep,fun i hi ho=>let ⟨h1,h2⟩:=h.stays i hi ho;let ⟨h3,h4⟩:=k.stays i (Nat.lt_of_lt_of_le hi h.keep.below.size) h2;⟨h3.trans h1,h4⟩⟩
theorem KeepO.less {own own':Own} (h:∀ b,own' b→own b):KeepO base own w own' w:=⟨.refl _ _,fun _ _ ho=>⟨rfl,fun hc=>ho (h _ hc)⟩⟩
theorem KeepO.below {own:Own} (h:Below w.heap.size w w') (hB:∀ b,base b→b<w.heap.size):KeepO base own w own w':=⟨z54 h hB,fun b hb ho=>⟨h.block b hb,ho⟩⟩
theorem KeepO.goes {own own':Own} (h:KeepO base own w own' w'):Goes w own w' own':=fun b o v h1 h2=>by
 obtain⟨h3,h4⟩:=h.stays b h2.lt h1
 exact⟨h4,h2.heap h3⟩
theorem StRel.keep_add (h:StRel P base out st μ tmps w) (hB:Below w.heap.size w w') {d:Nat} (hd:st.m[d]?=some none) (L:Loc)
  (hL:∀ b z l c,L=.at b z l c→w.heap.size≤b∧b<w'.heap.size):KeepO base (ownOf out μ) w (ownOf out (μ.upd d (some L))) w' :=
 ⟨z54 hB h.le,fun b hb ho=>⟨hB.block b hb,fun hc=>by
  rcases hc with hc | ⟨n,z,l,c,hc⟩
  ·exact ho (.inl hc)
  ·by_cases hn:n=d
   ·subst hn;rw [Pl.upd_same] at hc;cases hc;have:=(hL _ _ _ _ rfl).1;omega
   ·rw [Pl.upd_ne μ _ hn] at hc;exact ho (.inr ⟨n,z,l,c,hc⟩)⟩⟩
structure Wrote (b:Nat) (w w':World):Prop where
 os:w'.os=w.os
 tape:w'.tape=w.tape
 output:w'.output=w.output
 size:w'.heap.size=w.heap.size
 block:∀ k,k≠b→w'.heap[k]?=w.heap[k]?
theorem Wrote.below {b:Nat} (h:Wrote b w w') (hb:¬ base b):BelowU base w w':=⟨h.os,h.tape,h.output,Nat.le_of_eq h.size.symm,fun k hk=>h.block k (fun e=>hb (e ▸ hk))⟩
theorem Wrote.keep {b:Nat} {cs:Array Value} {ty:TypeId} {x:Nat × Nat} (h:Wrote b w w') (hh:w.heap[b]?=some (.cells cs ty x)) (hb:¬ base b):Keep base w w' :=
 ⟨h.below hb,fun k o hk ho _=>by
  have:k≠b:=fun e=>by subst e;rw [hh] at hk;cases hk;exact ho _ _ _ rfl
  rw [h.block k this];exact hk⟩
theorem Wrote.keepM {b:Nat} {es:Array MapEntry} {c:Nat} (h:Wrote b w w') (hh:w.heap[b]?=some (.map es c)) (hb:¬ base b):Keep base w w' :=
 ⟨h.below hb,fun k o hk _ hm=>by
  have:k≠b:=fun e=>by subst e;rw [hh] at hk;cases hk;exact hm _ _ rfl
  rw [h.block k this];exact hk⟩
theorem Wrote.keepOM {b:Nat} {es:Array MapEntry} {c:Nat} {own:Own} (h:Wrote b w w') (hh:w.heap[b]?=some (.map es c)) (hb:¬ base b) (ho:own b):KeepO base own w own w' :=
 ⟨h.keepM hh hb,fun k _ hk=>⟨h.block k (fun e=>hk (e ▸ ho)),hk⟩⟩
theorem Wrote.keepO {b:Nat} {cs:Array Value} {ty:TypeId} {x:Nat × Nat} {own:Own} (h:Wrote b w w') (hh:w.heap[b]?=some (.cells cs ty x)) (hb:¬ base b) (ho:own b):KeepO base own w own w' :=
 ⟨h.keep hh hb,fun k _ hk=>⟨h.block k (fun e=>hk (e ▸ ho)),hk⟩⟩
theorem Wrote.goes {b:Nat} (h:Wrote b w w') {own:Own} (hb:own b):Goes w own w' own:=fun k o v h1 h2=>by
 refine⟨h1,?_⟩
 have hk:k≠b:=fun e=>h1 (e ▸ hb)
 exact h2.heap (h.block k hk)
theorem StRel.write (h:StRel P base out st μ tmps w) {n b z l c:Nat} (hn:μ n=some (.at b z l c)) (hw:Wrote b w w') {blk:Blk} (hblk:BlkRel w' (ownOf out μ) μ n blk) :
  StRel P base out { st with m:=st.m.set n (some blk) } μ tmps w':=by
 have hg:Goes w (ownOf out μ) w' (ownOf out μ):=hw.goes (.inr ⟨n,z,l,c,hn⟩)
 refine⟨h.size,fun i x v h1 h2=>(h.tmp i x v h1 h2).goes hg (fun _ _ _=>rfl),⟨fun k b' hk=>?_,fun k hk=>?_,h.mem.inj,fun k b' z' l' c' hb=>?_⟩,h.hid.goes hg,h.out,fun b hb=>by rw [hw.size];exact h.le b hb⟩
 ·rw [List.getElem?_set] at hk
  by_cases hkn:n=k
  ·subst hkn
   simp only [if_true] at hk
   split at hk
   ·cases hk;exact hblk
   ·cases hk
  ·simp only [hkn,if_false] at hk
   refine (h.mem.blk k b' hk).goes hg rfl (fun _ _=>rfl) (fun b1 z1 l1 c1 hb1=>hw.block b1 fun e=>?_)
   subst e
   exact hkn (h.mem.inj n k _ _ _ _ _ _ _ hn hb1)
 ·rw [List.getElem?_set]
  by_cases hkn:n=k
  ·subst hkn
   obtain⟨b',hb'⟩:=h.mem.dom n hk
   have:n<st.m.length:=(List.getElem?_eq_some_iff.1 hb').1
   simp [this]
  ·simp only [hkn,if_false]
   exact h.mem.dom k hk
 ·rw [hw.size];exact h.mem.base k b' z' l' c' hb
def AV.name?:AV→Option Nat
 | .box n _ | .elem n _ _ | .own n | .view n _ _ | .bsl n _ _ | .mp n | .vh n _ | .vc n _=>some n
 | _=>none
theorem AV.subs_eq (n:Nat) (h:AV→AV) (l:List AV):AV.sub.AV.subs n h l=l.map (AV.sub n h):=by
 induction l with
 | nil=>rfl
 | cons x xs ih=>simp [AV.sub.AV.subs,ih]
theorem AVRel.sub {own own':Own} {μ':Pl} {n:Nat} {f:AV→AV} (hg:Goes w own w' own') (hμ:∀ k,k≠n→(μ k).isSome→μ' k=μ k)
  (hleaf:∀ y u,y.name?=some n→AVRel w own μ y u→AVRel w' own' μ' (f y) u) {x:AV} {v:Value} (h:AVRel w own μ x v):AVRel w' own' μ' (x.sub n f) v:=by
 induction h with
 | undef v=>exact .undef v
 | void=>exact .void
 | d h=>exact .d (h.goes hg)
 | nil=>exact .nil
 | @box k b z l c off h =>
  simp only [AV.sub]
  split
  ·rename_i hk;subst hk;exact hleaf _ _ rfl (.box off h)
  ·rename_i hk;exact .box off (by rw [hμ k hk (by simp [h])];exact h)
 | @elem k b z l c i off h =>
  simp only [AV.sub]
  split
  ·rename_i hk;subst hk;exact hleaf _ _ rfl (.elem i off h)
  ·rename_i hk;exact .elem i off (by rw [hμ k hk (by simp [h])];exact h)
 | @ownNil k h =>
  simp only [AV.sub]
  split
  ·rename_i hk;subst hk;exact hleaf _ _ rfl (.ownNil h)
  ·rename_i hk;exact .ownNil (by rw [hμ k hk (by simp [h])];exact h)
 | @own k b z l c h =>
  simp only [AV.sub]
  split
  ·rename_i hk;subst hk;exact hleaf _ _ rfl (.own h)
  ·rename_i hk;exact .own (by rw [hμ k hk (by simp [h])];exact h)
 | view k off len cap a hs hle hn h =>
  simp only [AV.sub]
  split
  ·rename_i hk;subst hk;exact hleaf _ _ rfl (.view k off len cap a hs hle hn h)
  ·rename_i hk
   have e:=hμ k hk hs
   exact .view k off len cap a (by rw [e];exact hs) hle hn (by rw [e];exact h)
 | @bsl k b off len cap h hle =>
  simp only [AV.sub]
  split
  ·rename_i hk;subst hk;exact hleaf _ _ rfl (.bsl off len cap h hle)
  ·rename_i hk;exact .bsl off len cap (by rw [hμ k hk (by simp [h])];exact h) hle
 | @mp k b h =>
  simp only [AV.sub]
  split
  ·rename_i hk;subst hk;exact hleaf _ _ rfl (.mp h)
  ·rename_i hk;exact .mp (by rw [hμ k hk (by simp [h])];exact h)
 | @vh k b z c len h hle =>
  simp only [AV.sub]
  split
  ·rename_i hk;subst hk;exact hleaf _ _ rfl (.vh len h hle)
  ·rename_i hk;exact .vh len (by rw [hμ k hk (by simp [h])];exact h) hle
 | @vc k b z c len h hlt =>
  simp only [AV.sub]
  split
  ·rename_i hk;subst hk;exact hleaf _ _ rfl (.vc len h hlt)
  ·rename_i hk;exact .vc len (by rw [hμ k hk (by simp [h])];exact h) hlt
 | dfull h=>exact .dfull (h.goes hg)
 | agg cells vs hl hd ih =>
  simp only [AV.sub,AV.subs_eq]
  refine .agg _ vs (by simpa using hl) (fun i x v h1 h2=>?_)
  simp only [List.getElem?_map,Option.map_eq_some_iff] at h1
  obtain⟨y,h1,rfl⟩:=h1
  exact ih i y v h1 h2
 | tup cells vs hl hd ih =>
  simp only [AV.sub,AV.subs_eq]
  refine .tup _ vs (by simpa using hl) (fun i x v h1 h2=>?_)
  simp only [List.getElem?_map,Option.map_eq_some_iff] at h1
  obtain⟨y,h1,rfl⟩:=h1
  exact ih i y v h1 h2
 | fn g cells vs hl hd ih =>
  simp only [AV.sub,AV.subs_eq]
  refine .fn g _ vs (by simpa using hl) (fun i x v h1 h2=>?_)
  simp only [List.getElem?_map,Option.map_eq_some_iff] at h1
  obtain⟨y,h1,rfl⟩:=h1
  exact ih i y v h1 h2
theorem z24 (n:Nat) (h:AV→AV):∀ (m:List (Option Blk)) (k:Nat),(subMem n h m)[k]?=(m[k]?).map (Option.map (Blk.sub n h))
 | [],k=>by simp [subMem]
 | none::l,k=>by cases k <;> simp [subMem,z24 n h l]
 | some b::l,k=>by cases k <;> simp [subMem,z24 n h l]
theorem StRel.turn (h:StRel P base out st μ tmps w) {n:Nat} {f:AV→AV} {μ':Pl} {m':List (Option Blk)} (hg:Goes w (ownOf out μ) w' (ownOf out μ'))
  (hμ:∀ k,k≠n→μ' k=μ k) (hleaf:∀ y u,y.name?=some n→AVRel w (ownOf out μ) μ y u→AVRel w' (ownOf out μ') μ' (f y) u)
  (hh:∀ k b z l c,k≠n→μ k=some (.at b z l c)→w'.heap[b]?=w.heap[b]?) (hle:w.heap.size≤w'.heap.size)
  (hm:∀ k,k≠n→m'[k]?=(st.m[k]?).map (Option.map (Blk.sub n f)))
  (hn:∀ b,m'[n]?=some (some b)→BlkRel w' (ownOf out μ') μ' n b) (hdom:(μ' n).isSome→∃ b,m'[n]?=some (some b))
  (hL:∀ b z l c,μ' n=some (.at b z l c)→(¬ base b∧b<w'.heap.size∧¬ out b)∧∀ k z' l' c',k≠n→μ k≠some (.at b z' l' c')) :
  StRel P base out { t:=st.t.map (AV.sub n f),m:=m' } μ' tmps w':=by
 refine⟨by simp [h.size],fun i x v h1 h2=>?_,⟨fun k b hk=>?_,fun k hk=>?_,fun a k b z l c z' l' c' h1 h2=>?_,fun k b z l c hb=>?_⟩,h.hid.goes hg,h.out,fun b hb=>Nat.lt_of_lt_of_le (h.le b hb) hle⟩
 ·change (st.t.map (AV.sub n f))[i]?=some x at h1
  rw [List.getElem?_map,Option.map_eq_some_iff] at h1
  obtain⟨y,h1,rfl⟩:=h1
  exact (h.tmp i y v h1 h2).sub hg (fun k hk _=>hμ k hk) hleaf
 ·by_cases hkn:k=n
  ·subst hkn;exact hn b hk
  ·rw [hm k hkn] at hk
   rw [Option.map_eq_some_iff] at hk
   obtain⟨ob,hob,hb⟩:=hk
   rw [Option.map_eq_some_iff] at hb
   obtain⟨b0,rfl,rfl⟩:=hb
   have hr:=h.mem.blk k b0 hob
   cases b0 with
   | box row =>
    obtain⟨b,cs,ty,h1,h2,h3,h4⟩:=hr
    refine⟨b,cs,ty,by rw [hμ k hkn];exact h1,by rw [hh k b _ _ _ hkn h1];exact h2,by simpa using h3,fun j x v hx hv=>?_⟩
    simp only [List.getElem?_map,Option.map_eq_some_iff] at hx
    obtain⟨y,hy,rfl⟩:=hx
    exact⟨(h4 j y v hy hv).1,(h4 j y v hy hv).2.sub hg (fun k hk _=>hμ k hk) hleaf⟩
   | arr e z rows =>
    rcases hr with ⟨h1,h2⟩ | ⟨b,cap,cs,h1,h2,h3,h4,h5,h6,h7⟩
    ·exact .inl ⟨by rw [hμ k hkn];exact h1,h2⟩
    ·refine .inr ⟨b,cap,cs,by rw [hμ k hkn];exact h1,by rw [hh k b _ _ _ hkn h1];exact h2,h3,h4,h5,h6,fun i r j d a b=>?_⟩
     obtain⟨v,p,q,r⟩:=h7 i r j d a b
     exact⟨v,p,q,r.goes hg⟩
   | arrP e z rows =>
    obtain⟨b,cap,cs,h1,h2,h3,h4,h5,h6,h7⟩:=hr
    refine⟨b,cap,cs,by rw [hμ k hkn];exact h1,by rw [hh k b _ _ _ hkn h1];exact h2,h3,h4,h5,h6,fun i r j d a b=>?_⟩
    obtain⟨v,p,q,r⟩:=h7 i r j d a b
    exact⟨v,p,q,r.goes hg⟩
   | arrA e z rows =>
    rcases hr with ⟨h1,h2⟩ | ⟨b,cap,cs,h1,h2,h3,h4,h5,h6,h7⟩
    ·exact .inl ⟨by rw [hμ k hkn];exact h1,by rw [h2];rfl⟩
    ·refine .inr ⟨b,cap,cs,by rw [hμ k hkn,List.length_map];exact h1,by rw [hh k b _ _ _ hkn h1];exact h2,by rw [List.length_map];exact h3,h4,h5,fun r hr=>?_,fun i r j d a b=>?_⟩
     ·obtain⟨r0,hr0,rfl⟩:=List.mem_map.1 hr
      rw [List.length_map]
      exact h6 r0 hr0
     ·simp only [List.getElem?_map,Option.map_eq_some_iff] at a
      obtain⟨r0,hr0,rfl⟩:=a
      simp only [List.getElem?_map,Option.map_eq_some_iff] at b
      obtain⟨x0,hx0,rfl⟩:=b
      obtain⟨v,p,q,r⟩:=h7 i r0 j x0 hr0 hx0
      exact⟨v,p,q,r.sub hg (fun k hk _=>hμ k hk) hleaf⟩
   | mp kk es clock =>
    obtain⟨b,mes,h1,h2,h3,h4⟩:=hr
    exact⟨b,mes,by rw [hμ k hkn];exact h1,by rw [hh k b _ _ _ hkn h1];exact h2,h3,fun i e m hi hm=>⟨(h4 i e m hi hm).1,(h4 i e m hi hm).2.1,(h4 i e m hi hm).2.2.goes hg⟩⟩
 ·by_cases hkn:k=n
  ·subst hkn;exact hdom hk
  ·rw [hμ k hkn] at hk
   obtain⟨b,hb⟩:=h.mem.dom k hk
   exact⟨b.sub n f,by simp [hm k hkn,hb]⟩
 ·by_cases ha:a=n
  ·by_cases hk:k=n
   ·rw [ha,hk]
   ·subst ha
    rw [hμ k hk] at h2
    exact absurd h2 ((hL b z l c h1).2 k z' l' c' hk)
  ·by_cases hk:k=n
   ·subst hk
    rw [hμ a ha] at h1
    exact absurd h1 ((hL b z' l' c' h2).2 a z l c ha)
   ·rw [hμ a ha] at h1
    rw [hμ k hk] at h2
    exact h.mem.inj a k b z l c z' l' c' h1 h2
 ·by_cases hk:k=n
  ·subst hk;exact (hL b z l c hb).1
  ·rw [hμ k hk] at hb
   have:=h.mem.base k b z l c hb
   exact⟨this.1,Nat.lt_of_lt_of_le this.2.1 hle,this.2.2⟩
theorem StRel.release (h:StRel P base out st μ tmps w) (n:Nat):∃ μ',StRel P base out (st.release n) μ' tmps w∧(∀ k,k≠n→μ' k=μ k) ∧
  (∀ b,ownOf out μ' b→ownOf out μ b)∧((∃ b,st.m[n]?=some (some b))→μ' n=none):=by
 unfold St.release
 split
 ·rename_i b hb
  have hown:∀ k,ownOf out (μ.upd n none) k→ownOf out μ k:=by
   rintro k (hk | ⟨a,z,l,c,ha⟩)
   ·exact .inl hk
   ·by_cases han:a=n
    ·subst han;rw [Pl.upd_same] at ha;cases ha
    ·rw [Pl.upd_ne μ _ han] at ha;exact .inr ⟨a,z,l,c,ha⟩
  refine⟨μ.upd n none,?_,fun k hk=>Pl.upd_ne μ _ hk,hown,fun _=>Pl.upd_same μ _ _⟩
  have hlt:n<st.m.length:=(List.getElem?_eq_some_iff.1 hb).1
  refine h.turn (n:=n) (f:=snapLeaf b) (fun k o v h1 h2=>⟨fun hc=>h1 (hown k hc),h2⟩) (fun k hk=>Pl.upd_ne μ _ hk) ?_ (fun _ _ _ _ _ _ _=>rfl) (Nat.le_refl _)
   (fun k hk=>by rw [z24,List.getElem?_set_ne (Ne.symm hk)]) (fun b' hb'=>by rw [z24] at hb';simp [hlt] at hb') (fun hs=>by rw [Pl.upd_same] at hs;cases hs)
   (fun b z l c hc=>by rw [Pl.upd_same] at hc;cases hc)
  intro y u hy hr
  have deepen:∀ d,leaf st.m y=some d→AVRel w (ownOf out (μ.upd n none)) (μ.upd n none) (.d d) u:=fun d hd=>by
   refine .d (z252 h.mem _ hown (·=n) (fun k b z l c hk hpl hc=>?_) hr hd ?_)
   ·subst hk
    rcases hc with hc | ⟨a,z',l',c',ha⟩
    ·exact absurd hc (h.mem.base k b z l c hpl).2.2
    ·by_cases hak:a=k
     ·subst hak;rw [Pl.upd_same] at ha;cases ha
     ·rw [Pl.upd_ne μ _ hak] at ha
      exact hak (h.mem.inj a k _ _ _ _ _ _ _ ha hpl)
   ·cases y <;> simp_all [AV.name?,AV.refs]
  cases y <;> simp only [AV.name?,Option.some.injEq,reduceCtorEq] at hy <;> subst hy
  ·rename_i n off
   simp only [snapLeaf]
   cases b with
   | arr=>exact .undef _
   | mp=>exact .undef _
   | arrP=>exact .undef _
   | arrA=>exact .undef _
   | box row =>
    simp only
    split
    ·rename_i ds hds
     have hleafs:∀ (row:List AV) (ds:List DV),allSome (row.map leafD)=some ds→allSome (row.map (reify st.m 0))=some ds∧AV.refs.AV.refss row=[]:=by
      intro row
      induction row with
      | nil=>intro ds h;exact⟨h,rfl⟩
      | cons x row ih =>
       intro ds h
       cases x <;> simp only [List.map_cons,leafD,allSome,reduceCtorEq,Option.map_eq_some_iff] at h
       obtain⟨ds',h1,rfl⟩:=h
       obtain⟨p,q⟩:=ih ds' h1
       refine⟨?_,by simp [AV.refs.AV.refss,AV.refs,q]⟩
       rw [List.map_cons]
       show allSome (some _::row.map (reify st.m 0))=_
       simp only [allSome,p,Option.map_some]
     obtain⟨hl1,hl2⟩:=hleafs row ds hds
     refine .d (z39 h.mem _ hown (·=n) (fun k b z l c hk hpl hc=>?_) 1 (.box n off) u (.ptr ds off) hr (by simp only [reify,hb];exact congrArg (Option.map fun r=>DV.ptr r off) hl1) (fun k hk=>by simpa [AV.refs] using hk) (.inl fun k row' hk hrow k2 hk2=>?_))
     ·subst hk
      rcases hc with hc | ⟨a,z',l',c',ha⟩
      ·exact absurd hc (h.mem.base k b z l c hpl).2.2
      ·by_cases hak:a=k
       ·subst hak;rw [Pl.upd_same] at ha;cases ha
       ·rw [Pl.upd_ne μ _ hak] at ha
        exact hak (h.mem.inj a k _ _ _ _ _ _ _ ha hpl)
     ·subst hk
      rw [hb] at hrow
      cases hrow
      rw [hl2] at hk2
      cases hk2
    ·exact .undef _
  ·rename_i i off
   simp only [snapLeaf]
   cases b with
   | box row=>exact .undef _
   | mp=>exact .undef _
   | arrP=>exact .undef _
   | arrA=>exact .undef _
   | arr e z rows =>
    simp only
    split
    ·rename_i r hr'
     exact deepen _ (by simp [leaf,hb,hr'])
    ·exact .undef _
  ·simp only [snapLeaf]
   cases b with
   | box row=>exact .undef _
   | mp=>exact .undef _
   | arrP=>exact .undef _
   | arrA=>exact .undef _
   | arr e z rows=>exact deepen _ (by simp [leaf,hb])
  ·rename_i off len
   simp only [snapLeaf]
   cases b with
   | box row=>exact .undef _
   | mp=>exact .undef _
   | arrP=>exact .undef _
   | arrA=>exact .undef _
   | arr e z rows =>
    simp only
    split
    ·rename_i hle
     exact deepen _ (by simp [leaf,hb,hle])
    ·exact .undef _
  ·exact .undef _
  ·simp only [snapLeaf]
   cases b with
   | box row=>exact .undef _
   | arr=>exact .undef _
   | arrP=>exact .undef _
   | arrA=>exact .undef _
   | mp kk es c=>exact deepen _ (by simp [leaf,hb])
  ·exact .undef _
  ·exact .undef _
 ·rename_i hne
  exact⟨μ,h,fun _ _=>rfl,fun _ hk=>hk,fun ⟨b,hb⟩=>absurd hb (hne b)⟩
end
end Go.Ab
/- Each operation that only computes or reads: what it does to the abstract state is what the model does. -/
namespace Go.Ab
open Go.RowKit
def OpOK (P:Program) (base:Own) (out:Own) (μ:Pl) (o:Oper) (st':St) (tmps:Array Value) (w:World):Prop :=
 ∃ (nx:Next) (v:Value) (w':World) (μ':Pl),(∀ ds,(execOp ({ tmps:=tmps,defers:=ds }:Act).eval o).run P w=.ok nx w')∧(nx=.value v∨nx=.skip∧v=Go.undef) ∧
  StRel P base out st' μ' (putT tmps o.dst v) w'∧KeepO base (ownOf out μ) w (ownOf out μ') w'
section
variable {P:Program} {base:Own} {out:Own} {r:AV} {st st':St} {μ:Pl} {tmps:Array Value} {w:World} {o:Oper}
theorem StRel.okv (h:StRel P base out st μ tmps w) {x:AV} {v:Value} (hx:AVRel w (ownOf out μ) μ x v)
  (hr:∀ ds,(execOp ({ tmps:=tmps,defers:=ds }:Act).eval o).run P w=.ok (.value v) w):OpOK P base out μ o (st.put o.dst x) tmps w :=
 ⟨.value v,v,w,μ,hr,.inl rfl,h.put hx o.dst,KeepO.refl _ _ _⟩
theorem z172 {t:TypeId} {g:Bool} (h:tagg P t=some g) (w:World):(isAgg t).run P w=.ok g w:=by
 unfold tagg at h
 unfold isAgg
 cases hu:P.underlying t with
 | none=>rw [hu] at h;cases h
 | some d=>rw [hu] at h;cases d <;> simp at h <;> subst h <;> simp [run_underlying hu]
theorem z26 {t:TypeId} {s:Nat} (h:tsz P t=some s) (w:World):(sizeOf t).run P w=.ok s w:=by
 unfold tsz at h
 rw [Option.map_eq_some_iff] at h
 obtain⟨i,hi,rfl⟩:=h
 simp [sizeOf,typeInfo,hi]
theorem z70 {t:TypeId} {s:Nat} (h:tbytes P t=some s):∃ i,P.info? t=some i∧i.bytes=s:=by
 unfold tbytes at h
 rw [Option.map_eq_some_iff] at h
 exact h
theorem z184 {t:TypeId} {v:Value} (h:tzero P t=some v) (w:World):(zeroValue t).run P w=.ok v w:=by
 unfold tzero at h
 split at h
 ·rename_i i hi
  simp [zeroValue,typeInfo,hi,h]
 ·cases h
theorem z12 {t e:TypeId} (h:tslice P t=some e):P.underlying t=some (.slice e):=by
 unfold tslice at h
 split at h
 ·cases h;assumption
 ·cases h
theorem z1035 {t:TypeId} {k:IntKind} (h:tint P t=some k):P.underlying t=some (.int k):=by
 unfold tint at h
 split at h
 ·cases h;assumption
 ·cases h
theorem z909 {α β:Type} (f:α→Option β):∀ (l:List α) (r:List β),l.mapM f=some r→∀ (i:Nat) b,r[i]?=some b→∃ a,l[i]?=some a∧f a=some b
 | [],r,h=>by simp at h;subst h;simp
 | a::l,r,h=>by
  simp only [List.mapM_cons,Option.bind_eq_bind,Option.pure_def,Option.bind_eq_some_iff] at h
  obtain⟨b,hb,r',hr,h⟩:=h
  cases h
  intro i b' hi
  cases i with
  | zero=>simp at hi;subst hi;exact⟨a,by simp,hb⟩
  | succ i=>simpa using z909 f l r' hr i b' (by simpa using hi)
theorem z274 {t:TypeId} {fs:List (Nat × Nat × Bool)} (h:tfields P t=some fs):∃ ds:Array Field,P.underlying t=some (.struct ds) ∧
  ∀ (i:Nat) fo s g,fs[i]?=some (fo,s,g)→∃ f,ds[i]?=some f∧f.offset=fo∧tsz P f.type=some s∧tagg P f.type=some g:=by
 unfold tfields at h
 split at h
 ·rename_i ds hd
  refine⟨ds,hd,fun i fo s g hi=>?_⟩
  obtain⟨f,hf,hm⟩:=z909 _ _ _ h i _ hi
  split at hm
  ·rename_i s' a' h1 h2
   simp only [Option.some.injEq,Prod.mk.injEq] at hm
   obtain⟨rfl,rfl,rfl⟩:=hm
   exact⟨f,by simpa using hf,rfl,h1,h2⟩
  ·cases hm
 ·cases h
section inv
variable {own:Own} {v:Value}
theorem z57 {b:Bool} (h:AVRel w own μ (.d (.bool b)) v):v=.bool b:=by have:=h.d_inv;cases this;rfl
theorem z43 {k:IntKind} {n:Int} (h:AVRel w own μ (.d (.int k n)) v):v=.int k n:=by have:=h.d_inv;cases this;rfl
theorem z256 (h:AVRel w own μ (.d .nilptr) v):v=.pointer none:=by have:=h.d_inv;cases this;rfl
theorem z72 {n off:Nat} (h:AVRel w own μ (.box n off) v):∃ b z l c,μ n=some (.at b z l c)∧v=.pointer (some ⟨b,off,none⟩):=by cases h with | box _ h=>exact⟨_,_,_,_,h,rfl⟩
theorem z152 {n i off:Nat} (h:AVRel w own μ (.elem n i off) v):∃ b z l c,μ n=some (.at b z l c)∧v=.pointer (some ⟨b,i * z + off,none⟩):=by cases h with | elem _ _ h=>exact⟨_,_,_,_,h,rfl⟩
theorem z115 (h:AVRel w own μ .nil v):v=.slice none 0 0:=by cases h;rfl
theorem z874 {n off len:Nat} (h:AVRel w own μ (.bsl n off len) v):∃ b cap,μ n=some (.at b 0 1 1)∧v=.slice (some ⟨b,off,none⟩) len cap∧len≤cap:=by
 cases h with
 | bsl off len cap h hle=>exact⟨_,cap,h,rfl,hle⟩
theorem z465 {n:Nat} (h:AVRel w own μ (.mp n) v):∃ b,μ n=some (.at b 0 2 2)∧v=.map (some b):=by
 cases h with
 | mp h=>exact⟨_,h,rfl⟩
theorem z1262 {n len:Nat} (h:AVRel w own μ (.vc n len) v):∃ b z c,μ n=some (.at b z c c)∧v=.slice (some ⟨b,0,none⟩) len c∧len<c:=by
 cases h with
 | vc _ h hlt=>exact⟨_,_,_,h,rfl,hlt⟩
theorem z1201 {n len:Nat} (h:AVRel w own μ (.vh n len) v):∃ b z c,μ n=some (.at b z c c)∧v=.slice (some ⟨b,0,none⟩) len c∧len≤c:=by
 cases h with
 | vh _ h hle=>exact⟨_,_,_,h,rfl,hle⟩
theorem z1089 {rows:List (List DV)} (h:AVRel w own μ (.dfull rows) v):∃ a,v=.slice a rows.length rows.length∧DRel w own (.sl rows) v:=by
 cases h with
 | dfull h=>exact⟨_,rfl,h⟩
theorem z29 {n:Nat} (h:AVRel w own μ (.own n) v):(μ n=some .none0∧v=.slice none 0 0)∨∃ b z l c,μ n=some (.at b z l c)∧v=.slice (some ⟨b,0,none⟩) l c:=by
 cases h with
 | ownNil h=>exact .inl ⟨h,rfl⟩
 | own h=>exact .inr ⟨_,_,_,_,h,rfl⟩
theorem z151 {n off len:Nat} (h:AVRel w own μ (.view n off len) v):∃ a cap,v=.slice a len cap∧(μ n).isSome∧len≤cap∧(a=none→cap=0) ∧
  (0<len→∃ b z l c,μ n=some (.at b z l c)∧a=some ⟨b,off * z,none⟩∧off + len≤l∧off + cap≤c):=by
 cases h with | view _ _ _ cap a hs hle hn h=>exact⟨a,cap,rfl,hs,hle,hn,h⟩
theorem z202 {row:List DV} {off:Nat} (h:AVRel w own μ (.d (.ptr row off)) v):∃ b o,v=.pointer (some ⟨b,o + off,none⟩)∧∃ f:Nat→Value,
  (∀ (j:Nat) d,row[j]?=some d→¬ own b∧w.cell? ⟨b,o + j,none⟩=some (f j)∧(f j).oneCell'=true)∧(∀ (j:Nat) d,row[j]?=some d→DRel w own d (f j)):=by
 have:=h.d_inv
 cases this with | ptr _ _ b o f hc hd=>exact⟨b,o,rfl,f,hc,hd⟩
theorem z255 {b off:Nat} (h:AVRel w own μ (.d (.raw b off)) v):v=.pointer (some ⟨b,off,none⟩):=by
 have:=h.d_inv;cases this;rfl
theorem z703 (h:AVRel w own μ (.d .nilsl) v):v=.slice none 0 0:=by
 have:=h.d_inv;cases this;rfl
theorem z1088 {kk:KK} {keys:List (MK × Nat)} {vals:List DV} {c:Nat} (h:AVRel w own μ (.d (.mp kk keys vals c)) v):∃ (b:Nat) (mes:Array MapEntry),v=.map (some b)∧¬ own b∧w.heap[b]?=some (.map mes c)∧keys.length=mes.size∧vals.length=mes.size ∧
  (∀ (i:Nat) k m,keys[i]?=some k→mes[i]?=some m→(m.key=k.1.val∧k.1.fits kk=true)∧m.born=k.2)∧(∀ (i:Nat) d m,vals[i]?=some d→mes[i]?=some m→DRel w own d m.val):=by
 have:=h.d_inv;cases this with | mp _ _ _ _ b mes hb hh hk hl hm hd=>exact⟨b,mes,rfl,hb,hh,hk,hl,hm,hd⟩
theorem z342 {rows:List (List DV)} (h:AVRel w own μ (.d (.sl rows)) v):(rows=[]∧∃ a cap,v=.slice a 0 cap∧(a=none→cap=0))∨∃ b off z cap,v=.slice (some ⟨b,off,none⟩) rows.length cap ∧
  rows.length≤cap∧(∀ r ∈ rows,r.length=z)∧∃ f:Nat→Nat→Value,
  (∀ (i:Nat) r (j:Nat) d,rows[i]?=some r→r[j]?=some d→¬ own b∧w.cell? ⟨b,off + i * z + j,none⟩=some (f i j)∧(f i j).oneCell'=true) ∧
  (∀ (i:Nat) r (j:Nat) d,rows[i]?=some r→r[j]?=some d→DRel w own d (f i j)):=by
 have:=h.d_inv
 cases this with
 | slNil=>exact .inl ⟨rfl,none,0,rfl,fun _=>rfl⟩
 | slEmpty a cap=>exact .inl ⟨rfl,some a,cap,rfl,fun h=>by cases h⟩
 | sl _ b off z cap f hl hz hc hd=>exact .inr ⟨b,off,z,cap,rfl,hl,hz,f,hc,hd⟩
theorem z1087 {f:FuncId} {cs:List AV} (h:AVRel w own μ (.fn f cs) v):∃ vs:Array Value,v=.func (.func f) #[] vs∧cs.length=vs.size∧∀ (i:Nat) x u,cs[i]?=some x→vs[i]?=some u→AVRel w own μ x u:=by
 cases h with | fn _ _ vs hl hd=>exact⟨vs,rfl,hl,hd⟩
theorem z1090 {f:FuncId} {ds:List DV} (h:AVRel w own μ (.d (.bnd f ds)) v):∃ vs:Array Value,v=.func (.func f) vs #[]∧ds.length=vs.size∧∀ (i:Nat) d u,ds[i]?=some d→vs[i]?=some u→DRel w own d u:=by
 have:=h.d_inv;cases this with | bnd _ _ vs hl hd=>exact⟨vs,rfl,hl,hd⟩
theorem z547 {f:FuncId} {cs:List DV} (h:AVRel w own μ (.d (.fn f cs)) v):∃ vs:Array Value,v=.func (.func f) #[] vs∧cs.length=vs.size∧∀ (i:Nat) x u,cs[i]?=some x→vs[i]?=some u→DRel w own x u:=by
 have:=h.d_inv
 cases this with | fn _ _ vs hl hd=>exact⟨vs,rfl,hl,hd⟩
theorem z343 {cs:List AV} (h:AVRel w own μ (.agg cs) v):∃ vs:Array Value,v=.agg vs∧cs.length=vs.size∧∀ (i:Nat) x u,cs[i]?=some x→vs[i]?=some u→AVRel w own μ x u:=by
 cases h with | agg _ vs hl hd=>exact⟨vs,rfl,hl,hd⟩
theorem z911 {cs:List DV} (h:AVRel w own μ (.d (.agg cs)) v):∃ vs:Array Value,v=.agg vs∧cs.length=vs.size∧∀ (i:Nat) x u,cs[i]?=some x→vs[i]?=some u→DRel w own x u:=by
 have:=h.d_inv
 cases this with | agg _ vs hl hd=>exact⟨vs,rfl,hl,hd⟩
theorem z1228 {cs:List AV} (h:AVRel w own μ (.tup cs) v):∃ vs:Array Value,v=.tuple vs∧cs.length=vs.size∧∀ (i:Nat) x u,cs[i]?=some x→vs[i]?=some u→AVRel w own μ x u:=by
 cases h with | tup _ vs hl hd=>exact⟨vs,rfl,hl,hd⟩
theorem z1176 {cs:List DV} (h:AVRel w own μ (.d (.tup cs)) v):∃ vs:Array Value,v=.tuple vs∧cs.length=vs.size∧∀ (i:Nat) x u,cs[i]?=some x→vs[i]?=some u→DRel w own x u:=by
 have:=h.d_inv
 cases this with | tup _ vs hl hd=>exact⟨vs,rfl,hl,hd⟩
end inv
theorem z1066 (h:StRel P base out st μ tmps w) {x:Operand} (ho:o.op=.move x∨o.op=.assign x):OpOK P base out μ o (st.put o.dst (st.ev x)) tmps w:=by
 refine⟨.value (({ tmps:=tmps,defers:=[] }:Act).eval x),_,w,μ,fun ds=>?_,.inl rfl,h.put (h.ev x []) o.dst,KeepO.refl _ _ _⟩
 have:({ tmps:=tmps,defers:=ds }:Act).eval x=({ tmps:=tmps,defers:=[] }:Act).eval x:=by cases x <;> rfl
 unfold execOp
 rcases ho with ho | ho <;> simp [ho,this]
theorem z1186 (tmps:Array Value) (ds:List Deferred) (x:Operand):({ tmps:=tmps,defers:=ds }:Act).eval x=({ tmps:=tmps,defers:=[] }:Act).eval x:=by cases x <;> rfl
theorem z22 (tmps:Array Value) (ds:List Deferred):({ tmps:=tmps,defers:=ds }:Act).eval=({ tmps:=tmps,defers:=[] }:Act).eval:=funext (z1186 tmps ds)
abbrev val (tmps:Array Value) (x:Operand):Value:=({ tmps:=tmps,defers:=[] }:Act).eval x
theorem z47 (h:StRel P base out st μ tmps w) {x:AV} {v:Value} (hx:AVRel w (ownOf out μ) μ x v)
  (hr:(execOp ({ tmps:=tmps,defers:=[] }:Act).eval o).run P w=.ok (.value v) w):OpOK P base out μ o (st.put o.dst x) tmps w :=
 h.okv hx (fun ds=>by rw [z22];exact hr)
theorem z1211 (h:StRel P base out st μ tmps w) {c a b:Operand} (ho:o.op=.pick c a b) (hs:opPick (st.ev c) (st.ev a) (st.ev b)=some r):OpOK P base out μ o (st.put o.dst r) tmps w:=by
 have hc:=h.ev c []
 have ha:=h.ev a []
 have hb:=h.ev b []
 unfold opPick at hs
 split at hs
 ·rename_i t hev
  cases hs
  rw [hev] at hc
  have hcv:=z57 hc
  have hp:AVRel w (ownOf out μ) μ (pickA t (st.ev a) (st.ev b)) (if t then val tmps a else val tmps b):=by
   unfold pickA
   split
   ·rename_i x y hx hy
    rw [hx] at ha;rw [hy] at hb
    cases t
    ·simpa using hb
    ·simpa using ha
   ·cases t
    ·simpa using hb
    ·simpa using ha
  refine z47 h hp ?_
  unfold execOp
  simp [ho,asBool,hcv]
 ·cases hs
theorem z868 (h:StRel P base out st μ tmps w) {x:Operand} (ho:o.op=.nilCheck x) (hs:opNilCheck (st.ev x)=some r):OpOK P base out μ o (st.put o.dst r) tmps w:=by
 have hx:=h.ev x []
 have fin:∀ X,st.ev x=X→(∃ a,val tmps x=.pointer (some a))∨(∃ f vs,val tmps x=.func (.func f) #[] vs)→OpOK P base out μ o (st.put o.dst X) tmps w:=by
  intro X hX hor
  subst hX
  refine z47 h hx ?_
  unfold execOp
  simp only [val] at hor
  rcases hor with ⟨a,ha⟩ | ⟨f,vs,ha⟩ <;> simp [ho,ha]
 unfold opNilCheck at hs
 split at hs
 all_goals first | (cases hs;done) | skip
 all_goals
  rename_i hev
  cases hs
  refine fin _ rfl ?_
  rw [hev] at hx
 ·obtain⟨b,z,l,c,_,hv⟩:=z72 hx;exact .inl ⟨_,hv⟩
 ·obtain⟨b,z,l,c,_,hv⟩:=z152 hx;exact .inl ⟨_,hv⟩
 ·obtain⟨b,o,hv,_⟩:=z202 hx;exact .inl ⟨_,hv⟩
 ·exact .inl ⟨_,z255 hx⟩
 ·obtain⟨vs,hv,_⟩:=z1087 hx;exact .inr ⟨_,_,hv⟩
 ·obtain⟨vs,hv,_⟩:=z547 hx;exact .inr ⟨_,_,hv⟩
theorem z1309 (h:StRel P base out st μ tmps w) {op:UnOp} {t:TypeId} {x:Operand} (ho:o.op=.unOp op t x) (hs:opUn op (st.ev x)=some r):OpOK P base out μ o (st.put o.dst r) tmps w:=by
 have hx:=h.ev x []
 unfold opUn at hs
 split at hs
 ·rename_i b hev
  cases hs
  rw [hev] at hx
  refine z47 h (.d (.bool (!b))) ?_
  unfold execOp
  simp [ho,z57 hx,Op.unary]
 ·rename_i k n hev
  cases hs
  rw [hev] at hx
  refine z47 h (.d (.int k _)) ?_
  unfold execOp
  simp [ho,z43 hx,Op.unary,Op.intArith]
 ·cases hs
theorem z993 (h:StRel P base out st μ tmps w) {src t:TypeId} {x:Operand} (ho:o.op=.convert src t x) (hs:opConvert P src t (st.ev x)=some r):OpOK P base out μ o (st.put o.dst r) tmps w:=by
 have hx:=h.ev x []
 unfold opConvert at hs
 split at hs
 ·rename_i d k k' n hsrc hk hev
  cases hs
  rw [hev] at hx
  refine z47 h (.d (.int k _)) ?_
  unfold execOp
  simp [ho,z43 hx,convert,run_underlying hsrc,run_underlying (z1035 hk),Conv.intToInt]
 ·cases hs
theorem z90 {own:Own} {μ:Pl} {w:World}:∀ (f:Nat) (x:AV) (v:Value) (d:DV),AVRel w own μ x v→reify [] f x=some d→DRel w own d v:=by
  intro f
  induction f with
  | zero =>
   intro x v d hx hr
   unfold reify leaf at hr
   split at hr <;> first | (cases hr;first | exact hx.d_inv | (cases hx;exact .slNil) | (cases hx;exact .any _ rfl)) | (simp at hr)
  | succ f ih =>
   intro x v d hx hr
   have many:∀ (cs:List AV) (vs:Array Value) (ds:List DV),cs.length=vs.size→(∀ (i:Nat) x v,cs[i]?=some x→vs[i]?=some v→AVRel w own μ x v)→allSome (cs.map (reify [] f))=some ds→ds.length=vs.size∧∀ (i:Nat) d v,ds[i]?=some d→vs[i]?=some v→DRel w own d v:=by
    intro cs vs ds hl hd hs
    obtain⟨a1,a2⟩:=z15 hs
    refine⟨by rw [← a1];simpa using hl,fun i d v h1 h2=>?_⟩
    have h3:=a2 i d h1
    simp only [List.getElem?_map,Option.map_eq_some_iff] at h3
    obtain⟨y,hy,hr⟩:=h3
    exact ih y v d (hd i y v hy h2) hr
   have leafy:∀ d,leaf [] x=some d→DRel w own d v:=fun d hr=>by
    unfold leaf at hr
    split at hr <;> first | (cases hr;first | exact hx.d_inv | (cases hx;exact .slNil) | (cases hx;exact .any _ rfl)) | (simp at hr)
   cases x with
   | box n off=>simp [reify] at hr
   | agg cs =>
    simp only [reify,Option.map_eq_some_iff] at hr
    obtain⟨ds,hds,rfl⟩:=hr
    cases hx with
    | agg _ vs hl hd=>obtain⟨p,q⟩:=many cs vs ds hl hd hds;exact .agg ds vs p q
   | tup cs =>
    simp only [reify,Option.map_eq_some_iff] at hr
    obtain⟨ds,hds,rfl⟩:=hr
    cases hx with
    | tup _ vs hl hd=>obtain⟨p,q⟩:=many cs vs ds hl hd hds;exact .tup ds vs p q
   | fn g cs =>
    simp only [reify,Option.map_eq_some_iff] at hr
    obtain⟨ds,hds,rfl⟩:=hr
    cases hx with
    | fn _ _ vs hl hd=>obtain⟨p,q⟩:=many cs vs ds hl hd hds;exact .fn g ds vs p q
   | _=>exact leafy d (by simpa [reify] using hr)
theorem z870 (h:StRel P base out st μ tmps w) {fn:Fn} {first captured:Array Operand} (ho:o.op=.makeFunc fn first captured)
  (hs:opMakeFunc fn (first.toList.map st.ev) (captured.toList.map st.ev)=some r):OpOK P base out μ o (st.put o.dst r) tmps w:=by
 unfold opMakeFunc at hs
 split at hs
 ·rename_i f
  split at hs
  ·rename_i hf
   cases hs
   have hf':first=#[]:=by
    have:first.toList=[]:=by simpa using hf
    exact Array.toList_eq_nil_iff.1 this
   subst hf'
   refine z47 h (v:=.func (.func f) #[] (captured.map (val tmps))) (.fn f _ _ (by simp) (fun i x v h1 h2=>?_)) ?_
   ·simp only [List.getElem?_map,Array.getElem?_toList,Option.map_eq_some_iff] at h1
    simp only [Array.getElem?_map,Option.map_eq_some_iff] at h2
    obtain⟨a,ha,rfl⟩:=h1
    obtain⟨b,hb,rfl⟩:=h2
    rw [ha] at hb;cases hb
    exact h.ev a []
   ·unfold execOp
    simp [ho,Instr.makeFunc]
  ·rename_i x xs hf
   split at hs
   ·rename_i hc
    have hc':captured=#[]:=by
     have:captured.toList=[]:=by simpa using hc
     exact Array.toList_eq_nil_iff.1 this
    subst hc'
    rw [← hf] at hs
    split at hs
    ·rename_i ds hds
     cases hs
     obtain⟨a1,a2⟩:=z15 hds
     refine z47 h (v:=.func (.func f) (first.map (val tmps)) #[]) (.d (.bnd f ds _ (by rw [← a1];simp) (fun i d v h1 h2=>?_))) ?_
     ·have h3:=a2 i d h1
      simp only [List.getElem?_map,Array.getElem?_toList,Option.map_eq_some_iff] at h3
      simp only [Array.getElem?_map,Option.map_eq_some_iff] at h2
      obtain⟨y,⟨a,ha,rfl⟩,hr⟩:=h3
      obtain⟨b,hb,rfl⟩:=h2
      rw [ha] at hb;cases hb
      exact z90 deep _ _ _ (h.ev a []) hr
     ·unfold execOp
      simp [ho,Instr.makeFunc]
    ·cases hs
   ·cases hs
 ·cases hs
theorem z992 (h:StRel P base out st μ tmps w) {x:Operand} {i:Nat} (ho:o.op=.extract x i) (hs:opExtract (st.ev x) i=some r):OpOK P base out μ o (st.put o.dst r) tmps w:=by
 have hx:=h.ev x []
 unfold opExtract at hs
 split at hs
 ·rename_i vs hev
  rw [hev] at hx
  obtain⟨us,hv,hl,hd⟩:=z1228 hx
  split at hs
  ·rename_i y hy
   cases hs
   have hi:i<us.size:=by rw [← hl];exact (List.getElem?_eq_some_iff.1 hy).1
   refine z47 h (v:=us[i]) (hd i _ _ hy (by simp [hi])) ?_
   unfold execOp
   simp [ho,hv,Instr.extract,hi]
  ·cases hs
 ·rename_i vs hev
  rw [hev] at hx
  obtain⟨us,hv,hl,hd⟩:=z1176 hx
  split at hs
  ·rename_i y hy
   cases hs
   have hi:i<us.size:=by rw [← hl];exact (List.getElem?_eq_some_iff.1 hy).1
   refine z47 h (v:=us[i]) (.d (hd i y _ hy (by simp [hi]))) ?_
   unfold execOp
   simp [ho,hv,Instr.extract,hi]
  ·cases hs
 ·cases hs
end
end Go.Ab
/- Operators,parts,addresses: soundness. -/
namespace Go.Ab
open Go.RowKit
section
variable {P:Program} {base:Own} {out:Own} {r:AV} {st st':St} {μ:Pl} {tmps:Array Value} {w:World} {o:Oper}
theorem z174 (op:BinOp) (t:TypeId) (x y:Operand) (k k':IntKind) (a b:Int) (w:World):(eqGuard op t x y (.int k a) (.int k' b)).run P w=.ok () w:=by
 unfold eqGuard
 cases op <;> rfl
theorem z161 (op:BinOp) (t:TypeId) (x y:Operand) (a b:Bool) (w:World):(eqGuard op t x y (.bool a) (.bool b)).run P w=.ok () w:=by
 unfold eqGuard
 cases op <;> rfl
theorem z51 (op:BinOp) (t:TypeId) (x y:Operand) (a b:Option Addr) (l c l' c':Nat) (w:World):(eqGuard op t x y (.slice a l c) (.slice b l' c')).run P w=.ok () w:=by
 unfold eqGuard
 split <;> rfl
theorem z173 (op:BinOp) (t:TypeId) (x y:Operand) (a b:Option Addr) (w:World):(eqGuard op t x y (.pointer a) (.pointer b)).run P w=.ok () w:=by
 unfold eqGuard
 cases op <;> rfl
theorem z1091 {op:BinOp} {k:IntKind} {a b:Int} {d:DV} (h:intOp op k a b=some d) (t:TypeId) (w:World) {own:Own} :
  ∃ v,(binOp op t (.int k a) (.int k b)).run P w=.ok v w∧DRel w own d v:=by
 cases op <;> simp only [intOp] at h <;> first
  | (cases h;refine⟨.int _ _,?_,.int _ _⟩;simp [binOp,Op.intArith,Op.intBits,bAnd,bOr,bXor,bAndNot];done)
  | (cases h;refine⟨.bool _,?_,.bool _⟩;simp [binOp,Op.intCmp];done)
  | (split at h
     ·cases h
     ·rename_i hb
      cases h
      refine⟨_,?_,.int _ _⟩
      simp [binOp,Op.intDiv,hb])
  | cases h
theorem z854 {op:BinOp} {k:IntKind} {a b:Int} {d:DV} (h:shiftOp op k a b=some d) (k':IntKind) (t:TypeId) (w:World) {own:Own} :
  ∃ v,(binOp op t (.int k a) (.int k' b)).run P w=.ok v w∧DRel w own d v:=by
 unfold shiftOp at h
 split at h
 ·cases h
 ·rename_i hb
  cases op <;> simp only at h <;> first
   | (cases h;refine⟨_,?_,.int _ _⟩;simp [binOp,Op.shift,hb,bShl,bShr])
   | cases h
theorem z701 {x:AV} {b:Bool} {v:Value} {μ:Pl} {w:World} (hx:isPtr x=some b) {own:Own} (h:AVRel w own μ x v):∃ a,v=.pointer a∧a.isSome=b:=by
 unfold isPtr at hx
 split at hx
 ·cases hx;obtain⟨_,_,_,_,_,rfl⟩:=z72 h;exact⟨_,rfl,rfl⟩
 ·cases hx;obtain⟨_,_,_,_,_,rfl⟩:=z152 h;exact⟨_,rfl,rfl⟩
 ·cases hx;obtain⟨_,_,rfl,_⟩:=z202 h;exact⟨_,rfl,rfl⟩
 ·cases hx;exact⟨_,z255 h,rfl⟩
 ·cases hx;exact⟨none,z256 h,rfl⟩
 ·cases hx
theorem z1259 (h:StRel P base out st μ tmps w) {op:BinOp} {t t':TypeId} {x y:Operand} (ho:o.op=.binOp op t x y t')
  (hs:opBin P op t (st.ev x) (st.ev y)=some r):OpOK P base out μ o (st.put o.dst r) tmps w:=by
 have hx:=h.ev x []
 have hy:=h.ev y []
 have sh:∀ (op':BinOp) k a k' b v,op=op'→st.ev x=.d (.int k a)→st.ev y=.d (.int k' b)→shiftOp op' k a b=some v→OpOK P base out μ o (st.put o.dst (.d v)) tmps w:=by
  intro op' k a k' b v he h1 h2 hv
  subst he
  rw [h1] at hx;rw [h2] at hy
  obtain⟨u,hu,hr⟩:=z854 (P:=P) hv k' t w (own:=ownOf out μ)
  refine z47 h (.d hr) ?_
  unfold execOp
  simp [ho,z43 hx,z43 hy,z174,hu]
 unfold opBin at hs
 split at hs
 ·split at hs
  ·cases hs;rename_i k a k' b h1 h2 _ v hv;exact sh _ _ _ _ _ _ rfl h1 h2 hv
  ·cases hs
 ·split at hs
  ·cases hs;rename_i k a k' b h1 h2 _ v hv;exact sh _ _ _ _ _ _ rfl h1 h2 hv
  ·cases hs
 ·rename_i k a k' b _ _ h1 h2
  split at hs
  ·rename_i hk
   subst hk
   split at hs
   ·rename_i v hv
    cases hs
    rw [h1] at hx;rw [h2] at hy
    obtain⟨u,hu,hr⟩:=z1091 (P:=P) hv t w (own:=ownOf out μ)
    refine z47 h (.d hr) ?_
    unfold execOp
    simp [ho,z43 hx,z43 hy,z174,hu]
   ·cases hs
  ·cases hs
 ·rename_i a b h1 h2
  split at hs
  ·rename_i hb
   cases hs
   rw [h1] at hx;rw [h2] at hy
   refine z47 h (.d (.bool (a == b))) ?_
   unfold execOp
   simp [ho,z57 hx,z57 hy,z161,run_eql_bool _ _ _ _ hb]
  ·cases hs
 ·rename_i a b h1 h2
  split at hs
  ·rename_i hb
   cases hs
   rw [h1] at hx;rw [h2] at hy
   refine z47 h (.d (.bool (!(a == b)))) ?_
   unfold execOp
   simp [ho,z57 hx,z57 hy,z161,run_neq_bool _ _ _ _ hb]
  ·cases hs
 ·rename_i h2
  split at hs
  ·rename_i e b hu hp
   cases hs
   rw [h2] at hy
   obtain⟨a,ha,hb⟩:=z701 hp hx
   have hpt:P.underlying t=some (.pointer (P.pointee t)):=by rw [hu];simp [Program.pointee,hu]
   refine z47 h (.d (.bool (!b))) ?_
   unfold execOp
   have:=run_eql_pointer_nil (P:=P) w t a hpt
   simp [ho,ha,z256 hy,z173,this,← hb]
  ·cases hs
 ·rename_i h2
  split at hs
  ·rename_i e b hu hp
   cases hs
   rw [h2] at hy
   obtain⟨a,ha,hb⟩:=z701 hp hx
   have hpt:P.underlying t=some (.pointer (P.pointee t)):=by rw [hu];simp [Program.pointee,hu]
   refine z47 h (.d (.bool b)) ?_
   unfold execOp
   have:=run_neq_pointer_nil (P:=P) w t a hpt
   simp [ho,ha,z256 hy,z173,this,← hb]
  ·cases hs
 ·rename_i h1 h2
  split at hs
  ·rename_i e hu
   cases hs
   rw [h1] at hx
   rw [h2] at hy
   refine z47 h (.d (.bool true)) ?_
   unfold execOp
   have:=run_equal_slice_nil (P:=P) w t e none 0 0 (z12 hu)
   simp [ho,z703 hx,z115 hy,z51,binOp,this]
  ·cases hs
 ·rename_i rows h1 h2
  split at hs
  ·rename_i e hu hne
   cases hs
   rw [h1] at hx
   rw [h2] at hy
   rcases z342 hx with ⟨rfl,_⟩ | ⟨b,off,z',cap,hv,_⟩
   ·cases hne
   ·refine z47 h (.d (.bool false)) ?_
    unfold execOp
    have:=run_equal_slice_nil (P:=P) w t e (some ⟨b,off,none⟩) rows.length cap (z12 hu)
    simp [ho,hv,z115 hy,z51,binOp,this]
  ·rename_i e hu hne
   cases hs
   rw [h1] at hx
   rw [h2] at hy
   rcases z342 hx with ⟨rfl,a,cap,hv,_⟩ | ⟨b,off,z',cap,hv,_⟩
   ·refine z47 h (.d (.ub a.isNone)) ?_
    unfold execOp
    have:=run_equal_slice_nil (P:=P) w t e a 0 cap (z12 hu)
    simp [ho,hv,z115 hy,z51,binOp,this]
   ·refine z47 h (.d (.ub false)) ?_
    unfold execOp
    have:=run_equal_slice_nil (P:=P) w t e (some ⟨b,off,none⟩) rows.length cap (z12 hu)
    simp [ho,hv,z115 hy,z51,binOp,this]
  ·cases hs
 ·cases hs
end
end Go.Ab
/- Loads,parts,addresses,slices,lengths: soundness. -/
namespace Go.Ab
open Go.RowKit
section
variable {P:Program} {base:Own} {out:Own} {r:AV} {st st':St} {μ:Pl} {tmps:Array Value} {w:World} {o:Oper}
theorem z280 {t:TypeId} {size:Nat} (hg:tagg P t=some true) (hs:tsz P t=some size) {b x:Nat} {f:Nat→Value}
  (hc:∀ j,j<size→w.cell? ⟨b,x + j,none⟩=some (f j)):(loadVar t ⟨b,x,none⟩).run P w=.ok (.agg ((List.range size).map f).toArray) w:=by
 have:=run_loadCells (P:=P) w ⟨b,x,none⟩ size f (fun j hj=>by rw [Addr.add_lit];exact hc j hj)
 simp [loadVar,z172 hg,z26 hs,this]
theorem z171 {t:TypeId} (hg:tagg P t=some false) {b x:Nat} {v:Value} (hc:w.cell? ⟨b,x,none⟩=some v):(loadVar t ⟨b,x,none⟩).run P w=.ok v w:=by
 simp [loadVar,z172 hg,hc]
theorem z217 {t:TypeId} {g:Bool} {size:Nat} (hg:tagg P t=some g) (hs:tsz P t=some size) {b x:Nat} {row:List AV} {own:Own}
  (hc:∀ (j:Nat) y,row[j]?=some y→∃ u,w.cell? ⟨b,x + j,none⟩=some u∧AVRel w own μ y u) {off:Nat} {r:AV} (hp:partOf g off size row=some r) :
  ∃ v,(loadVar t ⟨b,x + off,none⟩).run P w=.ok v w∧AVRel w own μ r v:=by
 unfold partOf at hp
 cases g with
 | true =>
  simp only [if_true] at hp
  split at hp
  ·rename_i hle
   cases hp
   have key:∀ j,j<size→∃ u,w.cell? ⟨b,x + off + j,none⟩=some u∧∀ y,row[off + j]?=some y→AVRel w own μ y u:=by
    intro j hj
    have hlt:off + j<row.length:=by omega
    obtain⟨u,hu,hr⟩:=hc (off + j) row[off + j] (by simp [hlt])
    exact⟨u,by rw [Nat.add_assoc];exact hu,fun y hy=>by simp [hlt] at hy;subst hy;exact hr⟩
   have hf:=z280 (P:=P) (w:=w) hg hs (b:=b) (x:=x + off) (f:=fun j=>(w.cell? ⟨b,x + off + j,none⟩).getD Go.undef)
    (fun j hj=>by obtain⟨u,hu,_⟩:=key j hj;rw [hu];rfl)
   refine⟨_,hf,.agg _ _ (by simp;omega) (fun i y v h1 h2=>?_)⟩
   have hi:i<size:=by
    have:=(List.getElem?_eq_some_iff.1 h1).1
    simp at this;omega
   obtain⟨u,hu,hr⟩:=key i hi
   simp only [List.getElem?_toArray,List.getElem?_map,List.getElem?_range hi,Option.map_some,Option.some.injEq] at h2
   rw [hu] at h2
   simp only [Option.getD_some] at h2
   subst h2
   refine hr y ?_
   rw [List.getElem?_take,if_pos hi,List.getElem?_drop] at h1
   exact h1
  ·cases hp
 | false =>
  simp only [Bool.false_eq_true,if_false] at hp
  obtain⟨u,hu,hr⟩:=hc off r hp
  exact⟨u,z171 hg hu,hr⟩
theorem z189 {t:TypeId} {g:Bool} {size:Nat} (hg:tagg P t=some g) (hs:tsz P t=some size) {b x:Nat} {row:List DV} {own:Own}
  (hc:∀ (j:Nat) y,row[j]?=some y→∃ u,w.cell? ⟨b,x + j,none⟩=some u∧DRel w own y u) {off:Nat} {r:AV} (hp:partOfD g off size row=some r) :
  ∃ v,(loadVar t ⟨b,x + off,none⟩).run P w=.ok v w∧AVRel w own μ r v:=by
 unfold partOfD at hp
 cases g with
 | true =>
  simp only [if_true] at hp
  split at hp
  ·rename_i hle
   cases hp
   have key:∀ j,j<size→∃ u,w.cell? ⟨b,x + off + j,none⟩=some u∧∀ y,row[off + j]?=some y→DRel w own y u:=by
    intro j hj
    have hlt:off + j<row.length:=by omega
    obtain⟨u,hu,hr⟩:=hc (off + j) row[off + j] (by simp [hlt])
    exact⟨u,by rw [Nat.add_assoc];exact hu,fun y hy=>by simp [hlt] at hy;subst hy;exact hr⟩
   have hf:=z280 (P:=P) (w:=w) hg hs (b:=b) (x:=x + off) (f:=fun j=>(w.cell? ⟨b,x + off + j,none⟩).getD Go.undef)
    (fun j hj=>by obtain⟨u,hu,_⟩:=key j hj;rw [hu];rfl)
   refine⟨_,hf,.d (.agg _ _ (by simp;omega) (fun i y v h1 h2=>?_))⟩
   have hi:i<size:=by
    have:=(List.getElem?_eq_some_iff.1 h1).1
    simp at this;omega
   obtain⟨u,hu,hr⟩:=key i hi
   simp only [List.getElem?_toArray,List.getElem?_map,List.getElem?_range hi,Option.map_some,Option.some.injEq] at h2
   rw [hu] at h2
   simp only [Option.getD_some] at h2
   subst h2
   refine hr y ?_
   rw [List.getElem?_take,if_pos hi,List.getElem?_drop] at h1
   exact h1
  ·cases hp
 | false =>
  simp only [Bool.false_eq_true,if_false,Option.map_eq_some_iff] at hp
  obtain⟨d,hd,rfl⟩:=hp
  obtain⟨u,hu,hr⟩:=hc off d hd
  exact⟨u,z171 hg hu,.d hr⟩
theorem z744 (h:MemRel base out w μ st.m) {n:Nat} {row:List AV} (hn:st.m[n]?=some (some (.box row))) {b z l c:Nat} (hμ:μ n=some (.at b z l c)) :
  ∀ (j:Nat) y,row[j]?=some y→∃ u,w.cell? ⟨b,0 + j,none⟩=some u∧AVRel w (ownOf out μ) μ y u:=by
 obtain⟨b',cs,ty,hμ',hh,hsz,hd⟩:=h.box hn
 rw [hμ] at hμ';cases hμ'
 intro j y hy
 have hlt:j<cs.size:=Nat.lt_of_lt_of_le (List.getElem?_eq_some_iff.1 hy).1 hsz
 exact⟨cs[j],by rw [z17 hh];simp [hlt],(hd j y _ hy (by simp [hlt])).2⟩
theorem z749 (h:MemRel base out w μ st.m) {n e z':Nat} {rows:List (List DV)} (hn:st.m[n]?=some (some (.arr e z' rows))) {b z l c:Nat} (hμ:μ n=some (.at b z l c))
  {i:Nat} {r:List DV} (hi:rows[i]?=some r):∀ (j:Nat) y,r[j]?=some y→∃ u,w.cell? ⟨b,i * z + j,none⟩=some u∧DRel w (ownOf out μ) y u:=by
 rcases h.arr hn with ⟨h0,rfl⟩ | ⟨b',cap',cs,hμ',hh,hle',_,hsz,hz,hd⟩
 ·simp at hi
 rw [hμ] at hμ';cases hμ'
 intro j y hy
 obtain⟨v,h1,_,h2⟩:=hd i r j y hi hy
 exact⟨v,by rw [z17 hh];exact h1,h2⟩
theorem z486 (h:MemRel base out w μ st.m) {n e z':Nat} {rows:List (List AV)} (hn:st.m[n]?=some (some (.arrA e z' rows))) {b z l c:Nat} (hμ:μ n=some (.at b z l c))
  {i:Nat} {r:List AV} (hi:rows[i]?=some r):∀ (j:Nat) y,r[j]?=some y→∃ u,w.cell? ⟨b,i * z + j,none⟩=some u∧AVRel w (ownOf out μ) μ y u:=by
 rcases h.arrA hn with ⟨h0,rfl⟩ | ⟨b',cap',cs,hμ',hh,hle',_,hsz,hz,hd⟩
 ·simp at hi
 rw [hμ] at hμ';cases hμ'
 intro j y hy
 obtain⟨v,h1,_,h2⟩:=hd i r j y hi hy
 exact⟨v,by rw [z17 hh];exact h1,h2⟩
theorem z1212 (h:StRel P base out st μ tmps w) {t:TypeId} {a:Operand} (ho:o.op=.load t a) (hs:opLoad P st t (evG P st a)=some r):OpOK P base out μ o (st.put o.dst r) tmps w:=by
 have ha:=h.evG a []
 unfold opLoad at hs
 split at hs
 ·rename_i g size hg hsz
  split at hs
  ·rename_i x hx
   obtain rfl:x=r:=by simpa using hs
   have fin:∀ (v:Value) (p:Addr),val tmps a=.pointer (some p)→(loadVar t p).run P w=.ok v w→AVRel w (ownOf out μ) μ x v→OpOK P base out μ o (st.put o.dst x) tmps w:=by
    intro v p hv hr hxv
    refine z47 h hxv ?_
    unfold execOp
    simp only [val] at hv
    simp [ho,hv,Instr.loadAt,Instr.sureAddr,hr]
   split at hx
   ·rename_i n off hev
    rw [hev] at ha
    obtain⟨b,z,l,c,hμ,hv⟩:=z72 ha
    split at hx
    ·rename_i row hn
     obtain⟨v,hr,hxv⟩:=z217 hg hsz (z744 h.mem hn hμ) hx
     exact fin v _ hv (by rw [Nat.zero_add] at hr;exact hr) hxv
    ·cases hx
   ·rename_i row off hev
    rw [hev] at ha
    obtain⟨b,x0,hv,f,hc,hd⟩:=z202 ha
    obtain⟨v,hr,hxv⟩:=z189 (μ:=μ) hg hsz (fun j y hy=>⟨f j,(hc j y hy).2.1,hd j y hy⟩) hx
    exact fin v _ hv hr hxv
   ·rename_i n i off hev
    rw [hev] at ha
    obtain⟨b,z,l,c,hμ,hv⟩:=z152 ha
    split at hx
    ·rename_i e z' rows hn
     split at hx
     ·rename_i r hi
      obtain⟨v,hr,hxv⟩:=z189 (μ:=μ) hg hsz (z749 h.mem hn hμ hi) hx
      exact fin v _ hv hr hxv
     ·cases hx
    ·rename_i e z' rows hn
     split at hx
     ·rename_i r hi
      obtain⟨v,hr,hxv⟩:=z217 hg hsz (z486 h.mem hn hμ hi) hx
      exact fin v _ hv hr hxv
     ·cases hx
    ·cases hx
   ·cases hx
  ·cases hs
 ·cases hs
theorem z185 {t:TypeId} {g:Bool} {size:Nat} (hg:tagg P t=some g) (hs:tsz P t=some size) {cs:Array Value} {off:Nat} :
  (part t cs off).run P w=if g then .ok (.agg (cs.extract off (off + size))) w else match cs[off]? with
   | some v=>.ok v w
   | none => .halt (.stuck "part: no such cell") w := by
 cases g
 ·simp only [part,Sem.run_bind,z172 hg,Result.andThen_ok,Bool.false_eq_true,if_false]
  cases cs[off]? <;> rfl
 ·simp [part,z172 hg,z26 hs]
theorem z261 {t:TypeId} {g:Bool} {size:Nat} (hg:tagg P t=some g) (hs:tsz P t=some size) {row:List AV} {vs:Array Value} {own:Own} (hl:row.length=vs.size)
  (hd:∀ (i:Nat) x u,row[i]?=some x→vs[i]?=some u→AVRel w own μ x u) {off:Nat} {r:AV} (hp:partOf g off size row=some r) :
  ∃ v,(part t vs off).run P w=.ok v w∧AVRel w own μ r v:=by
 rw [z185 hg hs]
 unfold partOf at hp
 cases g with
 | true =>
  simp only [if_true] at hp ⊢
  split at hp
  ·rename_i hle
   cases hp
   refine⟨_,rfl,.agg _ _ (by simp;omega) (fun i x u h1 h2=>?_)⟩
   rw [List.getElem?_take] at h1
   split at h1
   ·rw [List.getElem?_drop] at h1
    rw [Array.getElem?_extract] at h2
    split at h2
    ·exact hd _ _ _ h1 h2
    ·cases h2
   ·cases h1
  ·cases hp
 | false =>
  simp only [Bool.false_eq_true,if_false] at hp ⊢
  have hlt:off<vs.size:=by rw [← hl];exact (List.getElem?_eq_some_iff.1 hp).1
  exact⟨vs[off],by simp [hlt],hd off r _ hp (by simp [hlt])⟩
theorem z1154 (h:StRel P base out st μ tmps w) {s:TypeId} {x:Operand} {f:Nat} (ho:o.op=.field s x f) (hs:opField P s (st.ev x) f=some r):OpOK P base out μ o (st.put o.dst r) tmps w:=by
 have hx:=h.ev x []
 unfold opField at hs
 split at hs
 ·rename_i fs hfs
  obtain⟨ds,hds,hget⟩:=z274 hfs
  split at hs
  ·rename_i fo size g hf
   obtain⟨fd,hfd,rfl,hsz,hg⟩:=hget f fo size g hf
   split at hs
   ·rename_i r hr
    cases hs
    have fin:∀ (vs:Array Value) (v:Value),val tmps x=.agg vs→(part fd.type vs fd.offset).run P w=.ok v w→AVRel w (ownOf out μ) μ r v→OpOK P base out μ o (st.put o.dst r) tmps w:=by
     intro vs v hv hp hrv
     refine z47 h hrv ?_
     unfold execOp
     simp only [val] at hv
     simp [ho,hv,Instr.field,run_underlying hds,hfd,asAgg,hp]
    split at hr
    ·rename_i cs hev
     rw [hev] at hx
     obtain⟨vs,hv,hl,hd⟩:=z343 hx
     obtain⟨v,hp,hrv⟩:=z261 hg hsz hl hd hr
     exact fin vs v hv hp hrv
    ·rename_i cs hev
     rw [hev] at hx
     obtain⟨vs,hv,hl,hd⟩:=z911 hx
     have hconv:partOf g fd.offset size (cs.map AV.d)=some r∨∃ l,r=.d (.agg l)∧partOf g fd.offset size (cs.map AV.d)=some (.agg (l.map AV.d)):=by
      unfold partOfD at hr
      unfold partOf
      cases g with
      | true =>
       simp only [if_true] at hr ⊢
       split at hr
       ·rename_i hle
        cases hr
        refine .inr ⟨_,rfl,?_⟩
        simp [hle,List.map_take,List.map_drop]
       ·cases hr
      | false =>
       simp only [Bool.false_eq_true,if_false,Option.map_eq_some_iff] at hr ⊢
       obtain⟨d,h1,rfl⟩:=hr
       exact .inl (by simp [h1])
     have hd':∀ (i:Nat) y u,(cs.map AV.d)[i]?=some y→vs[i]?=some u→AVRel w (ownOf out μ) μ y u:=by
      intro i y u h1 h2
      simp only [List.getElem?_map,Option.map_eq_some_iff] at h1
      obtain⟨d,h1,rfl⟩:=h1
      exact .d (hd i d u h1 h2)
     rcases hconv with hc | ⟨l,rfl,hc⟩
     ·obtain⟨v,hp,hrv⟩:=z261 hg hsz (by simpa using hl) hd' hc
      exact fin vs v hv hp hrv
     ·obtain⟨v,hp,hrv⟩:=z261 hg hsz (by simpa using hl) hd' hc
      obtain⟨us,rfl,hl2,hd2⟩:=z343 hrv
      refine fin vs _ hv hp (.d (.agg l us (by simpa using hl2) (fun i d u h1 h2=>?_)))
      exact (hd2 i (.d d) u (by simp [h1]) h2).d_inv
    ·cases hr
   ·cases hs
  ·cases hs
 ·cases hs
theorem z419 {f:Field} {s:Nat} (hs:tsz P f.type=some s) (h0:s≠0) (b x:Nat):(fieldPlace ⟨b,x,none⟩ f).run P w=.ok ⟨b,x + f.offset,none⟩ w:=by
 simp [fieldPlace,z26 hs,h0,Addr.add_lit]
theorem z690 (h:StRel P base out st μ tmps w) {s:TypeId} {x:Operand} {f:Nat} (ho:o.op=.fieldAddr s x f) (hs:opFieldAddr P s (st.ev x) f=some r):OpOK P base out μ o (st.put o.dst r) tmps w:=by
 have hx:=h.ev x []
 unfold opFieldAddr at hs
 split at hs
 ·rename_i fs hfs
  obtain⟨ds,hds,hget⟩:=z274 hfs
  split at hs
  ·rename_i fo size g hf
   obtain⟨fd,hfd,rfl,hsz,hg⟩:=hget f fo size g hf
   split at hs
   ·cases hs
   ·rename_i h0
    have fin:∀ (b y:Nat) (r:AV),val tmps x=.pointer (some ⟨b,y,none⟩)→AVRel w (ownOf out μ) μ r (.pointer (some ⟨b,y + fd.offset,none⟩))→OpOK P base out μ o (st.put o.dst r) tmps w:=by
     intro b y r hv hr
     refine z47 h hr ?_
     unfold execOp
     simp only [val] at hv
     simp [ho,hv,Instr.fieldAt,run_underlying hds,hfd,Instr.sureAddr,z419 hsz h0]
    split at hs
    ·rename_i n off hev
     cases hs
     rw [hev] at hx
     obtain⟨b,z,l,c,hμ,hv⟩:=z72 hx
     exact fin _ _ _ hv (.box _ hμ)
    ·rename_i n i off hev
     cases hs
     rw [hev] at hx
     obtain⟨b,z,l,c,hμ,hv⟩:=z152 hx
     exact fin _ _ _ hv (by rw [Nat.add_assoc];exact .elem _ _ hμ)
    ·rename_i row off hev
     cases hs
     rw [hev] at hx
     obtain⟨b,y,hv,g,hc,hd⟩:=z202 hx
     exact fin _ _ _ hv (by rw [Nat.add_assoc];exact .d (.ptr row _ b y g hc hd))
    ·rename_i b off hev
     cases hs
     rw [hev] at hx
     exact fin _ _ _ (z255 hx) (.d (.raw _ _))
    ·cases hs
  ·cases hs
 ·cases hs
theorem z856 {t e:TypeId} {z:Nat} (ht:tslice P t=some e) (hz:tsz P e=some z) {b x len cap:Nat} {k:IntKind} {i:Int} (h0:0≤i) (hi:i<len) :
  (Instr.indexAt t (.slice (some ⟨b,x,none⟩) len cap) (.int k i)).run P w=.ok (.pointer (some ⟨b,x + i.toNat * z,none⟩)) w:=by
 simp [Instr.indexAt,run_underlying (z12 ht),asIntOf,h0,hi,z26 hz,Addr.add_lit]
theorem z581 {t:TypeId} {n:Nat} (h:tarr P t=some n):∃ e,P.underlying t=some (.array n e)∧tsz P e=some 1:=by
 unfold tarr at h
 split at h
 ·rename_i m e hu
  split at h
  ·rename_i hz;cases h;exact⟨e,hu,hz⟩
  ·cases h
 ·cases h
theorem z673 {t e:TypeId} {n:Nat} (hu:P.underlying t=some (.array n e)) (hz:tsz P e=some 1) {b x:Nat} {k:IntKind} {i:Int} (h0:0≤i) (hi:i.toNat<n) :
  (Instr.indexAt t (.pointer (some ⟨b,x,none⟩)) (.int k i)).run P w=.ok (.pointer (some ⟨b,x + i.toNat,none⟩)) w:=by
 have hi':i<n:=by omega
 simp [Instr.indexAt,run_underlying hu,asIntOf,Instr.sureAddr,h0,hi',z26 hz,Addr.add_lit]
theorem z689 (h:StRel P base out st μ tmps w) {t:TypeId} {x i:Operand} (ho:o.op=.indexAddr t x i) (hs:opIndexAddr P st t (evG P st x) (st.ev i)=some r):OpOK P base out μ o (st.put o.dst r) tmps w:=by
 have hx:=h.evG x []
 have hi:=h.ev i []
 unfold opIndexAddr at hs
 split at hs
 ·rename_i e k iv hte hev
  rw [hev] at hi
  have hiv:=z43 hi
  split at hs
  ·rename_i z hz
   split at hs
   ·rename_i h0
    have fin:∀ (b y len cap:Nat) (r:AV),val tmps x=.slice (some ⟨b,y,none⟩) len cap→iv.toNat<len→AVRel w (ownOf out μ) μ r (.pointer (some ⟨b,y + iv.toNat * z,none⟩)) →
      OpOK P base out μ o (st.put o.dst r) tmps w:=by
     intro b y len cap r hv hlt hr
     refine z47 h hr ?_
     unfold execOp
     simp only [val] at hv
     have:=z856 (P:=P) (w:=w) hte hz (b:=b) (x:=y) (len:=len) (cap:=cap) (k:=k) h0 (by omega)
     simp [ho,hv,hiv,this]
    split at hs
    ·rename_i rows hev2
     rw [hev2] at hx
     split at hs
     ·rename_i r hr
      split at hs
      ·rename_i hrl
       cases hs
       rcases z342 hx with ⟨rfl,_⟩ | ⟨b,off,z',cap,hv,hle,hzz,f,hc,hd⟩
       ·simp at hr
       have hz':z'=z:=by rw [← hrl];exact (hzz r (List.mem_of_getElem? hr)).symm
       subst hz'
       refine fin b off rows.length cap _ hv (List.getElem?_eq_some_iff.1 hr).1 ?_
       have:=DRel.ptr (w:=w) (own:=ownOf out μ) r 0 b (off + iv.toNat * z') (fun j=>f iv.toNat j) (fun j d hj=>hc _ _ _ _ hr hj) (fun j d hj=>hd _ _ _ _ hr hj)
       exact .d (by simpa using this)
      ·cases hs
     ·cases hs
    ·rename_i n hev2
     rw [hev2] at hx
     split at hs
     ·rename_i e' z' rows hn
      split at hs
      ·rename_i hcond
       obtain⟨rfl,hlt⟩:=hcond
       cases hs
       rcases h.mem.arr hn with ⟨h0',rfl⟩ | ⟨b',cap',cs,hμ',hh,hle',_,hsz,hzz,hd⟩
       ·simp at hlt
       rcases z29 hx with ⟨hμ,hv⟩ | ⟨b,z,l,c,hμ,hv⟩
       ·rw [hμ'] at hμ;cases hμ
       ·rw [hμ] at hμ';cases hμ'
        exact fin _ _ _ _ _ hv hlt (by have:=AVRel.elem (w:=w) (own:=ownOf out μ) iv.toNat 0 hμ;simpa using this)
      ·cases hs
     ·rename_i e' z' rows hn
      split at hs
      ·rename_i hcond
       obtain⟨rfl,hlt⟩:=hcond
       cases hs
       rcases h.mem.arrA hn with ⟨h0',rfl⟩ | ⟨b',cap',cs,hμ',hh,hle',_,hsz,hzz,hd⟩
       ·simp at hlt
       rcases z29 hx with ⟨hμ,hv⟩ | ⟨b,z,l,c,hμ,hv⟩
       ·rw [hμ'] at hμ;cases hμ
       ·rw [hμ] at hμ';cases hμ'
        exact fin _ _ _ _ _ hv hlt (by have:=AVRel.elem (w:=w) (own:=ownOf out μ) iv.toNat 0 hμ;simpa using this)
      ·cases hs
     ·cases hs
    ·rename_i n off len hev2
     rw [hev2] at hx
     split at hs
     ·rename_i e' z' rows hn
      split at hs
      ·rename_i hcond
       obtain⟨rfl,hlt⟩:=hcond
       cases hs
       obtain⟨a,cap,hv,_,_,_,hpos⟩:=z151 hx
       obtain⟨b,z,l,c,hμ,rfl,_,_⟩:=hpos (by omega)
       rcases h.mem.arr hn with ⟨h0',_⟩ | ⟨b',cap',cs,hμ',hh,hle',_,hsz,hzz,hd⟩
       ·rw [hμ] at h0';cases h0'
       rw [hμ] at hμ';cases hμ'
       refine fin _ _ _ _ _ hv hlt ?_
       have:=AVRel.elem (w:=w) (own:=ownOf out μ) (off + iv.toNat) 0 hμ
       rw [Nat.add_mul] at this
       simpa using this
      ·cases hs
     ·cases hs
    ·rename_i n len hev2
     rw [hev2] at hx
     split at hs
     ·rename_i hcond
      obtain⟨rfl,hlt⟩:=hcond
      cases hs
      obtain⟨b,cap,hμ,hv,hle⟩:=z874 hx
      exact fin _ _ _ _ _ hv hlt (by rw [Nat.mul_one];exact AVRel.box _ hμ)
     ·cases hs
    ·cases hs
   ·cases hs
  ·cases hs
 ·rename_i k iv hte hev
  rw [hev] at hi
  have hiv:=z43 hi
  split at hs
  ·rename_i n hn
   obtain⟨e,hu,hz⟩:=z581 hn
   split at hs
   ·rename_i hlt
    have fin:∀ (b y:Nat) (r:AV),val tmps x=.pointer (some ⟨b,y,none⟩)→AVRel w (ownOf out μ) μ r (.pointer (some ⟨b,y + iv.toNat,none⟩))→OpOK P base out μ o (st.put o.dst r) tmps w:=by
     intro b y r hv hr
     refine z47 h hr ?_
     unfold execOp
     simp only [val] at hv
     have:=z673 (P:=P) (w:=w) hu hz (b:=b) (x:=y) (k:=k) hlt.1 hlt.2
     simp [ho,hv,hiv,this]
    split at hs
    ·rename_i m off hev2
     cases hs
     rw [hev2] at hx
     obtain⟨b,z,l,c,hμ,hv⟩:=z72 hx
     exact fin b off _ hv (.box _ hμ)
    ·rename_i row off hev2
     cases hs
     rw [hev2] at hx
     obtain⟨b,q,hv,f,hc,hd⟩:=z202 hx
     refine fin b (q + off) _ hv ?_
     have:=DRel.ptr (w:=w) (own:=ownOf out μ) row (off + iv.toNat) b q f hc hd
     exact .d (by rw [Nat.add_assoc];exact this)
    ·cases hs
   ·cases hs
  ·cases hs
 ·cases hs
end
end Go.Ab
/- Slices,lengths,min and max,structs built: soundness. -/
namespace Go.Ab
open Go.RowKit
section
variable {P:Program} {base:Own} {out:Own} {r:AV} {st st':St} {μ:Pl} {tmps:Array Value} {w:World} {o:Oper}
theorem z229 (h:StRel P base out st μ tmps w) {x:AV} {v:Value} (hx:AVRel w (ownOf out μ) μ x v) {rows:List (List DV)} (he:elemsOf st x=some rows) :
  ∃ a cap,v=.slice a rows.length cap∧rows.length≤cap∧(a=none→cap=0):=by
 unfold elemsOf at he
 split at he
 ·cases he;exact⟨none,0,z115 hx,by simp,fun _=>rfl⟩
 ·cases he
  rcases z342 hx with ⟨rfl,a,cap,hv,hn⟩ | ⟨b,off,z,cap,hv,hle,_⟩
  ·exact⟨a,cap,hv,by simp,hn⟩
  ·exact⟨_,cap,hv,hle,fun h=>by cases h⟩
 ·rename_i n
  split at he
  ·rename_i e z rows' hn
   cases he
   rcases h.mem.arr hn with ⟨h0,rfl⟩ | ⟨b',cap',cs,hμ',hh,hle',_⟩
   ·rcases z29 hx with ⟨hμ,hv⟩ | ⟨b,z,l,c,hμ,hv⟩
    ·exact⟨none,0,by simpa using hv,by simp,fun _=>rfl⟩
    ·rw [h0] at hμ;cases hμ
   ·rcases z29 hx with ⟨hμ,hv⟩ | ⟨b,z,l,c,hμ,hv⟩
    ·rw [hμ'] at hμ;cases hμ
    ·rw [hμ] at hμ';cases hμ'
     exact⟨_,_,hv,hle',fun h=>by cases h⟩
  ·cases he
 ·rename_i n off len
  split at he
  ·rename_i e z rows' hn
   split at he
   ·rename_i hle
    cases he
    obtain⟨a,cap,hv,_,h1,h2,_⟩:=z151 hx
    have:((rows'.drop off).take len).length=len:=by simp;omega
    rw [this]
    exact⟨a,cap,hv,h1,h2⟩
   ·cases he
  ·cases he
 ·cases he
theorem z1208 {t e:TypeId} (ht:tslice P t=some e) (ty:TypeId) (a:Option Addr) (n c:Nat):(Builtin.len_ #[t] ty #[.slice a n c]).run P w=.ok (goInt n) w:=by
 simp [Builtin.len_,run_underlying (z12 ht)]
theorem z1172 (h:StRel P base out st μ tmps w) {x:AV} {v:Value} (hx:AVRel w (ownOf out μ) μ x v) {n:Nat} (he:lenA st x=some n):∃ a cap,v=.slice a n cap:=by
 unfold lenA at he
 split at he
 ·split at he
  ·rename_i m e z rows hn
   cases he
   rcases h.mem.arrA hn with ⟨h0,rfl⟩ | ⟨b',cap',cs,hμ',hh,hle',_⟩
   ·rcases z29 hx with ⟨hμ,hv⟩ | ⟨b,z,l,c,hμ,hv⟩
    ·exact⟨none,0,by simpa using hv⟩
    ·rw [h0] at hμ;cases hμ
   ·rcases z29 hx with ⟨hμ,hv⟩ | ⟨b,z,l,c,hμ,hv⟩
    ·rw [hμ'] at hμ;cases hμ
    ·rw [hμ] at hμ';cases hμ'
     exact⟨_,_,hv⟩
  ·cases he
 ·cases he
theorem z1257 (h:StRel P base out st μ tmps w) {t:TypeId} {x:Operand} (ho:o.op=.call { callee:=.builtin .len,args:=#[x],argTypes:=#[t] })
  (hs:opLen P st t (st.ev x)=some r):OpOK P base out μ o (st.put o.dst r) tmps w:=by
 have hx:=h.ev x []
 have fin:∀ (n:Nat) a cap e,tslice P t=some e→val tmps x=.slice a n cap→OpOK P base out μ o (st.put o.dst (.d (.int .i64 n))) tmps w:=by
  intro n a cap e ht hv
  refine z47 h (.d (.int _ _)) ?_
  unfold execOp
  simp only [val] at hv
  simp [ho,resolve,invoke,builtin,hv,z1208 ht,goInt]
 unfold opLen at hs
 split at hs
 ·rename_i e ht
  split at hs
  ·rename_i n off len hev
   cases hs
   rw [hev] at hx
   obtain⟨a,cap,hv,_⟩:=z151 hx
   exact fin _ _ _ _ ht hv
  ·rename_i n off len hev
   cases hs
   rw [hev] at hx
   obtain⟨b,cap,_,hv,_⟩:=z874 hx
   exact fin _ _ _ _ ht hv
  ·rename_i n len hev
   cases hs
   rw [hev] at hx
   obtain⟨b,z,c,_,hv,_⟩:=z1201 hx
   exact fin _ _ _ _ ht hv
  ·rename_i n len hev
   cases hs
   rw [hev] at hx
   cases hv:val tmps x <;> simp only [val] at hv <;> rw [hv] at hx <;> cases hx
   exact fin _ _ _ _ ht hv
  ·split at hs
   ·rename_i rows hr
    cases hs
    obtain⟨a,cap,hv,_⟩:=z229 h hx hr
    exact fin _ _ _ _ ht hv
   ·split at hs
    ·rename_i n hn
     cases hs
     obtain⟨a,cap,hv⟩:=z1172 h hx hn
     exact fin _ _ _ _ ht hv
    ·cases hs
 ·cases hs
theorem z686 (h:StRel P base out st μ tmps w) {mx:Bool} {args:Array Operand} {ts:Array TypeId} (ho:o.op=.call { callee:=.builtin (if mx then .max else .min),args:=args,argTypes:=ts })
  (hs:opMinMax mx (args.toList.map st.ev)=some r):OpOK P base out μ o (st.put o.dst r) tmps w:=by
 unfold opMinMax at hs
 split at hs
 ·rename_i k x k' y heq
  cases hs
  obtain⟨l,rfl⟩:∃ l:List Operand,args=l.toArray:=⟨args.toList,by simp⟩
  simp only [List.map_eq_cons_iff] at heq
  obtain⟨a,l1,hl,ha,b,l2,hl2,hb,hl3⟩:=heq
  simp only [List.map_eq_nil_iff] at hl3
  subst hl3
  subst hl2
  have hl':l=[a,b]:=by simpa using hl
  subst hl'
  have h1:=h.ev a [];rw [ha] at h1
  have h2:=h.ev b [];rw [hb] at h2
  refine z47 h (.d (.int k _)) ?_
  unfold execOp
  cases mx <;> simp [ho,resolve,invoke,builtin,z43 h1,z43 h2,run_max_int2,run_min_int2]
 ·cases hs
theorem z74 {len:Nat} {lo hi:Option AV} {l hh:Nat} (hb:boundsOf len lo hi=some (l,hh)):l≤hh∧hh≤len:=by
 unfold boundsOf at hb
 split at hb
 ·rename_i h2 hmid
  have hle:h2≤len:=by
   split at hmid
   ·cases hmid;exact Nat.le_refl _
   ·split at hmid
    ·cases hmid;omega
    ·cases hmid
   ·cases hmid
  split at hb
  ·cases hb;exact⟨Nat.zero_le _,hle⟩
  ·split at hb
   ·cases hb;exact⟨by omega,hle⟩
   ·cases hb
  ·cases hb
 ·cases hb
theorem z324 (isS:Bool) (h:StRel P base out st μ tmps w) {len cap:Nat} (hc:len≤cap) {lo hi:Option Operand} {l hh:Nat} (hb:boundsOf len (lo.map st.ev) (hi.map st.ev)=some (l,hh)) :
  (Instr.sliceBounds isS len cap (lo.map (val tmps)) (hi.map (val tmps)) none).run P w=.ok (l,hh,cap) w:=by
 have key:(hi=none∧hh=len∨∃ x k n,hi=some x∧val tmps x=.int k n∧0≤n∧n≤(cap:Int)∧hh=n.toNat) ∧
   (lo=none∧l=0∨∃ x k n,lo=some x∧val tmps x=.int k n∧0≤n∧n≤(hh:Int)∧l=n.toNat):=by
  unfold boundsOf at hb
  split at hb
  ·rename_i h2 hmid
   have e:hh=h2:=by
    split at hb
    ·cases hb;rfl
    ·split at hb
     ·cases hb;rfl
     ·cases hb
    ·cases hb
   subst e
   constructor
   ·cases hi with
    | none=>simp at hmid;exact .inl ⟨rfl,hmid.symm⟩
    | some x =>
     simp only [Option.map_some] at hmid
     split at hmid
     ·rename_i heq;cases heq
     ·rename_i k n heq
      simp only [Option.some.injEq] at heq
      split at hmid
      ·rename_i hle
       cases hmid
       have hx:=h.ev x []
       rw [heq] at hx
       exact .inr ⟨x,k,n,rfl,z43 hx,hle.1,by omega,rfl⟩
      ·cases hmid
     ·cases hmid
   ·cases lo with
    | none=>simp at hb;exact .inl ⟨rfl,hb.symm⟩
    | some x =>
     simp only [Option.map_some] at hb
     split at hb
     ·rename_i heq;cases heq
     ·rename_i k n heq
      simp only [Option.some.injEq] at heq
      split at hb
      ·rename_i hle
       cases hb
       have hx:=h.ev x []
       rw [heq] at hx
       exact .inr ⟨x,k,n,rfl,z43 hx,hle.1,hle.2,rfl⟩
      ·cases hb
     ·cases hb
  ·cases hb
 obtain⟨h1,h2⟩:=key
 rcases h1 with ⟨rfl,rfl⟩ | ⟨x,k,n,rfl,hv,h0,hn,rfl⟩ <;> rcases h2 with ⟨rfl,rfl⟩ | ⟨y,k',n',rfl,hv',h0',hn',rfl⟩
 ·simp [Instr.sliceBounds]
 ·have:=run_sliceBound (P:=P) w k' n' hh .sliceB h0' hn'
  simp [Instr.sliceBounds,hv',this]
 ·have:=run_sliceBound (P:=P) w k n cap (if isS then .sliceAcap else .sliceAlen) h0 hn
  simp [Instr.sliceBounds,hv,this]
 ·have:=run_sliceBound (P:=P) w k n cap (if isS then .sliceAcap else .sliceAlen) h0 hn
  have h3:=run_sliceBound (P:=P) w k' n' n.toNat .sliceB h0' hn'
  simp [Instr.sliceBounds,hv,hv',this,h3]
theorem z982 (h:StRel P base out st μ tmps w) {len cap:Nat} (hc:len≤cap) {lo hi:Option Operand} {l hh:Nat} (hb:boundsOf len (lo.map st.ev) (hi.map st.ev)=some (l,hh)) :
  (Instr.sliceBounds true len cap (lo.map (val tmps)) (hi.map (val tmps)) none).run P w=.ok (l,hh,cap) w:=z324 true h hc hb
theorem z672 {t e:TypeId} {n:Nat} (hu:P.underlying t=some (.array n e)) (hz:tsz P e=some 1) {b y l hh:Nat} {lo hi:Option Value}
  (hb:(Instr.sliceBounds false n n lo hi none).run P w=.ok (l,hh,n) w) (hl:l<n) :
  (Instr.sliceAt t (.pointer (some ⟨b,y,none⟩)) lo hi none).run P w=.ok (.slice (some ⟨b,y + l,none⟩) (hh - l) (n - l)) w:=by
 have hne:¬ n=l:=by omega
 simp [Instr.sliceAt,run_underlying hu,Instr.sureAddr,hb,z26 hz,hne,Addr.add_lit]
theorem z855 {t e:TypeId} {z:Nat} (ht:tslice P t=some e) (hz:tsz P e=some z) {a:Option Addr} {len cap l hh:Nat} {lo hi:Option Value}
  (hb:(Instr.sliceBounds true len cap lo hi none).run P w=.ok (l,hh,cap) w) :
  (Instr.sliceAt t (.slice a len cap) lo hi none).run P w=.ok (.slice (if cap=l then a else a.map (·.add (l * z))) (hh - l) (cap - l)) w:=by
 simp [Instr.sliceAt,Instr.slice,run_underlying (z12 ht),hb,z26 hz]
theorem z1065 (h:StRel P base out st μ tmps w) {t:TypeId} {x:Operand} {lo hi mx:Option Operand} (ho:o.op=.slice t x lo hi mx)
  (hs:opSlice3 P st t (st.ev x) (lo.map st.ev) (hi.map st.ev) (mx.map st.ev)=some r):OpOK P base out μ o (st.put o.dst r) tmps w:=by
 have hx:=h.ev x []
 unfold opSlice3 at hs
 split at hs
 ·rename_i e n k hh k' mm ht hev hlo hhi hmx
  split at hs
  ·rename_i z e' z' rows hz hn
   split at hs
   ·rename_i hc
    obtain⟨rfl,hpos,rfl,rfl⟩:=hc
    cases hs
    rw [hev] at hx
    have hlo':lo=none:=by cases lo with | none=>rfl | some _=>cases hlo
    subst hlo'
    simp only [Option.map_eq_some_iff] at hhi hmx
    obtain⟨ya,rfl,hya⟩:=hhi
    obtain⟨yb,rfl,hyb⟩:=hmx
    have hav:=h.ev ya []
    have hbv:=h.ev yb []
    rw [hya] at hav
    rw [hyb] at hbv
    have hav:=z43 hav
    have hbv:=z43 hbv
    rcases h.mem.arr hn with ⟨_,h0⟩ | ⟨b,c,cs,hμ,hh',hle,_⟩
    ·rw [h0] at hpos;simp at hpos
    rcases z29 hx with ⟨h0,_⟩ | ⟨b2,z2,l2,c2,hμ2,hxv⟩
    ·rw [hμ] at h0;cases h0
    rw [hμ] at hμ2
    cases hμ2
    refine z47 h (v:=.slice (some ⟨b,0,none⟩) rows.length rows.length) (.view n 0 rows.length rows.length _ (by rw [hμ];rfl) (Nat.le_refl _) (fun hc=>by cases hc) fun _=>⟨b,z',rows.length,c,hμ,by simp,by omega,by omega⟩) ?_
    unfold execOp
    have hne:¬ rows.length=0:=by omega
    simp [ho,hxv,hav,hbv,Instr.sliceAt,Instr.slice,Instr.sliceBounds,Instr.sliceBound,run_underlying (z12 ht),z26 hz,asIntOf,Result.andThen,hle,hne,Addr.add_lit]
   ·cases hs
  ·cases hs
 ·cases hs
theorem z1153 (h:StRel P base out st μ tmps w) {t:TypeId} {x:Operand} {lo hi mx:Option Operand} (ho:o.op=.slice t x lo hi mx)
  (hs:opSlice P st t (st.ev x) (lo.map st.ev) (hi.map st.ev) (mx.map st.ev)=some r):OpOK P base out μ o (st.put o.dst r) tmps w:=by
 have hx:=h.ev x []
 unfold opSlice at hs
 split at hs
 ·rename_i e hmx ht
  have hmx':mx=none:=by cases mx with | none=>rfl | some _=>cases hmx
  subst hmx'
  split at hs
  ·rename_i z hz
   have fin:∀ (a:Option Addr) (len cap l hh:Nat) (r:AV),val tmps x=.slice a len cap→len≤cap→boundsOf len (lo.map st.ev) (hi.map st.ev)=some (l,hh) →
     AVRel w (ownOf out μ) μ r (.slice (if cap=l then a else a.map (·.add (l * z))) (hh - l) (cap - l))→OpOK P base out μ o (st.put o.dst r) tmps w:=by
    intro a len cap l hh r hv hle hb hr
    refine z47 h hr ?_
    have hb':=z982 (P:=P) h hle hb
    have:=z855 (P:=P) (w:=w) ht hz (a:=a) hb'
    unfold execOp
    simp only [val] at hv this
    simp [ho,hv,this]
   split at hs
   ·rename_i hev
    rw [hev] at hx
    split at hs
    ·rename_i lh hb
     cases hs
     obtain⟨l,hh⟩:=lh
     have hsp:=z74 hb
     have hl:l=0:=by omega
     have hhz:hh=0:=by omega
     subst hl;subst hhz
     exact fin none 0 0 0 0 _ (z115 hx) (Nat.le_refl _) hb (by simpa using AVRel.nil)
    ·cases hs
   ·rename_i rows hev
    rw [hev] at hx
    split at hs
    ·rename_i l hh hb hhead
     cases hs
     have hsp:=z74 hb
     rcases z342 hx with ⟨rfl,a,cap,hv,hn⟩ | ⟨b,off,z',cap,hv,hle,hzz,f,hc,hd⟩
     ·simp at hsp
      obtain⟨rfl,rfl⟩:=(by omega:l=0∧hh=0)
      refine fin a 0 cap 0 0 _ hv (Nat.zero_le _) hb ?_
      simp only [Nat.zero_mul,List.drop_nil,List.take_nil,Nat.sub_zero]
      have e1:(if cap=0 then a else a.map fun x:Addr=>x.add 0)=a:=by
       split
       ·rfl
       ·cases a <;> simp [Addr.add]
      rw [e1]
      cases a with
      | none=>have:=hn rfl;subst this;exact .d .slNil
      | some a=>exact .d (.slEmpty a cap)
     ·refine fin _ rows.length cap l hh _ hv hle hb ?_
      by_cases hlen:hh - l=0
      ·rw [hlen]
       simp only [List.take_zero]
       cases hA:(if cap=l then some (⟨b,off,none⟩:Addr) else (some (⟨b,off,none⟩:Addr)).map fun x=>x.add (l * z)) with
       | none=>split at hA <;> simp at hA
       | some a=>exact .d (.slEmpty a _)
      ·have hz':z'=z:=by
        cases hrs:rows with
        | nil=>rw [hrs] at hsp;simp at hsp;omega
        | cons r rs =>
         rw [hrs] at hhead
         simp only [headIs,beq_iff_eq] at hhead
         rw [← hhead]
         exact (hzz r (by simp [hrs])).symm
       subst hz'
       have hcl:¬ cap=l:=by omega
       simp only [hcl,if_false,Option.map_some,Addr.add_lit]
       have hlen2:((rows.drop l).take (hh - l)).length=hh - l:=by simp;omega
       have hget:∀ i r,((rows.drop l).take (hh - l))[i]?=some r→rows[l + i]?=some r:=by
        intro i r hi
        rw [List.getElem?_take] at hi
        split at hi
        ·simpa [List.getElem?_drop] using hi
        ·cases hi
       have key:=DRel.sl (w:=w) (own:=ownOf out μ) ((rows.drop l).take (hh - l)) b (off + l * z') z' (cap - l) (fun i j=>f (l + i) j) (by rw [hlen2];omega)
        (fun r hr=>hzz r (List.mem_of_mem_drop (List.mem_of_mem_take hr)))
        (fun i r j d h1 h2=>by
         have:=hc (l + i) r j d (hget i r h1) h2
         rw [Nat.add_mul,← Nat.add_assoc] at this
         exact this)
        (fun i r j d h1 h2=>hd (l + i) r j d (hget i r h1) h2)
       rw [hlen2] at key
       exact .d key
    ·cases hs
   ·rename_i n hev
    rw [hev] at hx
    split at hs
    ·rename_i e' z' rows hn
     split at hs
     ·rename_i l hh hb
      split at hs
      ·rename_i hzz
       subst hzz
       cases hs
       have hsp:=z74 hb
       rcases h.mem.arr hn with ⟨h0,rfl⟩ | ⟨b',cap',cs,hμ',hhp,hle',_,hsz,hzz,hd⟩
       ·rcases z29 hx with ⟨hμ,hv⟩ | ⟨b,z,l,c,hμ,hv⟩
        ·simp at hsp
         obtain⟨rfl,rfl⟩:=(by omega:l=0∧hh=0)
         exact fin none 0 0 0 0 _ hv (Nat.le_refl _) hb (by simpa using AVRel.view n 0 0 0 none (by simp [hμ]) (Nat.le_refl _) (fun _=>rfl) (fun hc=>absurd hc (Nat.lt_irrefl _)))
        ·rw [h0] at hμ;cases hμ
       ·rcases z29 hx with ⟨hμ,hv⟩ | ⟨b,z,l,c,hμ,hv⟩
        ·rw [hμ'] at hμ;cases hμ
        ·rw [hμ] at hμ';cases hμ'
         refine fin _ _ _ l hh _ hv hle' hb (.view n l (hh - l) _ _ (by simp [hμ]) (by omega) (fun hnn=>?_) (fun hp=>⟨_,_,_,_,hμ,?_,by omega,by omega⟩))
         ·split at hnn <;> simp at hnn
         ·rw [if_neg (by omega)];simp [Addr.add_lit]
      ·cases hs
     ·cases hs
    ·cases hs
   ·rename_i n off len hev
    rw [hev] at hx
    split at hs
    ·rename_i e' z' rows hn
     split at hs
     ·rename_i l hh hb
      split at hs
      ·rename_i hcond
       obtain⟨rfl,hol⟩:=hcond
       cases hs
       have hsp:=z74 hb
       obtain⟨a,cap,hv,hs',hle,hnn,hpos⟩:=z151 hx
       refine fin a len cap l hh _ hv hle hb (.view n (off + l) (hh - l) _ _ hs' (by omega) (fun hnone=>?_) (fun hp=>?_))
       ·cases a with
        | none=>have:=hnn rfl;omega
        | some a=>split at hnone <;> simp at hnone
       ·obtain⟨b,z,l',c,hμ,rfl,h1,h2⟩:=hpos (by omega)
        rcases h.mem.arr hn with ⟨h0,_⟩ | ⟨b',cap',cs,hμ',hhp,hle',_,hsz,hzz,hd⟩
        ·rw [hμ] at h0;cases h0
        rw [hμ] at hμ';cases hμ'
        refine⟨_,_,_,_,hμ,?_,by omega,by omega⟩
        rw [if_neg (by omega)]
        simp [Addr.add_lit,Nat.add_mul]
      ·cases hs
     ·cases hs
    ·cases hs
   ·cases hs
  ·cases hs
 ·exact z1065 h ho hs
 ·rename_i hmx ht
  have hmx':mx=none:=by cases mx with | none=>rfl | some _=>cases hmx
  subst hmx'
  unfold opSliceA at hs
  split at hs
  ·rename_i n hn
   obtain⟨e,hu,hz⟩:=z581 hn
   split at hs
   ·rename_i l hh hb
    split at hs
    ·rename_i hl
     have hsp:=z74 hb
     have fin:∀ (b y:Nat) (r:AV),val tmps x=.pointer (some ⟨b,y,none⟩)→AVRel w (ownOf out μ) μ r (.slice (some ⟨b,y + l,none⟩) (hh - l) (n - l))→OpOK P base out μ o (st.put o.dst r) tmps w:=by
      intro b y r hv hr
      refine z47 h hr ?_
      have hb':=z324 (P:=P) false h (Nat.le_refl _) hb
      have:=z672 (P:=P) (w:=w) hu hz (b:=b) (y:=y) hb' hl
      unfold execOp
      simp only [val] at hv this
      simp [ho,hv,this]
     split at hs
     ·rename_i m off hev
      split at hs
      ·rename_i row hm
       cases hs
       rw [hev] at hx
       obtain⟨b,z,l',c,hμ,hv⟩:=z72 hx
       obtain⟨b2,cs,ty,hμ2,_⟩:=h.mem.box hm
       rw [hμ] at hμ2;cases hμ2
       exact fin b off _ hv (.bsl (off + l) (hh - l) (n - l) hμ (by omega))
      ·cases hs
     ·rename_i row off hev
      split at hs
      ·rename_i hfit
       cases hs
       rw [hev] at hx
       obtain⟨b,q,hv,f,hc,hd⟩:=z202 hx
       refine fin b (q + off) _ hv ?_
       by_cases hlen:hh - l=0
       ·rw [hlen]
        simp only [List.take_zero,List.map_nil]
        exact .d (.slEmpty _ _)
       have hll:(((row.drop (off + l)).take (hh - l)).map fun d=>[d]).length=hh - l:=by simp;omega
       have hget:∀ (i:Nat) r,(((row.drop (off + l)).take (hh - l)).map fun d=>[d])[i]?=some r→∃ d,r=[d]∧row[off + l + i]?=some d:=fun i r hi=>by
        simp only [List.getElem?_map,Option.map_eq_some_iff] at hi
        obtain⟨d,hi,rfl⟩:=hi
        rw [List.getElem?_take] at hi
        split at hi
        ·exact⟨d,rfl,by simpa [List.getElem?_drop] using hi⟩
        ·cases hi
       have key:=DRel.sl (w:=w) (own:=ownOf out μ) (((row.drop (off + l)).take (hh - l)).map fun d=>[d]) b (q + off + l) 1 (n - l) (fun i _=>f (off + l + i)) (by rw [hll];omega)
        (fun r hr=>by obtain⟨d,_,rfl⟩:=List.mem_map.1 hr;rfl)
        (fun i r j d h1 h2=>by
         obtain⟨d',rfl,h3⟩:=hget i r h1
         have hj0:j=0:=by have:=(List.getElem?_eq_some_iff.1 h2).1;simpa using this
         subst hj0
         have:=hc (off + l + i) d' h3
         have e:q + off + l + i * 1 + 0=q + (off + l + i):=by omega
         rw [e];exact this)
        (fun i r j d h1 h2=>by
         obtain⟨d',rfl,h3⟩:=hget i r h1
         have hj0:j=0:=by have:=(List.getElem?_eq_some_iff.1 h2).1;simpa using this
         subst hj0
         have e:d'=d:=by simpa using h2
         subst e
         exact hd (off + l + i) d' h3)
       rw [hll] at key
       exact .d key
      ·cases hs
     ·cases hs
    ·cases hs
   ·cases hs
  ·cases hs
 ·cases hs
end
end Go.Ab
/- Structs built;boxes;stores into boxes: soundness. -/
namespace Go.Ab
open Go.RowKit
theorem z155 (off:Nat):∀ (l:List (Value × Nat)) (k:Nat) (cells:Array Value),(∀ j x i,l[j]?=some (x,i)→i=k + j)→off + k + l.length≤cells.size →
  (l.foldl (fun cs (x:Value × Nat)=>cs.setIfInBounds (off + x.2) x.1) cells).size=cells.size ∧
  ∀ p,(l.foldl (fun cs (x:Value × Nat)=>cs.setIfInBounds (off + x.2) x.1) cells)[p]?=if off + k≤p∧p<off + k + l.length then (l[p - (off + k)]?).map (·.1) else cells[p]?
 | [],k,cells,_,_=>by simp;intro p h1 h2;omega
 | (x,i)::l,k,cells,hi,hl=>by
  have e:i=k:=by simpa using hi 0 x i (by simp)
  subst e
  simp only [List.length_cons] at hl
  have ih:=z155 off l (i + 1) (cells.setIfInBounds (off + i) x) (fun j y a hj=>by have:=hi (j + 1) y a (by simpa using hj);omega) (by simp;omega)
  simp only [List.foldl_cons]
  refine⟨by simpa using ih.1,fun p=>?_⟩
  rw [ih.2 p,Array.getElem?_setIfInBounds]
  simp only [List.length_cons]
  by_cases h1:off + i=p
  ·subst h1
   rw [if_neg (by omega),if_pos rfl,if_pos (by omega),if_pos (by omega)]
   simp
  ·by_cases h2:off + (i + 1)≤p∧p<off + (i + 1) + l.length
   ·rw [if_pos h2,if_pos (by omega)]
    have:p - (off + i)=(p - (off + (i + 1))) + 1:=by omega
    rw [this];simp
   ·rw [if_neg h2,if_neg h1,if_neg (by omega)]
def RowRel (w:World) (own:Own) (μ:Pl) (row:List AV) (vs:Array Value):Prop:=row.length=vs.size∧∀ (i:Nat) x u,row[i]?=some x→vs[i]?=some u→AVRel w own μ x u
theorem z183 {α:Type} {row xs r:List α} {off:Nat} (h:splice row off xs=some r):off + xs.length≤row.length∧r.length=row.length:=by
 unfold splice at h
 split at h
 ·rename_i hle
  cases h
  refine⟨hle,?_⟩
  simp;omega
 ·cases h
theorem z105 {α:Type} {row xs r:List α} {off:Nat} (h:splice row off xs=some r) (p:Nat):r[p]?=if off≤p∧p<off + xs.length then xs[p - off]? else row[p]?:=by
 unfold splice at h
 split at h
 ·rename_i hle
  cases h
  have hlen:(row.take off).length=off:=by simp;omega
  by_cases h1:p<off
  ·rw [if_neg (by omega),List.getElem?_append_left (by omega),List.getElem?_take,if_pos h1]
  ·rw [List.getElem?_append_right (by omega),hlen]
   by_cases h2:p<off + xs.length
   ·rw [if_pos (by omega),List.getElem?_append_left (by omega)]
   ·rw [if_neg (by omega),List.getElem?_append_right (by omega),List.getElem?_drop]
    congr 1
    omega
 ·cases h
section
variable {P:Program} {base:Own} {out:Own} {st st':St} {μ:Pl} {tmps:Array Value} {w:World} {o:Oper}
theorem z562 (vs:Array Value) (j:Nat) (x:Value) (i:Nat) (h:vs.zipIdx.toList[j]?=some (x,i)):i=0 + j:=by
 simp at h
 omega
theorem z432 (vs:Array Value) (j:Nat):(vs.zipIdx.toList[j]?).map (·.1)=vs[j]?:=by
 simp only [Array.getElem?_toList,Array.getElem?_zipIdx,Option.map_map]
 cases vs[j]? <;> rfl
theorem z556 {own:Own} {fs:List (Nat × Nat × Bool)}:∀ (ps:List (Nat × AV)) (vs:List (Nat × Value)) (row:List AV) (cells:Array Value) (r:List AV),
  ps.length=vs.length→(∀ (i:Nat) a x b v,ps[i]?=some (a,x)→vs[i]?=some (b,v)→a=b∧AVRel w own μ x v)→RowRel w own μ row cells→fillA fs row ps=some r →
  ∃ cs,Instr.fill (fun i=>(fs.map fun f=>(f.1,f.2.1)).toArray[i]?) cells vs=some cs∧RowRel w own μ r cs
 | [],vs,row,cells,r,hl,_,hr,hf=>by
  have:vs=[]:=List.eq_nil_of_length_eq_zero hl.symm
  subst this
  simp only [fillA,Option.some.injEq] at hf
  subst hf
  exact⟨cells,rfl,hr⟩
 | (a,x)::ps,vs,row,cells,r,hl,hp,hr,hf=>by
  match vs,hl with
  | (b,v)::vs,hl =>
  obtain⟨rfl,hxv⟩:=hp 0 a x b v (by simp) (by simp)
  simp only [fillA] at hf
  split at hf
  ·rename_i off size g xs h1 h2
   split at hf
   ·rename_i hxl
    split at hf
    ·rename_i cs hsp
     obtain⟨hvs,hd,_⟩:=z23 hxv h2
     have hsl:=z183 hsp
     have hfold:=z155 off v.cells.zipIdx.toList 0 cells (fun j y i h=>z562 v.cells j y i h) (by simp;rw [hvs,← hr.1];omega)
     have hnew:RowRel w own μ cs (v.cells.zipIdx.foldl (fun cs (x:Value × Nat)=>cs.setIfInBounds (off + x.2) x.1) cells):=by
      rw [← Array.foldl_toList]
      refine⟨by rw [hfold.1,hsl.2];exact hr.1,fun p y u hy hu=>?_⟩
      rw [hfold.2 p] at hu
      rw [z105 hsp p] at hy
      have hzl:v.cells.zipIdx.toList.length=xs.length:=by simp [hvs]
      rw [hzl] at hu
      simp only [Nat.add_zero] at hu
      by_cases hin:off≤p∧p<off + xs.length
      ·rw [if_pos hin] at hy hu
       refine hd (p - off) y u hy ?_
       rw [← z432]
       exact hu
      ·rw [if_neg hin] at hy hu
       exact hr.2 p y u hy hu
     obtain⟨cs',hf',hr'⟩:=z556 ps vs cs _ r (by simpa using hl) (fun i a' x' b' v' h3 h4=>hp (i + 1) a' x' b' v' (by simpa using h3) (by simpa using h4)) hnew hf
     refine⟨cs',?_,hr'⟩
     have hplace:(fs.map fun f=>(f.1,f.2.1)).toArray[a]?=some (off,size):=by simp [h1]
     have hsz:¬ ((v.cells.size≠size || off + v.cells.size > cells.size)=true):=by
      rw [hvs,← hr.1];simp;omega
     unfold Instr.fill
     simp only [hplace]
     rw [if_neg hsz]
     exact hf'
    ·cases hf
   ·cases hf
  ·cases hf
end
end Go.Ab
/- Structs,boxes,stores: soundness of the operations. -/
namespace Go.Ab
open Go.RowKit
section
variable {P:Program} {base:Own} {out:Own} {r:AV} {st st':St} {μ:Pl} {tmps:Array Value} {w:World} {o:Oper}
theorem z330:∀ (ds:List Field) (fs:List (Nat × Nat × Bool)),(ds.mapM fun f=>match tsz P f.type,tagg P f.type with
   | some s,some a=>some (f.offset,s,a)
   | _,_=>none)=some fs→ds.mapM (fun f=>(P.info? f.type).map fun i=>(f.offset,i.size))=some (fs.map fun f=>(f.1,f.2.1))
 | [],fs,h=>by simp at h;subst h;simp
 | d::ds,fs,h=>by
  simp only [List.mapM_cons,Option.bind_eq_bind,Option.pure_def,Option.bind_eq_some_iff] at h
  obtain⟨b,hb,r,hr,h⟩:=h
  cases h
  have ih:=z330 ds r hr
  split at hb
  ·rename_i s a h1 h2
   cases hb
   unfold tsz at h1
   rw [Option.map_eq_some_iff] at h1
   obtain⟨i,hi,rfl⟩:=h1
   simp [List.mapM_cons,hi,ih]
  ·cases hb
theorem z127 {t:TypeId} {v:Value} (h:tzero P t=some v):∃ i,P.info? t=some i∧i.zero=some v:=by
 unfold tzero at h
 split at h
 ·rename_i i hi;exact⟨i,hi,h⟩
 ·cases h
theorem z1158 (h:StRel P base out st μ tmps w) {t:TypeId} {parts:Array (Nat × Operand)} (ho:o.op=.build t parts)
  (hs:opBuild P t (parts.toList.map fun p=>(p.1,st.ev p.2))=some r):OpOK P base out μ o (st.put o.dst r) tmps w:=by
 unfold opBuild at hs
 split at hs
 ·rename_i fs z hfs hz
  split at hs
  ·rename_i zs hzs
   split at hs
   ·rename_i cs hf
    cases hs
    have hrow:RowRel w (ownOf out μ) μ zs z.cells:=by
     obtain⟨h1,h2,_⟩:=z23 (z61 w (ownOf out μ) μ z) hzs
     exact⟨h1.symm,h2⟩
    obtain⟨vs,hfill,hr⟩:=z556 (w:=w) (μ:=μ) (own:=ownOf out μ) _ (parts.toList.map fun p=>(p.1,val tmps p.2)) zs z.cells cs (by simp)
     (fun i a x b v h1 h2=>by
      simp only [List.getElem?_map,Option.map_eq_some_iff,Prod.mk.injEq] at h1 h2
      obtain⟨p,hp,rfl,rfl⟩:=h1
      obtain⟨q,hq,rfl,rfl⟩:=h2
      rw [hp] at hq;cases hq
      exact⟨rfl,h.ev _ []⟩) hrow hf
    have hbuilt:P.built t (parts.toList.map fun p=>(p.1,val tmps p.2))=some vs:=by
     unfold tfields at hfs
     split at hfs
     ·rename_i ds hds
      obtain⟨i,hi,hiz⟩:=z127 hz
      unfold Program.built
      rw [hi,hds]
      simp only [hiz,z330 _ _ hfs]
      exact hfill
     ·cases hfs
    refine z47 h (v:=.agg vs) (.agg cs vs hr.1 hr.2) ?_
    unfold execOp
    have:=run_build (P:=P) w t (parts.map fun p=>(p.1,val tmps p.2)) vs (by simpa using hbuilt)
    simp only [val] at this
    simp [ho,this]
   ·cases hs
  ·cases hs
 ·cases hs
theorem z1116 (h:StRel P base out st μ tmps w) {d:Nat} (hd:st.fresh d=true) {row:List AV} {cs:Array Value} {ty:TypeId} (hl:cs.size=row.length)
  (hr:∀ (i:Nat) y u,row[i]?=some y→cs[i]?=some u→AVRel w (ownOf out μ) μ y u) (h1:∀ y ∈ row,y.one=true) :
  ∃ μ',StRel P base out (st.addBlk d (.box d 0) (.box row)) μ' (tmps.setIfInBounds d (.pointer (some ⟨w.heap.size,0,none⟩))) (w.alloc (.cells cs ty))∧KeepO base (ownOf out μ) w (ownOf out μ') (w.alloc (.cells cs ty)):=by
 have hB:Below w.heap.size w (w.alloc (.cells cs ty)):=(Below.refl _ _).alloc (Nat.le_refl _) _
 have hf:=z19 hd
 have hnp:=z113 h.mem hf
 have hg:Goes w (ownOf out μ) (w.alloc (.cells cs ty)) (ownOf out (μ.upd d (some (.at w.heap.size 0 1 1)))):=fun b o v hb hc=>by
  have hlt:=hc.lt
  refine⟨?_,(z83 (ownOf out μ) hB b o v hb hc).2⟩
  rintro (h2 | ⟨n,z,l,c,h2⟩)
  ·exact hb (.inl h2)
  ·by_cases hn:n=d
   ·subst hn;rw [Pl.upd_same] at h2;cases h2;omega
   ·rw [Pl.upd_ne μ _ hn] at h2;exact hb (.inr ⟨n,z,l,c,h2⟩)
 refine⟨_,h.add hB hf (.at w.heap.size 0 1 1) (fun b z l c e=>by cases e;simp) ?_ (.box 0 (Pl.upd_same μ d _)),h.keep_add hB hf _ (fun b z l c e=>by cases e;simp)⟩
 refine⟨w.heap.size,cs,ty,Pl.upd_same μ d _,heap_alloc_new w _,Nat.le_of_eq hl.symm,fun j x v hx hv=>?_⟩
 refine⟨(hr j x v hx hv).oneCell (h1 x (List.mem_of_getElem? hx)),(hr j x v hx hv).goes hg (fun n _ hs=>Pl.upd_ne μ _ (fun e=>by subst e;rw [hnp] at hs;cases hs))⟩
theorem z233 {dst:Option Tmp} {b:Option Blk} (h:addN st dst b=some st'):∃ d k,dst=some d∧b=some k∧st.fresh d=true∧st'=st.addBlk d (nameOf d k) k:=by
 unfold addN at h
 split at h
 ·rename_i d k
  split at h
  ·rename_i hf
   cases h
   exact⟨d,k,rfl,rfl,hf,rfl⟩
  ·cases h
 ·cases h
theorem z1258 (h:StRel P base out st μ tmps w) {e:TypeId} {x:Operand} (ho:o.op=.box e x) (hs:addN st o.dst (opBox (st.ev x))=some st'):OpOK P base out μ o st' tmps w:=by
 have hx:=h.ev x []
 obtain⟨d,k,hd,hk,hf,rfl⟩:=z233 hs
 unfold opBox at hk
 split at hk
 ·rename_i row hc
  cases hk
  obtain⟨h1,h2,h3⟩:=z23 hx hc
  obtain⟨μ',hst,hB⟩:=z1116 h hf (ty:=e) h1 h2 h3
  refine⟨.value (.pointer (some ⟨w.heap.size,0,none⟩)),_,_,μ',fun ds=>?_,.inl rfl,by rw [hd];exact hst,hB⟩
  unfold execOp
  rw [z22]
  simp [ho,Instr.box,newVar,newRow]
 ·cases hk
theorem z1159 (h:StRel P base out st μ tmps w) {e:TypeId} (ho:o.op=.alloc e) (hs:addN st o.dst (opAlloc P e)=some st'):OpOK P base out μ o st' tmps w:=by
 obtain⟨d,k,hd,hk,hf,rfl⟩:=z233 hs
 unfold opAlloc at hk
 split at hk
 ·rename_i z hz
  split at hk
  ·rename_i row hc
   cases hk
   obtain⟨h1,h2,h3⟩:=z23 (z61 w (ownOf out μ) μ z) hc
   obtain⟨μ',hst,hB⟩:=z1116 h hf (ty:=e) h1 h2 h3
   refine⟨.value (.pointer (some ⟨w.heap.size,0,none⟩)),_,_,μ',fun ds=>?_,.inl rfl,by rw [hd];exact hst,hB⟩
   unfold execOp
   simp [ho,Instr.alloc,newVar,newRow,z184 hz]
  ·cases hk
 ·cases hk
theorem z170 {t:TypeId} {size:Nat} (hs:tsz P t=some size) {g off:Nat} {ty:TypeId} {cur:Array Value} (hg:w.heap[g]?=some (.cells cur ty (0,0))) {v:Value} (hv:v.cells.size=size)
  (hl:off + size≤cur.size) (h1:∀ u ∈ v.cells.toList,u.oneCell'=true) :
  (storeVar t ⟨g,off,none⟩ v).run P w=.ok () (w.setRow g (cur.toList.take off++v.cells.toList++cur.toList.drop (off + size)).toArray):=by
 have:=run_storeCells_at P g off ty v.cells.toList 0 cur w hg (by simp [hv];exact hl) h1
 simp only [Nat.add_zero,Array.length_toList,hv] at this
 simp [storeVar,z26 hs,hv,this]
theorem z30 {g:Nat} {cs:Array Value}:Wrote g w (w.setRow g cs):=⟨rfl,rfl,rfl,by simp [World.setRow],fun k hk=>setRow_other w g k cs hk⟩
theorem z249 (cur:List Value) (xs:List Value) (off:Nat) (hl:off + xs.length≤cur.length) (p:Nat) :
  (cur.take off++xs++cur.drop (off + xs.length))[p]?=if off≤p∧p<off + xs.length then xs[p - off]? else cur[p]?:=by
 have:=z105 (row:=cur) (xs:=xs) (off:=off) (r:=cur.take off++(xs++cur.drop (off + xs.length))) (by simp [splice,hl]) p
 rw [List.append_assoc]
 exact this
theorem z684 (h:StRel P base out st μ tmps w) {t:TypeId} {size:Nat} (hsz:tsz P t=some size) {x:Operand} {cs:List AV} (hc:(st.ev x).cells=some cs) (hcl:cs.length=size)
  {n off:Nat} {row row':List AV} (hn:st.m[n]?=some (some (.box row))) (hsp:splice row off cs=some row') {v:Value} (hv:AVRel w (ownOf out μ) μ (.box n off) v) :
  ∃ w',(Instr.storeAt t v (val tmps x)).run P w=.ok () w'∧StRel P base out { st with m:=st.m.set n (some (.box row')) } μ tmps w'∧KeepO base (ownOf out μ) w (ownOf out μ) w':=by
 have hx:=h.ev x []
 obtain⟨h1,h2,h3⟩:=z23 hx hc
 obtain⟨b,z,l,c,hμ,rfl⟩:=z72 hv
 obtain⟨b',cur,ty,hμ',hh,hrl,hd⟩:=h.mem.box hn
 rw [hμ] at hμ';cases hμ'
 have hle:=z183 hsp
 have hone:∀ u ∈ (val tmps x).cells.toList,u.oneCell'=true:=by
  intro u hu
  obtain⟨i,hi⟩:=List.mem_iff_getElem?.1 hu
  rw [Array.getElem?_toList] at hi
  have hlt:i<cs.length:=by rw [← h1];exact (Array.getElem?_eq_some_iff.1 hi).1
  exact (h2 i cs[i] u (by simp [hlt]) hi).oneCell (h3 _ (by simp))
 have hst:=z170 (P:=P) (w:=w) hsz hh (v:=val tmps x) (off:=off) (by rw [h1,hcl]) (by rw [← hcl];exact Nat.le_trans hle.1 hrl) hone
 have hW:Wrote b w (w.setRow b (cur.toList.take off++(val tmps x).cells.toList++cur.toList.drop (off + size)).toArray):=z30
 refine⟨_,by simp [Instr.storeAt,Instr.sureAddr,hst],h.write hμ hW ?_,hW.keepO hh (h.mem.base n b _ _ _ hμ).1 (.inr ⟨n,_,_,_,hμ⟩)⟩
 have hg:=hW.goes (own:=ownOf out μ) (.inr ⟨n,_,_,_,hμ⟩)
 have hsz':(val tmps x).cells.toList.length=size:=by simp [h1,hcl]
 have hcurl:row.length≤cur.toList.length:=by simp [hrl]
 have hcur2:cur.toList.length=cur.size:=by simp
 refine⟨b,_,ty,hμ,setRow_heap w b cur _ ty _ hh,?_,fun j y u hy hu=>?_⟩
 ·simp only [List.size_toArray,List.length_append,List.length_take,List.length_drop,hsz',hle.2]
  have:=hle.1
  omega
 ·rw [z105 hsp j] at hy
  have hu':(cur.toList.take off++(val tmps x).cells.toList++cur.toList.drop (off + size))[j]?=some u:=by simpa using hu
  rw [← hsz',z249 _ _ _ (by rw [hsz',← hcl];exact Nat.le_trans hle.1 hcurl)] at hu'
  rw [hsz',← hcl] at hu'
  by_cases hin:off≤j∧j<off + cs.length
  ·rw [if_pos hin] at hy hu'
   rw [Array.getElem?_toList] at hu'
   have:=h2 (j - off) y u hy hu'
   exact⟨this.oneCell (h3 y (List.mem_of_getElem? hy)),this.goes hg (fun _ _ _=>rfl)⟩
  ·rw [if_neg hin] at hy hu'
   rw [Array.getElem?_toList] at hu'
   have:=hd j y u hy hu'
   exact⟨this.1,this.2.goes hg (fun _ _ _=>rfl)⟩
end
end Go.Ab
/- Arrays of the call's own: stores,literals,make,append: soundness. -/
namespace Go.Ab
open Go.RowKit
section
variable {P:Program} {base:Own} {out:Own} {st st':St} {μ:Pl} {tmps:Array Value} {w:World} {o:Oper}
theorem z859 (n:Nat) (st:St) (k:Nat) (hk:k≠n) {e z:Nat} {rows:List (List DV)} (h:st.m[k]?=some (some (.arr e z rows))):(st.release n).m[k]?=some (some (.arr e z rows)):=by
 unfold St.release
 split
 ·simp only [z24,List.getElem?_set_ne (Ne.symm hk),h,Option.map_some,Blk.sub]
 ·exact h
theorem z674 (n:Nat) (st:St) (k:Nat) (h:st.m[k]?=some none):(st.release n).m[k]?=some none:=by
 unfold St.release
 split
 ·simp only [z24]
  by_cases hk:n=k
  ·subst hk
   have:n<st.m.length:=(List.getElem?_eq_some_iff.1 h).1
   simp [this]
  ·simp [List.getElem?_set_ne hk,h]
 ·exact h
theorem z281 (n:Nat) (st:St):∀ b,(st.release n).m[n]?≠some (some b):=by
 intro b hb
 unfold St.release at hb
 split at hb
 ·rename_i b' hb'
  simp only [z24] at hb
  have:n<st.m.length:=(List.getElem?_eq_some_iff.1 hb').1
  simp [this] at hb
 ·rename_i h;exact h b hb
theorem z40:∀ (l:List Nat) (st:St) (μ:Pl),StRel P base out st μ tmps w→∃ μ',StRel P base out (releaseAll l st) μ' tmps w∧(∀ k,k ∉ l→μ' k=μ k)∧(∀ k,(μ' k).isSome→μ' k=μ k) ∧
  (∀ b,ownOf out μ' b→ownOf out μ b)∧(∀ k,k ∈ l→(∃ b,st.m[k]?=some (some b))→μ' k=none)
 | [],st,μ,h=>⟨μ,h,fun _ _=>rfl,fun _ _=>rfl,fun _ hb=>hb,fun k hk=>by simp at hk⟩
 | n::l,st,μ,h=>by
  obtain⟨μ1,h1,hk1,ho1,hn1⟩:=h.release n
  obtain⟨μ2,h2,hk2,hs2,ho2,hn2⟩:=z40 l (st.release n) μ1 h1
  have hμ1:∀ k,(μ1 k).isSome→μ1 k=μ k:=by
   intro k hk
   by_cases hkn:k=n
   ·subst hkn
    obtain⟨b,hb⟩:=h1.mem.dom k hk
    exact absurd hb (z281 k st b)
   ·exact hk1 k hkn
  refine⟨μ2,h2,fun k hk=>?_,fun k hk=>?_,fun b hb=>ho1 b (ho2 b hb),fun k hk hb=>?_⟩
  ·simp only [List.mem_cons,not_or] at hk
   rw [hk2 k hk.2,hk1 k hk.1]
  ·have e:=hs2 k hk
   rw [e] at hk ⊢
   exact hμ1 k hk
  ·obtain⟨b,hb⟩:=hb
   cases hμ2:μ2 k with
   | none=>rfl
   | some L =>
    have e:=hs2 k (by simp [hμ2])
    rw [hμ2] at e
    obtain⟨b2,hb2⟩:=h1.mem.dom k (by rw [← e];rfl)
    have hkn:k≠n:=fun e'=>by subst e';exact z281 k st b2 hb2
    have hkl:k ∈ l:=by
     rcases List.mem_cons.1 hk with h' | h'
     ·exact absurd h' hkn
     ·exact h'
    have:=hn2 k hkl ⟨b2,hb2⟩
    rw [hμ2] at this
    cases this
theorem z194:∀ (l:List Nat) (st:St) (k:Nat),k ∉ l→∀ {e z:Nat} {rows:List (List DV)},st.m[k]?=some (some (.arr e z rows))→(releaseAll l st).m[k]?=some (some (.arr e z rows))
 | [],_,_,_,_,_,_,h=>h
 | n::l,st,k,hk,_,_,_,h=>by
  simp only [List.mem_cons,not_or] at hk
  exact z194 l (st.release n) k hk.2 (z859 n st k hk.1 h)
theorem z112:∀ (l:List Nat) (st:St) (k:Nat),st.m[k]?=some none→(releaseAll l st).m[k]?=some none
 | [],_,_,h=>h
 | n::l,st,k,h=>z112 l (st.release n) k (z674 n st k h)
theorem z460:∀ {row:List AV} {ds:List DV},allSome (row.map leafD)=some ds→AV.refs.AV.refss row=[]
 | [],_,_=>rfl
 | x::row,ds,h=>by
  cases x <;> simp only [List.map_cons,leafD,allSome,reduceCtorEq,Option.map_eq_some_iff] at h
  obtain⟨ds',h1,_⟩:=h
  simp [AV.refs.AV.refss,AV.refs,z460 h1]
theorem z747 {l:List Nat} (h:st.arrs l=true):∀ n ∈ l,(∃ e z rows,st.m[n]?=some (some (.arr e z rows)))∨(∃ row,st.m[n]?=some (some (.box row))∧AV.refs.AV.refss row=[])∨∃ kk es c,st.m[n]?=some (some (.mp kk es c)):=by
 induction l with
 | nil=>intro n hn;simp at hn
 | cons a l ih =>
  intro n hn
  simp only [St.arrs,Bool.and_eq_true] at h
  rcases List.mem_cons.1 hn with rfl | hn
  ·have h1:=h.1
   split at h1
   ·rename_i e z rows hm;exact .inl ⟨e,z,rows,hm⟩
   ·rename_i row hm
    obtain⟨ds,hds⟩:=Option.isSome_iff_exists.1 h1
    exact .inr (.inl ⟨row,hm,z460 hds⟩)
   ·rename_i kk es c hm;exact .inr (.inr ⟨kk,es,c,hm⟩)
   ·cases h1
  ·exact ih h.2 n hn
theorem z294 (h:StRel P base out st μ tmps w) {l:List Nat} (hl:st.arrs l=true):∃ μ',StRel P base out (releaseAll l st) μ' tmps w∧(∀ k,k ∉ l→μ' k=μ k)∧(∀ b,ownOf out μ' b→ownOf out μ b) ∧
  ∀ (f:Nat) (x:AV) (v:Value) (d:DV),AVRel w (ownOf out μ) μ x v→reify st.m f x=some d→(∀ n ∈ x.refs,n ∈ l)→DRel w (ownOf out μ') d v:=by
 obtain⟨μ',h1,h2,h3,h4,h5⟩:=z40 l st μ h
 refine⟨μ',h1,h2,h4,fun f x v d hx hr hn=>?_⟩
 refine z39 h.mem (ownOf out μ') h4 (· ∈ l) (fun n b z len c hnl hμ hc=>?_) f x v d hx hr hn (.inl fun n row hnl hrow k hk=>by
  rcases z747 hl n hnl with ⟨e,z,rows,hm⟩ | ⟨row',hm,hre⟩ | ⟨kk,es,c,hm⟩
  ·rw [hm] at hrow;cases hrow
  ·rw [hm] at hrow;cases hrow;rw [hre] at hk;cases hk
  ·rw [hm] at hrow;cases hrow)
 rcases hc with hc | ⟨k,z',l',c',hk⟩
 ·exact (h.mem.base n b z len c hμ).2.2 hc
 ·have e:=h3 k (by simp [hk])
  rw [hk] at e
  have hkn:=h.mem.inj k n b _ _ _ _ _ _ e.symm hμ
  subst hkn
  have hex:∃ b,st.m[k]?=some (some b):=by
   rcases z747 hl k hnl with ⟨e',z'',rows,hm⟩ | ⟨row,hm,_⟩ | ⟨kk,es,c,hm⟩
   ·exact⟨_,hm⟩
   ·exact⟨_,hm⟩
   ·exact⟨_,hm⟩
  rw [h5 k hnl hex] at hk
  cases hk
theorem z191 {x:AV} {cs:List AV} (hc:x.cells=some cs) {y:AV} (hy:y ∈ cs):∀ n ∈ y.refs,n ∈ x.refs:=by
 unfold AV.cells at hc
 split at hc
 ·split at hc
  ·cases hc
   intro n hn
   obtain⟨i,hi⟩:=List.mem_iff_getElem?.1 hy
   simpa [AV.refs] using AV.refss_get hi hn
  ·cases hc
 ·split at hc
  ·cases hc
   intro n hn
   simp at hy
   obtain⟨d,_,rfl⟩:=hy
   simp [AV.refs] at hn
  ·cases hc
 ·split at hc
  ·cases hc
   simp at hy
   subst hy
   exact fun n hn=>hn
  ·cases hc
theorem z685 (h:StRel P base out st μ tmps w) {t:TypeId} {size:Nat} (hsz:tsz P t=some size) {x:Operand} {cs:List AV} (hc:(st.ev x).cells=some cs) (hcl:cs.length=size)
  {n i off e z:Nat} {rows:List (List DV)} {r r':List DV} {ds:List DV} (hn:st.m[n]?=some (some (.arr e z rows))) (hi:rows[i]?=some r) (hds:allSome (cs.map (reify st.m deep))=some ds)
  (hsp:splice r off ds=some r') (hl:st.arrs (st.ev x).refs=true) (hnx:n ∉ (st.ev x).refs) {v:Value} (hv:AVRel w (ownOf out μ) μ (.elem n i off) v) :
  ∃ w' μ',(Instr.storeAt t v (val tmps x)).run P w=.ok () w' ∧
   StRel P base out { (releaseAll (st.ev x).refs st) with m:=(releaseAll (st.ev x).refs st).m.set n (some (.arr e z (rows.set i r'))) } μ' tmps w'∧KeepO base (ownOf out μ) w (ownOf out μ') w':=by
 have hx:=h.ev x []
 obtain⟨h1,h2,h3⟩:=z23 hx hc
 obtain⟨b,z0,l0,c0,hμ,rfl⟩:=z152 hv
 obtain⟨μ',hst',hkeep,hless,hdeep⟩:=z294 h hl
 rcases h.mem.arr hn with ⟨h0,rfl⟩ | ⟨b',cap,cur,hμ',hh,hle',hcm,hrl,hzz,hd⟩
 ·simp at hi
 rw [hμ] at hμ';cases hμ'
 have hμn:μ' n=some (.at b z rows.length c0):=by rw [hkeep n hnx];exact hμ
 have hle:=z183 hsp
 have hdl:=(z15 hds)
 have hdsl:ds.length=size:=by rw [← hdl.1];simpa using hcl
 have hrz:r.length=z:=hzz r (List.mem_of_getElem? hi)
 have hil:i<rows.length:=(List.getElem?_eq_some_iff.1 hi).1
 have hone:∀ u ∈ (val tmps x).cells.toList,u.oneCell'=true:=by
  intro u hu
  obtain⟨i,hi⟩:=List.mem_iff_getElem?.1 hu
  rw [Array.getElem?_toList] at hi
  have hlt:i<cs.length:=by rw [← h1];exact (Array.getElem?_eq_some_iff.1 hi).1
  exact (h2 i cs[i] u (by simp [hlt]) hi).oneCell (h3 _ (by simp))
 have hbig:(i + 1) * z≤c0 * z:=Nat.mul_le_mul_right z (by omega)
 have hspan:i * z + off + size≤cur.size:=by rw [hrl];rw [Nat.add_mul] at hbig;have:=hle.1;omega
 have hst:=z170 (P:=P) (w:=w) hsz hh (v:=val tmps x) (off:=i * z + off) (by rw [h1,hcl]) hspan hone
 have hW:Wrote b w (w.setRow b (cur.toList.take (i * z + off)++(val tmps x).cells.toList++cur.toList.drop (i * z + off + size)).toArray):=z30
 refine⟨_,μ',by simp [Instr.storeAt,Instr.sureAddr,hst],hst'.write hμn hW ?_,(KeepO.less hless).trans (hW.keepO hh (h.mem.base n b _ _ _ hμ).1 (.inr ⟨n,_,_,_,hμn⟩))⟩
 have hg:=hW.goes (own:=ownOf out μ') (.inr ⟨n,_,_,_,hμn⟩)
 have hsz':(val tmps x).cells.toList.length=size:=by simp [h1,hcl]
 rcases hst'.mem.arr (z194 _ st n hnx hn) with ⟨h0,_⟩ | ⟨b2,cap2,cur2,hμ2,hh2,_,_,_,_,hdd⟩
 ·rw [hμn] at h0;cases h0
 rw [hμn] at hμ2;cases hμ2
 rw [hh] at hh2;cases hh2
 refine .inr ⟨b,c0,_,by simpa using hμn,setRow_heap w b cur _ e _ hh,by simpa using hle',hcm,?_,fun q hq=>?_,fun i' q j d hq hd'=>?_⟩
 ·simp only [List.size_toArray,List.length_append,List.length_take,List.length_drop,hsz',Array.length_toList]
  omega
 ·rcases List.mem_or_eq_of_mem_set hq with hq | rfl
  ·exact hzz q hq
  ·rw [hle.2];exact hrz
 ·rw [List.getElem?_set] at hq
  have hql:q.length=z:=by
   by_cases hii:i=i'
   ·subst hii;rw [if_pos rfl,if_pos hil] at hq;cases hq;rw [hle.2];exact hrz
   ·rw [if_neg hii] at hq;exact hzz q (List.mem_of_getElem? hq)
  have hjz:j<z:=by rw [← hql];exact (List.getElem?_eq_some_iff.1 hd').1
  have hpos:(cur.toList.take (i * z + off)++(val tmps x).cells.toList++cur.toList.drop (i * z + off + size)).toArray[i' * z + j]? =
    if i * z + off≤i' * z + j∧i' * z + j<i * z + off + size then (val tmps x).cells[i' * z + j - (i * z + off)]? else cur[i' * z + j]?:=by
   have:=z249 cur.toList (val tmps x).cells.toList (i * z + off) (by rw [hsz'];simpa using hspan) (i' * z + j)
   rw [hsz'] at this
   simpa using this
  rw [hpos]
  by_cases hii:i=i'
  ·subst hii
   rw [if_pos rfl,if_pos hil] at hq
   cases hq
   rw [z105 hsp j] at hd'
   rw [hdsl] at hd'
   by_cases hin:off≤j∧j<off + size
   ·rw [if_pos hin] at hd'
    rw [if_pos (by omega)]
    have hsub:i * z + j - (i * z + off)=j - off:=by omega
    rw [hsub]
    have h4:=hdl.2 _ _ hd'
    simp only [List.getElem?_map,Option.map_eq_some_iff] at h4
    obtain⟨y,hy,hry⟩:=h4
    have hlt:j - off<(val tmps x).cells.size:=by rw [h1];exact (List.getElem?_eq_some_iff.1 hy).1
    have hu:=h2 (j - off) y (val tmps x).cells[j - off] hy (by simp [hlt])
    have hym:y ∈ cs:=List.mem_of_getElem? hy
    refine⟨_,by simp [hlt],hu.oneCell (h3 y hym),?_⟩
    exact (hdeep deep y _ d hu hry (z191 hc hym)).goes hg
   ·rw [if_neg hin] at hd'
    rw [if_neg (by omega)]
    obtain⟨u,p1,p2,p3⟩:=hdd i r j d hi hd'
    exact⟨u,p1,p2,p3.goes hg⟩
  ·rw [if_neg hii] at hq
   have hne:¬ (i * z + off≤i' * z + j∧i' * z + j<i * z + off + size):=by
    rintro⟨ha,hb⟩
    have hsl:off + size≤z:=by have:=hle.1;omega
    rcases Nat.lt_or_gt_of_ne hii with hlt | hlt
    ·have:(i + 1) * z≤i' * z:=Nat.mul_le_mul_right z hlt
     rw [Nat.add_mul] at this
     omega
    ·have:(i' + 1) * z≤i * z:=Nat.mul_le_mul_right z hlt
     rw [Nat.add_mul] at this
     omega
   rw [if_neg hne]
   obtain⟨u,p1,p2,p3⟩:=hdd i' q j d hq hd'
   exact⟨u,p1,p2,p3.goes hg⟩
theorem z540 (h:StRel P base out st μ tmps w) {t:TypeId} {size:Nat} (hsz:tsz P t=some size) {x:Operand} {cs:List AV} (hc:(st.ev x).cells=some cs) (hcl:cs.length=size)
  {n i off e z:Nat} {rows:List (List AV)} {r r':List AV} (hn:st.m[n]?=some (some (.arrA e z rows))) (hi:rows[i]?=some r)
  (hsp:splice r off cs=some r') {v:Value} (hv:AVRel w (ownOf out μ) μ (.elem n i off) v) :
  ∃ w',(Instr.storeAt t v (val tmps x)).run P w=.ok () w'∧StRel P base out { st with m:=st.m.set n (some (.arrA e z (rows.set i r'))) } μ tmps w'∧KeepO base (ownOf out μ) w (ownOf out μ) w':=by
 have hx:=h.ev x []
 obtain⟨h1,h2,h3⟩:=z23 hx hc
 obtain⟨b,z0,l0,c0,hμ,rfl⟩:=z152 hv
 rcases h.mem.arrA hn with ⟨h0,rfl⟩ | ⟨b',cap,cur,hμ',hh,hle',hcm,hrl,hzz,hd⟩
 ·simp at hi
 rw [hμ] at hμ';cases hμ'
 have hle:=z183 hsp
 have hrz:r.length=z:=hzz r (List.mem_of_getElem? hi)
 have hil:i<rows.length:=(List.getElem?_eq_some_iff.1 hi).1
 have hone:∀ u ∈ (val tmps x).cells.toList,u.oneCell'=true:=by
  intro u hu
  obtain⟨i,hi⟩:=List.mem_iff_getElem?.1 hu
  rw [Array.getElem?_toList] at hi
  have hlt:i<cs.length:=by rw [← h1];exact (Array.getElem?_eq_some_iff.1 hi).1
  exact (h2 i cs[i] u (by simp [hlt]) hi).oneCell (h3 _ (by simp))
 have hbig:(i + 1) * z≤c0 * z:=Nat.mul_le_mul_right z (by omega)
 have hspan:i * z + off + size≤cur.size:=by rw [hrl];rw [Nat.add_mul] at hbig;have:=hle.1;omega
 have hst:=z170 (P:=P) (w:=w) hsz hh (v:=val tmps x) (off:=i * z + off) (by rw [h1,hcl]) hspan hone
 have hW:Wrote b w (w.setRow b (cur.toList.take (i * z + off)++(val tmps x).cells.toList++cur.toList.drop (i * z + off + size)).toArray):=z30
 refine⟨_,by simp [Instr.storeAt,Instr.sureAddr,hst],h.write hμ hW ?_,hW.keepO hh (h.mem.base n b _ _ _ hμ).1 (.inr ⟨n,_,_,_,hμ⟩)⟩
 have hg:=hW.goes (own:=ownOf out μ) (.inr ⟨n,_,_,_,hμ⟩)
 have hsz':(val tmps x).cells.toList.length=size:=by simp [h1,hcl]
 refine .inr ⟨b,c0,_,by simpa using hμ,setRow_heap w b cur _ e _ hh,by simpa using hle',hcm,?_,fun q hq=>?_,fun i' q j d hq hd'=>?_⟩
 ·simp only [List.size_toArray,List.length_append,List.length_take,List.length_drop,hsz',Array.length_toList]
  omega
 ·rcases List.mem_or_eq_of_mem_set hq with hq | rfl
  ·exact hzz q hq
  ·rw [hle.2];exact hrz
 ·rw [List.getElem?_set] at hq
  have hql:q.length=z:=by
   by_cases hii:i=i'
   ·subst hii;rw [if_pos rfl,if_pos hil] at hq;cases hq;rw [hle.2];exact hrz
   ·rw [if_neg hii] at hq;exact hzz q (List.mem_of_getElem? hq)
  have hjz:j<z:=by rw [← hql];exact (List.getElem?_eq_some_iff.1 hd').1
  have hpos:(cur.toList.take (i * z + off)++(val tmps x).cells.toList++cur.toList.drop (i * z + off + size)).toArray[i' * z + j]? =
    if i * z + off≤i' * z + j∧i' * z + j<i * z + off + size then (val tmps x).cells[i' * z + j - (i * z + off)]? else cur[i' * z + j]?:=by
   have:=z249 cur.toList (val tmps x).cells.toList (i * z + off) (by rw [hsz'];simpa using hspan) (i' * z + j)
   rw [hsz'] at this
   simpa using this
  rw [hpos]
  by_cases hii:i=i'
  ·subst hii
   rw [if_pos rfl,if_pos hil] at hq
   cases hq
   rw [z105 hsp j] at hd'
   rw [hcl] at hd'
   by_cases hin:off≤j∧j<off + size
   ·rw [if_pos hin] at hd'
    rw [if_pos (by omega)]
    have hsub:i * z + j - (i * z + off)=j - off:=by omega
    rw [hsub]
    have hlt:j - off<(val tmps x).cells.size:=by rw [h1];exact (List.getElem?_eq_some_iff.1 hd').1
    have hu:=h2 (j - off) d (val tmps x).cells[j - off] hd' (by simp [hlt])
    have hym:d ∈ cs:=List.mem_of_getElem? hd'
    exact⟨_,by simp [hlt],hu.oneCell (h3 d hym),hu.goes hg (fun _ _ _=>rfl)⟩
   ·rw [if_neg hin] at hd'
    rw [if_neg (by omega)]
    obtain⟨u,p1,p2,p3⟩:=hd i r j d hi hd'
    exact⟨u,p1,p2,p3.goes hg (fun _ _ _=>rfl)⟩
  ·rw [if_neg hii] at hq
   have hne:¬ (i * z + off≤i' * z + j∧i' * z + j<i * z + off + size):=by
    rintro⟨ha,hb⟩
    have hsl:off + size≤z:=by have:=hle.1;omega
    rcases Nat.lt_or_gt_of_ne hii with hlt | hlt
    ·have:(i + 1) * z≤i' * z:=Nat.mul_le_mul_right z hlt
     rw [Nat.add_mul] at this
     omega
    ·have:(i' + 1) * z≤i * z:=Nat.mul_le_mul_right z hlt
     rw [Nat.add_mul] at this
     omega
   rw [if_neg hne]
   obtain⟨u,p1,p2,p3⟩:=hd i' q j d hq hd'
   exact⟨u,p1,p2,p3.goes hg (fun _ _ _=>rfl)⟩
theorem z1152 (h:StRel P base out st μ tmps w) {t:TypeId} {a x:Operand} (hdst:o.dst=none) (ho:o.op=.store t a x) (hs:opStore P st t (st.ev a) (st.ev x)=some st'):OpOK P base out μ o st' tmps w:=by
 have ha:=h.ev a []
 unfold opStore at hs
 split at hs
 ·rename_i size cs hsz hc
  split at hs
  ·rename_i hcl
   have fin:∀ (w':World) (μ':Pl) (st'':St),(Instr.storeAt t (val tmps a) (val tmps x)).run P w=.ok () w'→StRel P base out st'' μ' tmps w'→KeepO base (ownOf out μ) w (ownOf out μ') w'→OpOK P base out μ o st'' tmps w:=by
    intro w' μ' st'' hr hst hB
    refine⟨.skip,Go.undef,w',μ',fun ds=>?_,.inr ⟨rfl,rfl⟩,by rw [hdst];exact hst,hB⟩
    unfold execOp
    rw [z22]
    simp only [val] at hr
    simp [ho,hr]
   split at hs
   ·rename_i n off hev
    split at hs
    ·rename_i row hn
     split at hs
     ·rename_i row' hsp
      cases hs
      rw [hev] at ha
      obtain⟨w',h1,h2,h3⟩:=z684 (P:=P) h hsz hc hcl hn hsp ha
      exact fin w' μ _ h1 h2 h3
     ·cases hs
    ·cases hs
   ·rename_i n i off hev
    split at hs
    ·rename_i e z rows hn
     split at hs
     ·rename_i r ds hi hds
      split at hs
      ·rename_i r' hsp hl
       cases hs
       rw [hev] at ha
       simp only [Bool.and_eq_true,Bool.not_eq_true',List.contains_eq_mem,decide_eq_false_iff_not] at hl
       obtain⟨w',μ',h1,h2,h3⟩:=z685 (P:=P) h hsz hc hcl hn hi hds hsp hl.1 hl.2 ha
       exact fin w' μ' _ h1 h2 h3
      ·cases hs
     ·cases hs
    ·rename_i e z rows hn
     split at hs
     ·rename_i r hi
      split at hs
      ·rename_i r' hsp
       cases hs
       rw [hev] at ha
       obtain⟨w',h1,h2,h3⟩:=z540 (P:=P) h hsz hc hcl hn hi hsp ha
       exact fin w' μ _ h1 h2 h3
      ·cases hs
     ·cases hs
    ·cases hs
   ·cases hs
  ·cases hs
 ·cases hs
end
end Go.Ab
/- Slice literals,make,append: soundness. -/
namespace Go.Ab
open Go.RowKit
theorem z555 (size:Nat):∀ (vs:List (Nat × Value)) (k:Nat) (cells:Array Value),(∀ j a v,vs[j]?=some (a,v)→a=k + j∧v.cells.size=size)→(k + vs.length) * size≤cells.size →
  ∃ C,Instr.fill (fun i=>some (i * size,size)) cells vs=some C∧C.size=cells.size∧(∀ q,q<k * size→C[q]?=cells[q]?) ∧
   ∀ j a v p,vs[j]?=some (a,v)→p<size→C[(k + j) * size + p]?=v.cells[p]?
 | [],k,cells,_,_=>⟨cells,rfl,rfl,fun _ _=>rfl,fun j a v p h=>by simp at h⟩
 | (a,v)::vs,k,cells,h,hl=>by
  obtain⟨hak,hv⟩:=h 0 a v (by simp)
  have hak':k=a:=by omega
  subst hak'
  simp only [List.length_cons] at hl h ⊢
  have hk:(k + (vs.length + 1)) * size=k * size + size + vs.length * size:=by rw [Nat.add_mul,Nat.add_mul];omega
  have hfold:=z155 (k * size) v.cells.zipIdx.toList 0 cells (fun j y i h=>z562 v.cells j y i h) (by simp [hv];omega)
  have hzl:v.cells.zipIdx.toList.length=size:=by simp [hv]
  rw [hzl] at hfold
  obtain⟨C,h1,h2,h3,h4⟩:=z555 size vs (k + 1) (v.cells.zipIdx.foldl (fun cs (x:Value × Nat)=>cs.setIfInBounds (k * size + x.2) x.1) cells)
   (fun j a' v' hj=>by have:=h (j + 1) a' v' (by simpa using hj);exact⟨by omega,this.2⟩)
   (by rw [← Array.foldl_toList,hfold.1];have:(k + 1 + vs.length) * size=(k + (vs.length + 1)) * size:=by congr 1;omega
       omega)
  refine⟨C,?_,by rw [h2,← Array.foldl_toList,hfold.1],fun q hq=>?_,fun j a' v' p hj hp=>?_⟩
  ·unfold Instr.fill
   have hsz:¬ ((v.cells.size≠size || k * size + v.cells.size > cells.size)=true):=by rw [hv];simp;omega
   simp only
   rw [if_neg hsz]
   exact h1
  ·rw [h3 q (by rw [Nat.add_mul];omega),← Array.foldl_toList,hfold.2 q,if_neg (by omega)]
  ·cases j with
   | zero =>
    simp at hj
    obtain⟨rfl,rfl⟩:=hj
    have hq:k * size + p<(k + 1) * size:=by rw [Nat.add_mul];omega
    rw [Nat.add_zero,h3 _ hq,← Array.foldl_toList,hfold.2,if_pos (by omega)]
    have:k * size + p - (k * size + 0)=p:=by omega
    rw [this]
    exact z432 v.cells p
   | succ j =>
    have:=h4 j a' v' p (by simpa using hj) hp
    have e:(k + (j + 1)) * size=(k + 1 + j) * size:=by congr 1;omega
    rw [e]
    exact this
section
variable {P:Program} {base:Own} {out:Own} {st st':St} {μ:Pl} {tmps:Array Value} {w:World} {o:Oper}
theorem z326 {z:Nat}:∀ {xs:List AV} {rows:List (List DV)},rowsOf st z xs=some rows→xs.length=rows.length∧∀ (i:Nat) r,rows[i]?=some r→r.length=z∧∃ x cs,xs[i]?=some x∧x.cells=some cs ∧
   allSome (cs.map (reify st.m deep))=some r
 | [],rows,h=>by simp [rowsOf] at h;subst h;simp
 | x::xs,rows,h=>by
  simp only [rowsOf] at h
  split at h
  ·rename_i r rs h1 h2
   split at h
   ·rename_i hz
    cases h
    obtain⟨h3,h4⟩:=z326 h2
    refine⟨by simp [h3],fun i r' hi=>?_⟩
    cases i with
    | zero =>
     simp at hi
     subst hi
     unfold rowOf at h1
     split at h1
     ·rename_i cs hcs;exact⟨hz,x,cs,by simp,hcs,h1⟩
     ·cases h1
    | succ i=>simpa using h4 i r' (by simpa using hi)
   ·cases h
  ·cases h
theorem z199 {xs:List AV} {i:Nat} {x:AV} (h:xs[i]?=some x):∀ n ∈ x.refs,n ∈ AV.refsAll xs:=by
 induction xs generalizing i with
 | nil=>simp at h
 | cons y ys ih =>
  intro n hn
  cases i with
  | zero=>simp at h;subst h;simp [AV.refsAll,hn]
  | succ i=>simp at h;simp [AV.refsAll,ih h n hn]
theorem z367 {μ1:Pl} {st1:St} (h1:StRel P base out st1 μ1 tmps w) {d:Nat} (hd:st1.m[d]?=some none) {e z:Nat} {rows:List (List DV)} {cs:Array Value} {cap:Nat} {w':World}
  (hw:∃ w0,Below w.heap.size w w0∧w0.heap=w.heap∧w'=w0.alloc (.cells cs e)) (hle:rows.length≤cap) (hcm:cap≤maxLen) (hsz:cs.size=cap * z) (hz:∀ r ∈ rows,r.length=z)
  (hc:∀ (i:Nat) r (j:Nat) x,rows[i]?=some r→r[j]?=some x→∃ v,cs[i * z + j]?=some v∧v.oneCell'=true∧DRel w (ownOf out μ1) x v) :
  ∃ μ',StRel P base out (st1.addBlk d (.own d) (.arr e z rows)) μ' (tmps.setIfInBounds d (.slice (some ⟨w.heap.size,0,none⟩) rows.length cap)) w'∧KeepO base (ownOf out μ1) w (ownOf out μ') w':=by
 obtain⟨w0,hB0,hh0,rfl⟩:=hw
 have hsz0:w0.heap.size=w.heap.size:=by rw [hh0]
 have hB:Below w.heap.size w (w0.alloc (.cells cs e)):=hB0.alloc (by omega) _
 have hnp:=z113 h1.mem hd
 have hg:Goes w (ownOf out μ1) (w0.alloc (.cells cs e)) (ownOf out (μ1.upd d (some (.at w.heap.size z rows.length cap)))):=fun b o v hb hc=>by
  have hlt:=hc.lt
  refine⟨?_,(z83 (ownOf out μ1) hB b o v hb hc).2⟩
  rintro (h2 | ⟨n,z,l,c,h2⟩)
  ·exact hb (.inl h2)
  ·by_cases hn:n=d
   ·subst hn;rw [Pl.upd_same] at h2;cases h2;omega
   ·rw [Pl.upd_ne μ1 _ hn] at h2;exact hb (.inr ⟨n,z,l,c,h2⟩)
 refine⟨_,h1.add hB hd (.at w.heap.size z rows.length cap) (fun b z l c e=>by cases e;simp;omega) ?_ (.own (Pl.upd_same μ1 d _)),h1.keep_add hB hd _ (fun b z l c e=>by cases e;simp;omega)⟩
 refine .inr ⟨w.heap.size,cap,cs,Pl.upd_same μ1 d _,by rw [← hsz0];exact heap_alloc_new w0 _,hle,hcm,hsz,hz,fun i r j x hi hj=>?_⟩
 obtain⟨v,p1,p2,p3⟩:=hc i r j x hi hj
 exact⟨v,p1,p2,p3.goes hg⟩
theorem z215 (h:StRel P base out st μ tmps w) {t:TypeId} {len:Nat} {parts:Array (Nat × Operand)} (ho:o.op=.buildSlice t len parts) {d:Nat} (hd:o.dst=some d) {e z:Nat} (ht:tslice P t=some e)
  (hz:tsz P e=some z) (hidx':parts.toList.map (·.1)=List.range len) (hlim0:len≤2 ^ 24) (hlim:len * z≤2 ^ 24) (hzero:len * z=0∨((tzero P e).map (·.cells.size))=some z)
  {rows:List (List DV)} (hrows:rowsOf st z (parts.toList.map fun p=>st.ev p.2)=some rows) (harrs:st.arrs (AV.refsAll (parts.toList.map fun p=>st.ev p.2))=true) (hf:st.fresh d=true) :
  OpOK P base out μ o ((releaseAll (AV.refsAll (parts.toList.map fun p=>st.ev p.2)) st).addBlk d (.own d) (.arr e z rows)) tmps w:=by
 have hlen:parts.size=len:=by have:=congrArg List.length hidx';simpa using this
 obtain⟨hrl,hrs⟩:=z326 hrows
 have hrlen:rows.length=len:=by rw [← hrl];simpa using hlen
 obtain⟨μ1,h1,_,hless,hdeep⟩:=z294 h harrs
 -- the values
 have hval:∀ (j:Nat) a v,(parts.toList.map fun p=>(p.1,val tmps p.2))[j]?=some (a,v)→a=0 + j∧v.cells.size=z∧∃ x,(parts.toList.map fun p=>st.ev p.2)[j]?=some x∧AVRel w (ownOf out μ) μ x v:=by
  intro j a v hj
  simp only [List.getElem?_map,Option.map_eq_some_iff,Prod.mk.injEq] at hj
  obtain⟨p,hp,rfl,rfl⟩:=hj
  have hjl:j<len:=by rw [← hlen];have:=(List.getElem?_eq_some_iff.1 hp).1;simpa using this
  have h2:=congrArg (fun l:List Nat=>l[j]?) hidx'
  simp only [List.getElem?_map,hp,Option.map_some,List.getElem?_range hjl,Option.some.injEq] at h2
  have hjr:j<rows.length:=by omega
  obtain⟨hr1,x,cs,hx,hcs,hall⟩:=hrs j rows[j] (by simp [hjr])
  simp only [List.getElem?_map,hp,Option.map_some,Option.some.injEq] at hx
  subst hx
  have hev:=h.ev p.2 []
  obtain⟨c1,_,_⟩:=z23 hev hcs
  have hcl:=(z15 hall).1
  refine⟨by omega,?_,_,by simp only [List.getElem?_map,hp,Option.map_some],hev⟩
  rw [c1,← hr1,← hcl];simp
 obtain⟨zz,hzz⟩:∃ zz:Array Value,(len * z=0∧zz=#[])∨(¬ len * z=0∧∃ zv,tzero P e=some zv∧zz=zv.cells):=by
  by_cases h0:len * z=0
  ·exact⟨#[],.inl ⟨h0,rfl⟩⟩
  ·rcases hzero with h1 | h1
   ·exact absurd h1 h0
   ·rw [Option.map_eq_some_iff] at h1
    obtain⟨zv,hzv,_⟩:=h1
    exact⟨zv.cells,.inr ⟨h0,zv,hzv,rfl⟩⟩
 obtain⟨C,hC1,hC2,_,hC4⟩:=z555 z (parts.toList.map fun p=>(p.1,val tmps p.2)) 0 ((Array.range (len * z)).map (zz[· % zz.size]!))
  (fun j a v hj=>⟨(hval j a v hj).1,(hval j a v hj).2.1⟩) (by simp [hlen])
 have hCs:C.size=len * z:=by rw [hC2];simp
 obtain⟨μ',hst,hB⟩:=z367 h1 (z112 _ st d (z19 hf)) (e:=e) (z:=z) (rows:=rows) (cs:=C) (cap:=len) (w':=w.alloc (.cells C e)) ⟨w,Below.refl _ _,rfl,rfl⟩ (by omega)
  (by simp only [maxLen];omega) hCs
  (fun r hr=>by obtain⟨i,hi⟩:=List.mem_iff_getElem?.1 hr;exact (hrs i r hi).1)
  (fun i r j x hi hj=>by
   obtain⟨hr1,y,cs,hy,hcs,hall⟩:=hrs i r hi
   have hil:i<parts.size:=by rw [hlen,← hrlen];exact (List.getElem?_eq_some_iff.1 hi).1
   have hp:(parts.toList.map fun p=>(p.1,val tmps p.2))[i]?=some (parts[i].1,val tmps parts[i].2):=by simp [hil]
   obtain⟨_,hvs,y',hy',hrel⟩:=hval i _ _ hp
   rw [hy] at hy';cases hy'
   obtain⟨c1,c2,c3⟩:=z23 hrel hcs
   have hjz:j<z:=by rw [← hr1];exact (List.getElem?_eq_some_iff.1 hj).1
   have hcell:=hC4 i _ _ j hp hjz
   rw [Nat.zero_add] at hcell
   have h4:=(z15 hall).2 _ _ hj
   simp only [List.getElem?_map,Option.map_eq_some_iff] at h4
   obtain⟨q,hq,hrq⟩:=h4
   have hlt:j<(val tmps parts[i].2).cells.size:=by omega
   have hu:=c2 j q (val tmps parts[i].2).cells[j] hq (by simp [hlt])
   have hqm:q ∈ cs:=List.mem_of_getElem? hq
   refine⟨_,by rw [hcell];simp [hlt],hu.oneCell (c3 q hqm),hdeep deep q _ x hu hrq (fun n hn=>z199 hy n (z191 hcs hqm n hn))⟩)
 rw [hrlen] at hst
 refine⟨.value (.slice (some ⟨w.heap.size,0,none⟩) len len),_,_,μ',fun ds=>?_,.inl rfl,by rw [hd];exact hst,(KeepO.less hless).trans hB⟩
 unfold execOp
 rw [z22]
 have hnlim:¬ (len * z > 2 ^ 24):=by omega
 have hparts:((parts.map fun p=>(p.1,val tmps p.2))).toList=parts.toList.map fun p=>(p.1,val tmps p.2):=by simp
 simp only [val] at hparts hC1
 rw [← hparts] at hC1
 have hrun:(Instr.buildSlice t len (parts.map fun p=>(p.1,val tmps p.2))).run P w=.ok (.slice (some ⟨w.heap.size,0,none⟩) len len) (w.alloc (.cells C e)):=by
  unfold Instr.buildSlice
  rcases hzz with ⟨h0,rfl⟩ | ⟨h0,zv,hzv,rfl⟩
  ·simp only [val,Sem.run_bind,run_underlying (z12 ht),Result.andThen_ok,z26 hz,if_neg hnlim,if_pos h0,hC1,newRow,run_newObj,Sem.run_pure]
   rfl
  ·simp only [val,Sem.run_bind,run_underlying (z12 ht),Result.andThen_ok,z26 hz,if_neg hnlim,if_neg h0,z184 hzv,hC1,newRow,run_newObj,Sem.run_pure]
   rfl
 simp only [val] at hrun
 simp [ho,hrun]
theorem z542 (h:StRel P base out st μ tmps w) {t:TypeId} {len:Nat} {parts:Array (Nat × Operand)} (ho:o.op=.buildSlice t len parts)
  (hs:stepOp P o st=some st'):OpOK P base out μ o st' tmps w:=by
 have hps:(parts.toList.map fun p=>(p.1,st.ev p.2)).map (·.2)=parts.toList.map fun p=>st.ev p.2:=by simp [Function.comp_def]
 unfold stepOp at hs
 rw [ho] at hs
 simp only at hs
 split at hs
 ·rename_i bk hbk
  split at hs
  ·rename_i d hd hf0
   have hf:st.fresh d=true:=by rw [hd] at hf0;exact hf0
   unfold opBuildSlice at hbk
   rw [hps] at hbk hs
   split at hbk
   ·rename_i e ht
    split at hbk
    ·rename_i z hz
     split at hbk
     ·rename_i hcond
      obtain⟨hidx,hlim0,hlim,hzero⟩:=hcond
      have hidx':parts.toList.map (·.1)=List.range len:=by simpa [Function.comp_def] using hidx
      split at hbk
      ·rename_i rows hrows harrs
       cases hbk
       cases hs
       exact z215 h ho hd ht hz hidx' hlim0 hlim hzero hrows harrs hf
      ·cases hbk
     ·cases hbk
    ·cases hbk
   ·cases hbk
  ·cases hs
 ·cases hs
end
end Go.Ab
/- make and append: soundness. -/
namespace Go.Ab
open Go.RowKit
section
variable {P:Program} {base:Own} {out:Own} {st st':St} {μ:Pl} {tmps:Array Value} {w:World} {o:Oper}
theorem z356 (v:Value):(cellOf v).refs=[]:=by
 unfold cellOf
 split <;> first | rfl | (split <;> rfl)
theorem z291 (v:Value):(constOf v).refs=[]:=by
 unfold constOf
 split
 ·rename_i cs
  simp only [AV.refs]
  induction cs.toList with
  | nil=>rfl
  | cons x xs ih=>simp [AV.refs.AV.refss,z356,ih]
 ·exact z356 _
theorem z494 {t:TypeId} {s:Nat} {i:TypeInfo} (h:tsz P t=some s) (hi:P.info? t=some i):i.size=s:=by
 unfold tsz at h
 rw [hi] at h
 simpa using h
theorem z688 (h:StRel P base out st μ tmps w) {t:TypeId} {l c:Operand} (ho:o.op=.makeSlice t l c) (hs:addN st o.dst (opMakeSlice P st t (st.ev l) (st.ev c))=some st'):OpOK P base out μ o st' tmps w:=by
 have hl:=h.ev l []
 have hc:=h.ev c []
 obtain⟨d,k,hd,hk,hf,rfl⟩:=z233 hs
 clear hs
 unfold opMakeSlice at hk
 split at hk
 ·rename_i e kl n kc n' ht hev1 hev2
  rw [hev1] at hl
  rw [hev2] at hc
  split at hk
  ·rename_i z by_ zv hz hby hzv
   split at hk
   ·rename_i hcond
    obtain⟨rfl,h0,hmax,hb7⟩:=hcond
    have hmax':n≤1099511627776:=by
     have h3:(2:Int) ^ 40=1099511627776:=by decide
     omega
    split at hk
    ·rename_i zr hzr
     split at hk
     ·rename_i hzl
      ·skip
       cases hk
       obtain⟨i,hi,hiz⟩:=z127 hzv
       obtain⟨i',hi',hib⟩:=z70 hby
       rw [hi] at hi';cases hi'
       have his:=z494 hz hi
       have hbytes:(i.bytes:Int) * n≤281474976710656:=by
        rw [hib]
        have h1:((by_:Int))≤128:=by omega
        have h2:(by_:Int) * n≤128 * n:=Int.mul_le_mul_of_nonneg_right h1 h0
        omega
       have hrun:=run_make (P:=P) w t e i zv (z12 ht) hi hiz kl kc n n h0 (Int.le_refl _) hbytes (by omega)
       rw [his] at hrun
       unfold rowOf at hzr
       split at hzr
       ·rename_i cs hcs
        obtain⟨c1,c2,c3⟩:=z23 (z61 w (ownOf out μ) μ zv) hcs
        obtain⟨a1,a2⟩:=z15 hzr
        have hzs:zv.cells.size=z:=by rw [c1,← hzl,← a1];simp
        obtain⟨μ1,h1,_,hless,hdeep⟩:=z294 h (l:=[]) rfl
        obtain⟨μ',hst,hB⟩:=z367 h1 (z19 hf) (e:=e) (z:=z) (rows:=List.replicate n.toNat zr) (cs:=madeCells zv.cells (n.toNat * z)) (cap:=n.toNat) (w':=w.alloc (.cells (madeCells zv.cells (n.toNat * z)) e))
         ⟨w,Below.refl _ _,rfl,rfl⟩ (by simp) (by simp only [maxLen];omega) (by rw [size_madeCells])
         (fun r hr=>by rw [List.eq_of_mem_replicate hr];exact hzl)
         (fun i r j x hi hj=>by
          rw [List.getElem?_replicate] at hi
          split at hi
          ·rename_i hin
           cases hi
           have hjz:j<z:=by rw [← hzl];exact (List.getElem?_eq_some_iff.1 hj).1
           have hlt:i * z + j<n.toNat * z:=by
            have:(i + 1) * z≤n.toNat * z:=Nat.mul_le_mul_right z hin
            rw [Nat.add_mul] at this
            omega
           have hmod:(i * z + j) % z=j:=by rw [Nat.mul_comm,Nat.mul_add_mod,Nat.mod_eq_of_lt hjz]
           have h4:=a2 j x hj
           simp only [List.getElem?_map,Option.map_eq_some_iff] at h4
           obtain⟨q,hq,hrq⟩:=h4
           have hjs:j<zv.cells.size:=by omega
           have hu:=c2 j q zv.cells[j] hq (by simp [hjs])
           have hqm:q ∈ cs:=List.mem_of_getElem? hq
           have hget:(madeCells zv.cells (n.toNat * z))[i * z + j]?=some zv.cells[j]:=by
            have hbang:zv.cells[j]! = zv.cells[j]:=getElem!_pos zv.cells j hjs
            simp [madeCells,hlt,hzs,hmod,hbang]
           refine⟨_,hget,hu.oneCell (c3 q hqm),hdeep deep q _ x hu hrq (fun n hn=>?_)⟩
           have:=z191 hcs hqm n hn
           rw [z291] at this
           exact this
          ·cases hi)
        simp only [List.length_replicate] at hst
        refine⟨.value (.slice (some ⟨w.heap.size,0,none⟩) n.toNat n.toNat),_,_,μ',fun ds=>?_,.inl rfl,by rw [hd];exact hst,(KeepO.less hless).trans hB⟩
        unfold execOp
        rw [z22]
        simp [ho,z43 hl,z43 hc,hrun]
       ·cases hzr
     ·cases hk
    ·cases hk
   ·cases hk
  ·cases hk
 ·cases hk
theorem z49 (h:StRel P base out st μ tmps w) {x:AV} {v:Value} (hx:AVRel w (ownOf out μ) μ x v) {rows:List (List DV)} (he:elemsOf st x=some rows) {z:Nat} (hz:headIs z rows=true) (hpos:rows≠[]) :
  (∀ r ∈ rows,r.length=z)∧∃ b off cap,v=.slice (some ⟨b,off,none⟩) rows.length cap∧∃ f:Nat→Nat→Value,
   ∀ (i:Nat) r (j:Nat) d,rows[i]?=some r→r[j]?=some d→w.cell? ⟨b,off + i * z + j,none⟩=some (f i j)∧(f i j).oneCell'=true∧DRel w (ownOf out μ) d (f i j):=by
 have hhead:∀ z',(∀ r ∈ rows,r.length=z')→z'=z:=by
  intro z' hz'
  cases rows with
  | nil=>exact absurd rfl hpos
  | cons r rs =>
   simp only [headIs,beq_iff_eq] at hz
   rw [← hz]
   exact (hz' r (by simp)).symm
 unfold elemsOf at he
 split at he
 ·cases he;exact absurd rfl hpos
 ·cases he
  rcases z342 hx with ⟨rfl,_⟩ | ⟨b,off,z',cap,hv,hle,hzz,f,hc,hd⟩
  ·exact absurd rfl hpos
  ·have:=hhead z' hzz
   subst this
   exact⟨hzz,b,off,cap,hv,f,fun i r j d h1 h2=>⟨(hc i r j d h1 h2).2.1,(hc i r j d h1 h2).2.2,hd i r j d h1 h2⟩⟩
 ·rename_i n
  split at he
  ·rename_i e z' rows' hn
   cases he
   rcases h.mem.arr hn with ⟨h0,rfl⟩ | ⟨b',cap',cs,hμ',hh,hle',_,hsz,hzz,hd⟩
   ·exact absurd rfl hpos
   ·have:=hhead z' hzz
    subst this
    rcases z29 hx with ⟨hμ,hv⟩ | ⟨b,z,l,c,hμ,hv⟩
    ·rw [hμ'] at hμ;cases hμ
    ·rw [hμ] at hμ';cases hμ'
     refine⟨hzz,_,0,_,hv,fun i j=>cs.getD (i * z' + j) Go.undef,fun i r j d h1 h2=>?_⟩
     obtain⟨u,p1,p2,p3⟩:=hd i r j d h1 h2
     rw [z17 hh,Nat.zero_add]
     simp only [Array.getD_eq_getD_getElem?,p1,Option.getD_some]
     exact⟨trivial,p2,p3⟩
  ·cases he
 ·rename_i n off len
  split at he
  ·rename_i e z' rows' hn
   split at he
   ·rename_i hol
    cases he
    have hlen:((rows'.drop off).take len).length=len:=by simp;omega
    have hl0:0<len:=by
     rcases Nat.eq_zero_or_pos len with h0 | h0
     ·subst h0;simp at hpos
     ·exact h0
    obtain⟨a,cap,hv,_,_,_,hp⟩:=z151 hx
    obtain⟨b,zb,l,c,hμ,rfl,h1,h2⟩:=hp hl0
    rcases h.mem.arr hn with ⟨h0,rfl⟩ | ⟨b',cap',cs,hμ',hh,hle',_,hsz,hzz,hd⟩
    ·rw [hμ] at h0;cases h0
    rw [hμ] at hμ';cases hμ'
    have hzz':∀ r ∈ ((rows'.drop off).take len),r.length=z':=fun r hr=>hzz r (List.mem_of_mem_drop (List.mem_of_mem_take hr))
    have:=hhead _ hzz'
    subst this
    refine⟨hzz',b,off * z',cap,by rw [hlen];exact hv,fun i j=>cs.getD ((off + i) * z' + j) Go.undef,fun i r j d h3 h4=>?_⟩
    rw [List.getElem?_take] at h3
    split at h3
    ·rw [List.getElem?_drop] at h3
     obtain⟨u,p1,p2,p3⟩:=hd (off + i) r j d h3 h4
     rw [z17 hh,← Nat.add_mul]
     simp only [Array.getD_eq_getD_getElem?,p1,Option.getD_some]
     exact⟨trivial,p2,p3⟩
    ·cases h3
   ·cases he
  ·cases he
 ·cases he
theorem z111 {t e:TypeId} (ht:tslice P t=some e) {z:Nat} (hz:tsz P e=some z) {n:Nat} (ty:TypeId) {a:Option Addr} {sl sc c:Nat} {a':Option Addr} (hle:sl≤sc) (hn:n=0) :
  (Builtin.append_ #[t,t] ty #[.slice a sl sc,.slice a' n c]).run P w=.ok (.slice a sl sc) w:=by
 subst hn
 have hf:(Builtin.firstCells z 0 (.slice a' 0 c)).run P w=.ok #[] w:=by
  cases a' with
  | none=>simp [Builtin.firstCells]
  | some a'=>simp [Builtin.firstCells,loadCells,loadCellsFrom]
 cases a <;> simp [Builtin.append_,run_underlying (z12 ht),z26 hz,Builtin.lenOf,hle,hf,storeCells]
def flat (m z:Nat) (f:Nat→Nat→Value):List Value:=(List.range (m * z)).map fun q=>f (q / z) (q % z)
theorem z14 (m z:Nat) (f:Nat→Nat→Value):(flat m z f).length=m * z:=by simp [flat]
theorem z87 {m z:Nat} (f:Nat→Nat→Value) {i j:Nat} (hi:i<m) (hj:j<z):(flat m z f)[i * z + j]?=some (f i j):=by
 have hlt:i * z + j<m * z:=by
  have:(i + 1) * z≤m * z:=Nat.mul_le_mul_right z hi
  rw [Nat.add_mul] at this
  omega
 have hdiv:(i * z + j) / z=i:=by rw [Nat.mul_comm,Nat.mul_add_div (by omega),Nat.div_eq_of_lt hj,Nat.add_zero]
 have hmod:(i * z + j) % z=j:=by rw [Nat.mul_comm,Nat.mul_add_mod,Nat.mod_eq_of_lt hj]
 simp [flat,hlt,hdiv,hmod]
theorem z913 {m z:Nat} (f:Nat→Nat→Value) {q:Nat} {u:Value} (h:(flat m z f)[q]?=some u):0<z∧q / z<m∧q % z<z∧u=f (q / z) (q % z):=by
 have hlt:q<m * z:=by have:=(List.getElem?_eq_some_iff.1 h).1;rwa [z14] at this
 have hz:0<z:=by
  rcases Nat.eq_zero_or_pos z with h0 | h0
  ·subst h0;simp at hlt
  ·exact h0
 have h1:q / z<m:=by rw [Nat.div_lt_iff_lt_mul hz];exact hlt
 refine⟨hz,h1,Nat.mod_lt _ hz,?_⟩
 simp [flat,hlt] at h
 exact h.symm
end
end Go.Ab
/- append: soundness. -/
namespace Go.Ab
open Go.RowKit
section
variable {P:Program} {base:Own} {out:Own} {st st':St} {μ:Pl} {tmps:Array Value} {w:World} {o:Oper}
theorem z156 {rows:List (List DV)} {z b off:Nat} {f:Nat→Nat→Value} (hz:∀ r ∈ rows,r.length=z)
  (hf:∀ (i:Nat) r (j:Nat) d,rows[i]?=some r→r[j]?=some d→w.cell? ⟨b,off + i * z + j,none⟩=some (f i j)∧(f i j).oneCell'=true∧DRel w (ownOf out μ) d (f i j)) :
  (∀ q u,(flat rows.length z f)[q]?=some u→w.cell? ((⟨b,off,none⟩:Addr).add q)=some u)∧(∀ u ∈ flat rows.length z f,u.oneCell'=true):=by
 have key:∀ q u,(flat rows.length z f)[q]?=some u→w.cell? ⟨b,off + q,none⟩=some u∧u.oneCell'=true:=by
  intro q u hq
  obtain⟨hz0,h1,h2,rfl⟩:=z913 f hq
  have hr:rows[q / z]?=some rows[q / z]:=by simp [h1]
  have hrl:rows[q / z].length=z:=hz _ (by simp)
  have hd:(rows[q / z])[q % z]?=some (rows[q / z])[q % z]:=by simp [hrl,h2]
  obtain⟨p1,p2,_⟩:=hf _ _ _ _ hr hd
  have e:off + q / z * z + q % z=off + q:=by
   have:=Nat.div_add_mod q z
   rw [Nat.mul_comm] at this
   omega
  rw [e] at p1
  exact⟨p1,p2⟩
 refine⟨fun q u hq=>by rw [Addr.add_lit];exact (key q u hq).1,fun u hu=>?_⟩
 obtain⟨q,hq⟩:=List.mem_iff_getElem?.1 hu
 exact (key q u hq).2
theorem z153 {n m sc by_:Nat} (hn:n + m≤2 ^ 39) (hb:by_≤2 ^ 7) (hlt:sc<n + m):Builtin.nextslicecap (n + m) sc * by_≤281474976710656:=by
 have:(n + m) * by_≤140737488355328:=by
  calc (n + m) * by_≤2 ^ 39 * 2 ^ 7:=Nat.mul_le_mul hn hb
   _≤140737488355328:=by decide
 exact growslice_fits hlt this
theorem z203 {w':World} {own':Own} {rows xs:List (List DV)} {z b off:Nat} {f:Nat→Nat→Value} {cs:List Value} (_hlen:rows.length * z≤cs.length)
  (hz:∀ r ∈ rows,r.length=z) (hxz:∀ r ∈ xs,r.length=z) (hg:Goes w (ownOf out μ) w' own') {cur:Array Value}
  (hold:∀ q,q<rows.length * z→cs[q]?=cur[q]?) (hnew:∀ q,q<xs.length * z→cs[rows.length * z + q]?=(flat xs.length z f)[q]?)
  (hd:∀ (i:Nat) r (j:Nat) d,rows[i]?=some r→r[j]?=some d→∃ v,cur[i * z + j]?=some v∧v.oneCell'=true∧DRel w (ownOf out μ) d v)
  (hf:∀ (i:Nat) r (j:Nat) d,xs[i]?=some r→r[j]?=some d→w.cell? ⟨b,off + i * z + j,none⟩=some (f i j)∧(f i j).oneCell'=true∧DRel w (ownOf out μ) d (f i j)) :
  ∀ (i:Nat) r (j:Nat) d,(rows++xs)[i]?=some r→r[j]?=some d→∃ v,cs[i * z + j]?=some v∧v.oneCell'=true∧DRel w' own' d v:=by
 intro i r j d hi hj
 by_cases hlt:i<rows.length
 ·rw [List.getElem?_append_left hlt] at hi
  have hjz:j<z:=by rw [← hz r (List.mem_of_getElem? hi)];exact (List.getElem?_eq_some_iff.1 hj).1
  have hq:i * z + j<rows.length * z:=by
   have:(i + 1) * z≤rows.length * z:=Nat.mul_le_mul_right z hlt
   rw [Nat.add_mul] at this
   omega
  obtain⟨v,p1,p2,p3⟩:=hd i r j d hi hj
  exact⟨v,by rw [hold _ hq];exact p1,p2,p3.goes hg⟩
 ·rw [List.getElem?_append_right (by omega)] at hi
  have hil:i - rows.length<xs.length:=(List.getElem?_eq_some_iff.1 hi).1
  have hjz:j<z:=by rw [← hxz r (List.mem_of_getElem? hi)];exact (List.getElem?_eq_some_iff.1 hj).1
  have e:i * z + j=rows.length * z + ((i - rows.length) * z + j):=by
   have:i=rows.length + (i - rows.length):=by omega
   rw [this,Nat.add_mul]
   have:rows.length + (i - rows.length) - rows.length=i - rows.length:=by omega
   rw [this]
   omega
  have hq:(i - rows.length) * z + j<xs.length * z:=by
   have:(i - rows.length + 1) * z≤xs.length * z:=Nat.mul_le_mul_right z hil
   rw [Nat.add_mul] at this
   omega
  obtain⟨p1,p2,p3⟩:=hf _ _ _ _ hi hj
  exact⟨_,by rw [e,hnew _ hq];exact z87 f hil hjz,p2,p3.goes hg⟩
theorem z66 {n:Nat} {w':World} {L:Loc} (hk:Keep base w w') (hB:∀ k,k<w.heap.size→(∀ z' l' c',μ n≠some (.at k z' l' c'))→w'.heap[k]?=w.heap[k]?)
  (hL:∀ b z l c,L=.at b z l c→(∃ z' l' c',μ n=some (.at b z' l' c'))∨(w.heap.size≤b∧b<w'.heap.size)):KeepO base (ownOf out μ) w (ownOf out (μ.upd n (some L))) w' :=
 ⟨hk,fun b hb ho=>⟨hB b hb (fun z' l' c' hc=>ho (.inr ⟨n,z',l',c',hc⟩)),fun hc=>by
  rcases hc with hc | ⟨k,z,l,c,hc⟩
  ·exact ho (.inl hc)
  ·by_cases hkn:k=n
   ·subst hkn
    rw [Pl.upd_same] at hc
    cases hc
    rcases hL _ _ _ _ rfl with ⟨z',l',c',h1⟩ | h1
    ·exact ho (.inr ⟨k,z',l',c',h1⟩)
    ·omega
   ·rw [Pl.upd_ne μ _ hkn] at hc;exact ho (.inr ⟨k,z,l,c,hc⟩)⟩⟩
theorem z694 (h:StRel P base out st μ tmps w) {n:Nat} {e z:Nat} {rows rows':List (List DV)} (hn:st.m[n]?=some (some (.arr e z rows))) {w':World} {L:Loc}
  (hB:∀ k,k<w.heap.size→(∀ z' l' c',μ n≠some (.at k z' l' c'))→w'.heap[k]?=w.heap[k]?) (hsz:w.heap.size≤w'.heap.size)
  (hL:∀ b z l c,L=.at b z l c→(∃ z' l' c',μ n=some (.at b z' l' c'))∨(w.heap.size≤b∧b<w'.heap.size))
  (hblk:BlkRel w' (ownOf out (μ.upd n (some L))) (μ.upd n (some L)) n (.arr e z rows')) :
  StRel P base out { (st.kill n) with m:=(st.kill n).m.set n (some (.arr e z rows')) } (μ.upd n (some L)) tmps w':=by
 have hown:∀ b,ownOf out (μ.upd n (some L)) b→ownOf out μ b∨w.heap.size≤b:=by
  rintro b (hb | ⟨k,z,l,c,hb⟩)
  ·exact .inl (.inl hb)
  ·by_cases hk:k=n
   ·subst hk
    rw [Pl.upd_same] at hb
    cases hb
    rcases hL _ _ _ _ rfl with ⟨z',l',c',h1⟩ | h1
    ·exact .inl (.inr ⟨k,z',l',c',h1⟩)
    ·exact .inr h1.1
   ·rw [Pl.upd_ne μ _ hk] at hb
    exact .inl (.inr ⟨k,z,l,c,hb⟩)
 have hg:Goes w (ownOf out μ) w' (ownOf out (μ.upd n (some L))):=fun b o v h1 h2=>by
  have hlt:=h2.lt
  refine⟨fun hc=>?_,?_⟩
  ·rcases hown b hc with h3 | h3
   ·exact h1 h3
   ·omega
  ·have:=hB b hlt (fun z' l' c' hc=>h1 (.inr ⟨n,z',l',c',hc⟩))
   exact h2.heap this
 have hlen:n<st.m.length:=(List.getElem?_eq_some_iff.1 hn).1
 have hml:(st.kill n).m.length=st.m.length:=by
  have:∀ (m:List (Option Blk)),(subMem n (fun _=>AV.undef) m).length=m.length:=by
   intro m
   induction m with
   | nil=>rfl
   | cons x xs ih=>cases x <;> simp [subMem,ih]
  exact this st.m
 exact h.turn (n:=n) (f:=fun _=>.undef) hg (fun k hk=>Pl.upd_ne μ _ hk) (fun y u _ _=>.undef _)
  (fun k b z l c hk hb=>hB b (z31 h.mem hb) (fun z' l' c' hc=>hk (h.mem.inj k n b _ _ _ _ _ _ hb hc))) hsz
  (fun k hk=>by rw [List.getElem?_set_ne (Ne.symm hk)];simp only [St.kill,z24])
  (fun b hb=>by rw [List.getElem?_set_self (by rw [hml];exact hlen)] at hb;cases hb;exact hblk)
  (fun _=>⟨_,List.getElem?_set_self (by rw [hml];exact hlen)⟩)
  (fun b z l c hb=>by
   rw [Pl.upd_same] at hb
   cases hb
   rcases hL _ _ _ _ rfl with ⟨z',l',c',h1⟩ | h1
   ·have:=h.mem.base n b _ _ _ h1
    exact⟨⟨this.1,by omega,this.2.2⟩,fun k z'' l'' c'' hk hc=>hk (h.mem.inj k n b _ _ _ _ _ _ hc h1)⟩
   ·refine⟨⟨fun hc=>by have:=h.le b hc;omega,h1.2,fun hc=>by have:=h.le b (h.out b hc);omega⟩,fun k z'' l'' c'' hk hc=>?_⟩
    have:=z31 h.mem hc
    omega)
theorem z1068 (h:StRel P base out st μ tmps w) {t t':TypeId} {s x:Operand} (ho:o.op=.call { callee:=.builtin .append,args:=#[s,x],argTypes:=#[t,t'] })
  (hs:opAppend P st o.dst t t' (st.ev s) (st.ev x)=some st'):OpOK P base out μ o st' tmps w:=by
 have hsv:=h.ev s []
 have hxv:=h.ev x []
 unfold opAppend at hs
 split at hs
 ·rename_i htt
  subst htt
  split at hs
  ·rename_i d e hd ht
   split at hs
   ·rename_i z by_ zl xs hz hby hzl hxs
    split at hs
    ·rename_i hcond
     obtain⟨rfl,hz0,hb0,hb7,hhead⟩:=hcond
     rw [Option.map_eq_some_iff] at hzl
     obtain⟨zv,hzv,hzs⟩:=hzl
     obtain⟨i,hi,hiz⟩:=z127 hzv
     obtain⟨i',hi',hib⟩:=z70 hby
     rw [hi] at hi';cases hi'
     have his:=z494 hz hi
     obtain⟨ax,cx,hxval,_,_⟩:=z229 h hxv hxs
     have fin:∀ (v:Value) (w':World) (μ':Pl) (st'':St),(Builtin.append_ #[t',t'] o.type #[val tmps s,val tmps x]).run P w=.ok v w'→StRel P base out st'' μ' tmps w'→AVRel w' (ownOf out μ') μ' (.own (match st.ev s with | .own n=>n | _=>d)) v →
       KeepO base (ownOf out μ) w (ownOf out μ') w'→OpOK P base out μ o (st''.put o.dst (.own (match st.ev s with | .own n=>n | _=>d))) tmps w:=by
      intro v w' μ' st'' hr hst hrel hB
      refine⟨.value v,v,w',μ',fun ds=>?_,.inl rfl,hst.put hrel o.dst,hB⟩
      unfold execOp
      rw [z22]
      simp only [val] at hr
      simp [ho,resolve,invoke,builtin,hr]
     split at hs
     ·-- onto nil
      rename_i hev
      rw [hev] at hsv
      have hsval:=z115 hsv
      split at hs
      ·rename_i hf
       split at hs
       ·rename_i hxl
        cases hs
        by_cases hx0:xs=[]
        ·subst hx0
         have hr:=z111 (P:=P) (w:=w) ht hz (n:=0) o.type (a:=none) (sl:=0) (sc:=0) (c:=cx) (a':=ax) (Nat.le_refl _) rfl
         have hst:=h.add (Below.refl _ _) (z19 hf) .none0 (fun _ _ _ _ e=>by cases e) (blk:=.arr e zl []) (x:=.own d) (v:=.slice none 0 0) (.inl ⟨Pl.upd_same μ d _,rfl⟩) (.ownNil (Pl.upd_same μ d _))
         refine⟨.value (.slice none 0 0),_,w,_,fun ds=>?_,.inl rfl,by rw [hd];exact hst,h.keep_add (Below.refl _ _) (z19 hf) .none0 (fun _ _ _ _ e=>by cases e)⟩
         unfold execOp
         rw [z22]
         have hxval':(({ tmps:=tmps,defers:=[] }:Act).eval x)=.slice ax 0 cx:=by simpa using hxval
         simp [ho,resolve,invoke,builtin,hsval,hxval',hr]
        ·obtain⟨hxz,b,off,cap,hxval2,f,hf2⟩:=z49 h hxv hxs hhead hx0
         obtain⟨hn1,hn2⟩:=z156 (out:=out) (μ:=μ) hxz hf2
         have hpos:0<xs.length:=List.length_pos_iff.2 hx0
         have h39:(2:Nat) ^ 39=549755813888:=by decide
         have hby128:xs.length * i.bytes≤281474976710656:=by
          rw [hib]
          calc xs.length * by_≤2 ^ 39 * 2 ^ 7:=Nat.mul_le_mul hxl hb7
           _≤281474976710656:=by decide
         have hr:=run_append_nil (P:=P) w t' o.type e i zv (z12 ht) hi hiz ⟨b,off,none⟩ xs.length cap (flat xs.length zl f) (by rw [z14,his]) hn1 hpos (by omega) hby128
         have hge:=grownCap_ge w xs.length 0 e
         have hcm:grownCap w xs.length 0 e≤maxLen:=grownCap_le_maxLen w xs.length 0 e (by simp only [maxLen];omega)
         obtain⟨μ',hst,hB⟩:=z367 h (z19 hf) (e:=e) (z:=zl) (rows:=xs) (cs:=(flat xs.length zl f).toArray++Builtin.zeroCells zv.cells (grownCap w xs.length 0 e - xs.length)) (cap:=grownCap w xs.length 0 e)
          (w':=w.drew.alloc (.cells ((flat xs.length zl f).toArray++Builtin.zeroCells zv.cells (grownCap w xs.length 0 e - xs.length)) e))
          ⟨w.drew,(Below.refl _ _).drew,rfl,rfl⟩ hge hcm (by rw [Array.size_append,size_zeroCells,hzs,List.size_toArray,z14,← Nat.add_mul];congr 1;omega) hxz
          (fun i r j dv hi hj=>by
           have hil:i<xs.length:=(List.getElem?_eq_some_iff.1 hi).1
           have hjz:j<zl:=by rw [← hxz r (List.mem_of_getElem? hi)];exact (List.getElem?_eq_some_iff.1 hj).1
           have hg:=z87 f hil hjz
           obtain⟨p1,p2,p3⟩:=hf2 i r j dv hi hj
           refine⟨f i j,?_,p2,p3⟩
           rw [Array.getElem?_append_left (by have:=(List.getElem?_eq_some_iff.1 hg).1;simpa using this)]
           simpa using hg)
         refine⟨.value (.slice (some ⟨w.heap.size,0,none⟩) xs.length (grownCap w xs.length 0 e)),_,_,μ',fun ds=>?_,.inl rfl,by rw [hd];exact hst,hB⟩
         unfold execOp
         rw [z22]
         have hxval3:(({ tmps:=tmps,defers:=[] }:Act).eval x)=.slice (some ⟨b,off,none⟩) xs.length cap:=hxval2
         simp [ho,resolve,invoke,builtin,hsval,hxval3,hr]
       ·cases hs
      ·cases hs
     ·-- onto an array of the call's own
      rename_i n hev
      rw [hev] at hsv fin
      simp only at fin
      split at hs
      ·rename_i e' z' rows hn
       split at hs
       ·rename_i hcond2
        obtain⟨rfl,rfl,hsum⟩:=hcond2
        cases hs
        have h39:(2:Nat) ^ 39=549755813888:=by decide
        rcases h.mem.arr hn with ⟨h0,rfl⟩ | ⟨b,c,cur,hμ',hh,hle',hcm',hsz,hzz,hdd⟩
        ·-- it is nil as yet
         rcases z29 hsv with ⟨hμ,hsval⟩ | ⟨b,z,l,c,hμ,hsval⟩
         ·by_cases hx0:xs=[]
          ·subst hx0
           have hr:=z111 (P:=P) (w:=w) ht hz (n:=0) o.type (a:=none) (sl:=0) (sc:=0) (c:=cx) (a':=ax) (Nat.le_refl _) rfl
           have hst:=z694 h hn (w':=w) (L:=.none0) (rows':=[]++[]) (fun _ _ _=>rfl) (Nat.le_refl _) (fun _ _ _ _ e=>by cases e) (.inl ⟨Pl.upd_same μ n _,rfl⟩)
           refine fin (.slice none 0 0) w _ _ ?_ hst (.ownNil (Pl.upd_same μ n _)) (z66 (.refl _ _) (fun _ _ _=>rfl) (fun _ _ _ _ e=>by cases e))
           simp only [val] at hxval ⊢;rw [hsval,hxval];simpa using hr
          ·obtain⟨hxz,b,off,cap,hxval2,f,hf2⟩:=z49 h hxv hxs hhead hx0
           obtain⟨hn1,hn2⟩:=z156 (out:=out) (μ:=μ) hxz hf2
           have hpos:0<xs.length:=List.length_pos_iff.2 hx0
           simp only [List.length_nil,Nat.zero_add] at hsum
           have hby128:xs.length * i.bytes≤281474976710656:=by
            rw [hib]
            calc xs.length * by_≤2 ^ 39 * 2 ^ 7:=Nat.mul_le_mul hsum hb7
             _≤281474976710656:=by decide
           have hr:=run_append_nil (P:=P) w t' o.type e' i zv (z12 ht) hi hiz ⟨b,off,none⟩ xs.length cap (flat xs.length z' f) (by rw [z14,his]) hn1 hpos (by omega) hby128
           have hge:=grownCap_ge w xs.length 0 e'
           have hcm:grownCap w xs.length 0 e'≤maxLen:=grownCap_le_maxLen w xs.length 0 e' (by simp only [maxLen];omega)
           have hB:Below w.heap.size w (w.drew.alloc (.cells ((flat xs.length z' f).toArray++Builtin.zeroCells zv.cells (grownCap w xs.length 0 e' - xs.length)) e')):=(Below.refl _ _).drew.alloc (Nat.le_refl _) _
           have hg:Goes w (ownOf out μ) (w.drew.alloc (.cells ((flat xs.length z' f).toArray++Builtin.zeroCells zv.cells (grownCap w xs.length 0 e' - xs.length)) e')) (ownOf out (μ.upd n (some (.at w.heap.size z' xs.length (grownCap w xs.length 0 e'))))):=fun b o v hb hc=>by
            have hlt:=hc.lt
            refine⟨?_,(z83 (ownOf out μ) hB b o v hb hc).2⟩
            rintro (h2 | ⟨k,z,l,c,h2⟩)
            ·exact hb (.inl h2)
            ·by_cases hk:k=n
             ·subst hk;rw [Pl.upd_same] at h2;cases h2;omega
             ·rw [Pl.upd_ne μ _ hk] at h2;exact hb (.inr ⟨k,z,l,c,h2⟩)
           have hst:=z694 h hn (w':=w.drew.alloc (.cells ((flat xs.length z' f).toArray++Builtin.zeroCells zv.cells (grownCap w xs.length 0 e' - xs.length)) e')) (L:=.at w.heap.size z' xs.length (grownCap w xs.length 0 e')) (rows':=[]++xs)
            (fun k hk _=>hB.block k hk) hB.size (fun b z l c e=>by cases e;exact .inr ⟨Nat.le_refl _,by simp⟩)
            (.inr ⟨w.heap.size,_,_,Pl.upd_same μ n _,heap_alloc_new w.drew _,hge,hcm,by rw [Array.size_append,size_zeroCells,hzs,List.size_toArray,z14,← Nat.add_mul];congr 1;omega,hxz,
             fun i r j dv hi hj=>by
              have hil:i<xs.length:=(List.getElem?_eq_some_iff.1 hi).1
              have hjz:j<z':=by rw [← hxz r (List.mem_of_getElem? hi)];exact (List.getElem?_eq_some_iff.1 hj).1
              have hg2:=z87 f hil hjz
              obtain⟨p1,p2,p3⟩:=hf2 i r j dv hi hj
              refine⟨f i j,?_,p2,p3.goes hg⟩
              rw [Array.getElem?_append_left (by have:=(List.getElem?_eq_some_iff.1 hg2).1;simpa using this)]
              simpa using hg2⟩)
           refine fin (.slice (some ⟨w.heap.size,0,none⟩) xs.length (grownCap w xs.length 0 e')) _ _ _ ?_ hst (.own (Pl.upd_same μ n _)) (z66 (z54 hB h.le) (fun k hk _=>hB.block k hk) (fun b z l c e=>by cases e;exact .inr ⟨Nat.le_refl _,by simp⟩))
           simp only [val] at hxval2 ⊢;rw [hsval,hxval2];exact hr
         ·rw [h0] at hμ;cases hμ
        ·rcases z29 hsv with ⟨hμ,hsval⟩ | ⟨b2,zz,l2,c2,hμ,hsval⟩
         ·rw [hμ'] at hμ;cases hμ
         rw [hμ] at hμ';cases hμ'
         have hcurl:rows.length * z'≤cur.size:=by rw [hsz];exact Nat.mul_le_mul_right _ hle'
         by_cases hx0:xs=[]
         ·subst hx0
          have hr:=z111 (P:=P) (w:=w) ht hz (n:=0) o.type (a:=some ⟨b,0,none⟩) (sl:=rows.length) (sc:=c) (c:=cx) (a':=ax) hle' rfl
          have hown:∀ k,ownOf out μ k↔ownOf out (μ.upd n (some (.at b z' rows.length c))) k:=fun k=>by
           have:μ.upd n (some (.at b z' rows.length c))=μ:=by
            funext a;by_cases ha:a=n
            ·subst ha;rw [Pl.upd_same,hμ]
            ·rw [Pl.upd_ne μ _ ha]
           rw [this]
          have hst:=z694 h hn (w':=w) (L:=.at b z' rows.length c) (rows':=rows++[]) (fun _ _ _=>rfl) (Nat.le_refl _) (fun _ _ _ _ e=>by cases e;exact .inl ⟨_,_,_,hμ⟩)
           (.inr ⟨b,c,cur,by simpa using Pl.upd_same μ n _,hh,by simpa using hle',hcm',hsz,by simpa using hzz,fun i r j dv hi hj=>by
            rw [List.append_nil] at hi
            obtain⟨v,p1,p2,p3⟩:=hdd i r j dv hi hj
            exact⟨v,p1,p2,p3.goes (fun b o v h1 h2=>⟨fun hc=>h1 ((hown b).2 hc),h2⟩)⟩⟩)
          refine fin (.slice (some ⟨b,0,none⟩) rows.length c) w _ _ ?_ hst (.own (Pl.upd_same μ n _)) (z66 (.refl _ _) (fun _ _ _=>rfl) (fun _ _ _ _ e=>by cases e;exact .inl ⟨_,_,_,hμ⟩))
          simp only [val] at hxval ⊢;rw [hsval,hxval];simpa using hr
         ·obtain⟨hxz,bx,off,cap,hxval2,f,hf2⟩:=z49 h hxv hxs hhead hx0
          obtain⟨hn1,hn2⟩:=z156 (out:=out) (μ:=μ) hxz hf2
          have hall:∀ r ∈ rows++xs,r.length=z':=fun r hr=>by
           rcases List.mem_append.1 hr with h1 | h1
           ·exact hzz r h1
           ·exact hxz r h1
          by_cases hroom:rows.length + xs.length≤c
          ·-- in place
           have hfit:rows.length * i.size + (flat xs.length z' f).length≤cur.size:=by
            rw [his,z14,hsz,← Nat.add_mul];exact Nat.mul_le_mul_right _ hroom
           have hr:=run_append_room (P:=P) w t' o.type e' i (z12 ht) hi b rows.length c cur hh ⟨bx,off,none⟩ xs.length cap (flat xs.length z' f) (by rw [z14,his]) hn1 hn2 hroom hfit
           rw [his] at hr hfit
           have hW:Wrote b w (w.setRow b (cur.toList.take (rows.length * z')++flat xs.length z' f++cur.toList.drop (rows.length * z' + (flat xs.length z' f).length)).toArray):=z30
           have hownb:(ownOf out μ) b:=.inr ⟨n,_,_,_,hμ⟩
           have hupd:ownOf out (μ.upd n (some (.at b z' (rows.length + xs.length) c)))=ownOf out μ:=by
            funext k
            apply propext
            constructor
            ·rintro (h1 | ⟨a,z,l,c,h1⟩)
             ·exact .inl h1
             ·by_cases ha:a=n
              ·subst ha;rw [Pl.upd_same] at h1;cases h1;exact .inr ⟨_,_,_,_,hμ⟩
              ·rw [Pl.upd_ne μ _ ha] at h1;exact .inr ⟨_,_,_,_,h1⟩
            ·rintro (h1 | ⟨a,z,l,c,h1⟩)
             ·exact .inl h1
             ·by_cases ha:a=n
              ·subst ha;rw [hμ] at h1;cases h1;exact .inr ⟨_,_,_,_,Pl.upd_same μ _ _⟩
              ·exact .inr ⟨a,z,l,c,by rw [Pl.upd_ne μ _ ha];exact h1⟩
           have hg:=hW.goes hownb
           have hmid:=z249 cur.toList (flat xs.length z' f) (rows.length * z') (by simpa using hfit)
           have hst:=z694 h hn (w':=w.setRow b (cur.toList.take (rows.length * z')++flat xs.length z' f++cur.toList.drop (rows.length * z' + (flat xs.length z' f).length)).toArray) (L:=.at b z' (rows.length + xs.length) c) (rows':=rows++xs)
            (fun k _ hk=>hW.block k (fun e=>hk _ _ _ (e ▸ hμ))) (Nat.le_of_eq hW.size.symm) (fun _ _ _ _ e=>by cases e;exact .inl ⟨_,_,_,hμ⟩)
            (.inr ⟨b,c,_,by simpa using Pl.upd_same μ n _,setRow_heap w b cur _ e' _ hh,by simpa using hroom,hcm',by
              simp only [List.size_toArray,List.length_append,List.length_take,List.length_drop,Array.length_toList];omega,hall,by
              rw [hupd]
              have:=z203 (out:=out) (μ:=μ) (w:=w) (rows:=rows) (xs:=xs) (cs:=cur.toList.take (rows.length * z')++flat xs.length z' f++cur.toList.drop (rows.length * z' + (flat xs.length z' f).length)) (cur:=cur)
               (by simp;omega) hzz hxz hg
               (fun q hq=>by rw [hmid,if_neg (by omega)];simp)
               (fun q hq=>by rw [hmid,if_pos (by rw [z14];omega)];congr 1;omega) hdd hf2
              simpa using this⟩)
           refine fin (.slice (some ⟨b,0,none⟩) (rows.length + xs.length) c) _ _ _ ?_ hst (.own (Pl.upd_same μ n _)) (z66 (hW.keep hh (h.mem.base n b _ _ _ hμ).1) (fun k _ hk=>hW.block k (fun e=>hk _ _ _ (e ▸ hμ))) (fun _ _ _ _ e=>by cases e;exact .inl ⟨_,_,_,hμ⟩))
           simp only [val] at hxval2 ⊢;rw [hsval,hxval2];exact hr
          ·-- z694
           have holds:∀ q u,(cur.toList.take (rows.length * z'))[q]?=some u→w.cell? ((⟨b,0,none⟩:Addr).add q)=some u:=fun q u hq=>by
            rw [Addr.add_lit,z17 hh,Nat.zero_add]
            rw [List.getElem?_take] at hq
            split at hq
            ·simpa using hq
            ·cases hq
           have hr:=run_append_grow (P:=P) w t' o.type e' i zv (z12 ht) hi hiz ⟨b,0,none⟩ rows.length c (cur.toList.take (rows.length * z')) (by rw [his];simp;omega) holds ⟨bx,off,none⟩ xs.length cap (flat xs.length z' f) (by rw [z14,his]) hn1
            (by omega) (by omega) (by rw [hib];exact z153 hsum hb7 (by omega))
           have hge:=grownCap_ge w (rows.length + xs.length) c e'
           have hcm:grownCap w (rows.length + xs.length) c e'≤maxLen:=grownCap_le_maxLen w _ c e' (by simp only [maxLen];omega)
           obtain⟨W,hW⟩:∃ W,w.drew.alloc (.cells ((cur.toList.take (rows.length * z')).toArray++(flat xs.length z' f).toArray++Builtin.zeroCells zv.cells (grownCap w (rows.length + xs.length) c e' - (rows.length + xs.length))) e')=W:=⟨_,rfl⟩
           have hB:Below w.heap.size w W:=by rw [← hW];exact (Below.refl _ _).drew.alloc (Nat.le_refl _) _
           have hnew:W.heap[w.heap.size]?=some (.cells ((cur.toList.take (rows.length * z')).toArray++(flat xs.length z' f).toArray++Builtin.zeroCells zv.cells (grownCap w (rows.length + xs.length) c e' - (rows.length + xs.length))) e' (0,0)):=by rw [← hW];exact heap_alloc_new w.drew _
           rw [hW] at hr
           have hg:Goes w (ownOf out μ) W (ownOf out (μ.upd n (some (.at w.heap.size z' (rows.length + xs.length) (grownCap w (rows.length + xs.length) c e'))))):=fun b o v hb hc=>by
            have hlt:=hc.lt
            refine⟨?_,(z83 (ownOf out μ) hB b o v hb hc).2⟩
            rintro (h2 | ⟨k,z,l,c,h2⟩)
            ·exact hb (.inl h2)
            ·by_cases hk:k=n
             ·subst hk;rw [Pl.upd_same] at h2;cases h2;omega
             ·rw [Pl.upd_ne μ _ hk] at h2;exact hb (.inr ⟨k,z,l,c,h2⟩)
           have htl:(cur.toList.take (rows.length * z')).length=rows.length * z':=by simp;omega
           have hst:=z694 h hn (w':=W) (L:=.at w.heap.size z' (rows.length + xs.length) (grownCap w (rows.length + xs.length) c e')) (rows':=rows++xs)
            (fun k hk _=>hB.block k hk) hB.size (fun b z l c e=>by cases e;exact .inr ⟨Nat.le_refl _,(Array.getElem?_eq_some_iff.1 hnew).1⟩)
            (.inr ⟨w.heap.size,_,_,by simpa using Pl.upd_same μ n _,hnew,by simpa using hge,hcm,by
              rw [Array.size_append,Array.size_append,size_zeroCells,hzs,List.size_toArray,List.size_toArray,z14,htl,← Nat.add_mul,← Nat.add_mul];congr 1;omega,hall,by
              have:=z203 (out:=out) (μ:=μ) (w:=w) (rows:=rows) (xs:=xs) (cs:=cur.toList.take (rows.length * z')++(flat xs.length z' f++(Builtin.zeroCells zv.cells (grownCap w (rows.length + xs.length) c e' - (rows.length + xs.length))).toList)) (cur:=cur)
               (by simp;omega) hzz hxz hg
               (fun q hq=>by rw [List.getElem?_append_left (by omega),List.getElem?_take,if_pos hq];simp)
               (fun q hq=>by
                rw [List.getElem?_append_right (by omega),htl,List.getElem?_append_left (by rw [z14];omega)]
                congr 1;omega) hdd hf2
              simpa [← Array.getElem?_toList,List.append_assoc] using this⟩)
           refine fin (.slice (some ⟨w.heap.size,0,none⟩) (rows.length + xs.length) (grownCap w (rows.length + xs.length) c e')) W _ _ ?_ hst (.own (Pl.upd_same μ n _)) (z66 (z54 hB h.le) (fun k hk _=>hB.block k hk) (fun b z l c e=>by cases e;exact .inr ⟨Nat.le_refl _,(Array.getElem?_eq_some_iff.1 hnew).1⟩))
           simp only [val] at hxval2 ⊢;rw [hsval,hxval2];exact hr
       ·cases hs
      ·cases hs
     ·-- onto an array with room
      rename_i n len hev
      rw [hev] at hsv
      split at hs
      ·rename_i e' z' rows hn
       split at hs
       ·rename_i hcond2
        obtain⟨rfl,rfl,rfl,hx1⟩:=hcond2
        cases hs
        obtain⟨b,zq,c,hμ,hsval,hlt⟩:=z1262 hsv
        obtain⟨b',c',cur,hμ',hh,hle',hcm',hsz,hzz,hdd⟩:=h.mem.arrP hn
        rw [hμ] at hμ';cases hμ'
        have hx0:xs≠[]:=by rintro rfl;simp at hx1
        obtain⟨hxz,bx,off,cap,hxval2,f,hf2⟩:=z49 h hxv hxs hhead hx0
        obtain⟨hn1,hn2⟩:=z156 (out:=out) (μ:=μ) hxz hf2
        have hcurl:rows.length * z'≤cur.size:=by rw [hsz];exact Nat.mul_le_mul_right _ hle'
        have hroom:rows.length + xs.length≤c:=by omega
        have hfit:rows.length * i.size + (flat xs.length z' f).length≤cur.size:=by
         rw [his,z14,hsz,← Nat.add_mul];exact Nat.mul_le_mul_right _ hroom
        have hr:=run_append_room (P:=P) w t' o.type e' i (z12 ht) hi b rows.length c cur hh ⟨bx,off,none⟩ xs.length cap (flat xs.length z' f) (by rw [z14,his]) hn1 hn2 hroom hfit
        rw [his] at hr hfit
        have hW:Wrote b w (w.setRow b (cur.toList.take (rows.length * z')++flat xs.length z' f++cur.toList.drop (rows.length * z' + (flat xs.length z' f).length)).toArray):=z30
        have hownb:(ownOf out μ) b:=.inr ⟨n,_,_,_,hμ⟩
        have hg:=hW.goes hownb
        have hmid:=z249 cur.toList (flat xs.length z' f) (rows.length * z') (by simpa using hfit)
        have hst:=h.write hμ hW (blk:=.arrP e' z' (rows++xs)) ⟨b,c,_,hμ,setRow_heap w b cur _ e' _ hh,by simpa using hroom,hcm',by
          simp only [List.size_toArray,List.length_append,List.length_take,List.length_drop,Array.length_toList];omega,(fun r hr=>by
           rcases List.mem_append.1 hr with h1 | h1
           ·exact hzz r h1
           ·exact hxz r h1),by
          have:=z203 (out:=out) (μ:=μ) (w:=w) (rows:=rows) (xs:=xs) (cs:=cur.toList.take (rows.length * z')++flat xs.length z' f++cur.toList.drop (rows.length * z' + (flat xs.length z' f).length)) (cur:=cur)
           (by simp;omega) hzz hxz hg
           (fun q hq=>by rw [hmid,if_neg (by omega)];simp)
           (fun q hq=>by rw [hmid,if_pos (by rw [z14];omega)];congr 1;omega) hdd hf2
          simpa using this⟩
        refine⟨.value (.slice (some ⟨b,0,none⟩) (rows.length + xs.length) c),.slice (some ⟨b,0,none⟩) (rows.length + xs.length) c,_,μ,fun ds=>?_,.inl rfl,?_,hW.keepO hh (h.mem.base n b _ _ _ hμ).1 (.inr ⟨n,_,_,_,hμ⟩)⟩
        ·unfold execOp
         rw [z22]
         skip
         simp [ho,resolve,invoke,builtin,hsval,hxval2,hr]
        ·have:=hst.put (x:=.vh n (rows.length + 1)) (v:=.slice (some ⟨b,0,none⟩) (rows.length + xs.length) c) (by rw [hx1];exact .vh _ hμ (by omega)) o.dst
         exact this
       ·cases hs
      ·cases hs
     ·-- onto a full array that is nobody's
      rename_i rows hev
      rw [hev] at hsv
      split at hs
      ·rename_i hf
       split at hs
       ·rename_i hcond2
        obtain⟨hsum,hr0,hx0',hheadr⟩:=hcond2
        cases hs
        have h39:(2:Nat) ^ 39=549755813888:=by decide
        obtain⟨a,hsval,hdr⟩:=z1089 hsv
        have hx0:xs≠[]:=by rintro rfl;simp at hx0'
        have hrx0:rows≠[]:=by rintro rfl;simp at hr0
        obtain⟨hxz,bx,off,cap,hxval2,f,hf2⟩:=z49 h hxv hxs hhead hx0
        obtain⟨hn1,hn2⟩:=z156 (out:=out) (μ:=μ) hxz hf2
        rcases z342 (μ:=μ) (.d hdr) with ⟨h0,_⟩ | ⟨b,off2,z2,cap2,hsv2,hle2,hzz2,g,hgc,hgd⟩
        ·exact absurd h0 hrx0
        rw [hsval] at hsv2
        cases hsv2
        have hz2:z2=zl:=by
         cases rows with
         | nil=>exact absurd rfl hrx0
         | cons r rs =>
          have h1:=hzz2 r (List.mem_cons_self ..)
          simp [headIs] at hheadr
          omega
        subst hz2
        have hgf:∀ (i:Nat) r (j:Nat) d,rows[i]?=some r→r[j]?=some d→w.cell? ⟨b,off2 + i * z2 + j,none⟩=some (g i j)∧(g i j).oneCell'=true∧DRel w (ownOf out μ) d (g i j):=fun i r j d h1 h2=>⟨(hgc i r j d h1 h2).2.1,(hgc i r j d h1 h2).2.2,hgd i r j d h1 h2⟩
        obtain⟨hm1,hm2⟩:=z156 (out:=out) (μ:=μ) hzz2 hgf
        have holds:∀ q u,(flat rows.length z2 g)[q]?=some u→w.cell? ((⟨b,off2,none⟩:Addr).add q)=some u:=hm1
        have hr:=run_append_grow (P:=P) w t' o.type e i zv (z12 ht) hi hiz ⟨b,off2,none⟩ rows.length rows.length (flat rows.length z2 g) (by rw [his];exact z14 _ _ _) holds ⟨bx,off,none⟩ xs.length cap (flat xs.length z2 f) (by rw [z14,his]) hn1
         (by omega) (by omega) (by rw [hib];exact z153 hsum hb7 (by omega))
        have hge:=grownCap_ge w (rows.length + xs.length) rows.length e
        have hcm:grownCap w (rows.length + xs.length) rows.length e≤maxLen:=grownCap_le_maxLen w _ rows.length e (by simp only [maxLen];omega)
        obtain⟨μ',hst,hB⟩:=z367 h (z19 hf) (e:=e) (z:=z2) (rows:=rows++xs) (cs:=(flat rows.length z2 g).toArray++(flat xs.length z2 f).toArray++Builtin.zeroCells zv.cells (grownCap w (rows.length + xs.length) rows.length e - (rows.length + xs.length))) (cap:=grownCap w (rows.length + xs.length) rows.length e)
         (w':=w.drew.alloc (.cells ((flat rows.length z2 g).toArray++(flat xs.length z2 f).toArray++Builtin.zeroCells zv.cells (grownCap w (rows.length + xs.length) rows.length e - (rows.length + xs.length))) e))
         ⟨w.drew,(Below.refl _ _).drew,rfl,rfl⟩ (by simpa using hge) hcm (by rw [Array.size_append,Array.size_append,size_zeroCells,hzs,List.size_toArray,List.size_toArray,z14,z14,← Nat.add_mul,← Nat.add_mul];congr 1;omega)
         (fun r hr=>by
          rcases List.mem_append.1 hr with h1 | h1
          ·exact hzz2 r h1
          ·exact hxz r h1)
         (fun i r j dv hi hj=>by
          by_cases hil:i<rows.length
          ·rw [List.getElem?_append_left hil] at hi
           have hjz:j<z2:=by rw [← hzz2 r (List.mem_of_getElem? hi)];exact (List.getElem?_eq_some_iff.1 hj).1
           have hg:=z87 g hil hjz
           obtain⟨p1,p2,p3⟩:=hgf i r j dv hi hj
           refine⟨g i j,?_,p2,p3⟩
           rw [Array.append_assoc,Array.getElem?_append_left (by have:=(List.getElem?_eq_some_iff.1 hg).1;simpa using this)]
           simpa using hg
          ·rw [List.getElem?_append_right (by omega)] at hi
           have hil2:i - rows.length<xs.length:=(List.getElem?_eq_some_iff.1 hi).1
           have hjz:j<z2:=by rw [← hxz r (List.mem_of_getElem? hi)];exact (List.getElem?_eq_some_iff.1 hj).1
           have hg:=z87 f hil2 hjz
           obtain⟨p1,p2,p3⟩:=hf2 (i - rows.length) r j dv hi hj
           refine⟨f (i - rows.length) j,?_,p2,p3⟩
           have e1:i * z2 + j=rows.length * z2 + ((i - rows.length) * z2 + j):=by
            rw [Nat.sub_mul]
            have:=Nat.mul_le_mul_right z2 (show rows.length≤i by omega)
            omega
           rw [Array.append_assoc,Array.getElem?_append_right (by rw [List.size_toArray,z14,e1];omega),List.size_toArray,z14,e1,Nat.add_sub_cancel_left,
            Array.getElem?_append_left (by have:=(List.getElem?_eq_some_iff.1 hg).1;simpa using this)]
           simpa using hg)
        refine⟨.value (.slice (some ⟨w.heap.size,0,none⟩) (rows.length + xs.length) (grownCap w (rows.length + xs.length) rows.length e)),.slice (some ⟨w.heap.size,0,none⟩) (rows.length + xs.length) (grownCap w (rows.length + xs.length) rows.length e),_,μ',fun ds=>?_,.inl rfl,by rw [hd];rw [List.length_append] at hst;exact hst,hB⟩
        unfold execOp
        rw [z22]
        simp [ho,resolve,invoke,builtin,hsval,hxval2,hr]
       ·cases hs
      ·cases hs
     ·-- onto a full array of the call's own
      rename_i n len hev
      rw [hev] at hsv
      split at hs
      ·rename_i e' z' rows hn hf
       split at hs
       ·rename_i hcond2
        obtain⟨rfl,hlen,hsum,hr0,hx0'⟩:=hcond2
        cases hs
        have h39:(2:Nat) ^ 39=549755813888:=by decide
        obtain⟨b,z0,c,hμ,hsval,hle⟩:=z1201 hsv
        have hx0:xs≠[]:=by rintro rfl;simp at hx0'
        obtain⟨hxz,bx,off,cap,hxval2,f,hf2⟩:=z49 h hxv hxs hhead hx0
        obtain⟨hn1,hn2⟩:=z156 (out:=out) (μ:=μ) hxz hf2
        rcases h.mem.arr hn with ⟨_,h0⟩ | ⟨b2,c2,cur,hμ',hh,hle',hcm',hsz,hzz,hdd⟩
        ·rw [h0] at hr0;simp at hr0
        rw [hμ] at hμ'
        simp only [Option.some.injEq,Loc.at.injEq] at hμ'
        obtain⟨rfl,rfl,hcl,rfl⟩:=hμ'
        subst hlen
        rw [hcl] at hsval hsz
        have hcurl:cur.toList.length=rows.length * z0:=by simpa using hsz
        have holds:∀ q u,cur.toList[q]?=some u→w.cell? ((⟨b,0,none⟩:Addr).add q)=some u:=fun q u hq=>by
         rw [Addr.add_lit,Nat.zero_add]
         simp only [World.cell?,hh]
         simpa using hq
        have hr:=run_append_grow (P:=P) w t' o.type e i zv (z12 ht) hi hiz ⟨b,0,none⟩ rows.length rows.length cur.toList (by rw [his];exact hcurl) holds ⟨bx,off,none⟩ xs.length cap (flat xs.length z0 f) (by rw [z14,his]) hn1
         (by omega) (by omega) (by rw [hib];exact z153 hsum hb7 (by omega))
        have hge:=grownCap_ge w (rows.length + xs.length) rows.length e
        have hcm:grownCap w (rows.length + xs.length) rows.length e≤maxLen:=grownCap_le_maxLen w _ rows.length e (by simp only [maxLen];omega)
        obtain⟨μ',hst,hB⟩:=z367 h (z19 hf) (e:=e) (z:=z0) (rows:=rows++xs) (cs:=cur.toList.toArray++(flat xs.length z0 f).toArray++Builtin.zeroCells zv.cells (grownCap w (rows.length + xs.length) rows.length e - (rows.length + xs.length))) (cap:=grownCap w (rows.length + xs.length) rows.length e)
         (w':=w.drew.alloc (.cells (cur.toList.toArray++(flat xs.length z0 f).toArray++Builtin.zeroCells zv.cells (grownCap w (rows.length + xs.length) rows.length e - (rows.length + xs.length))) e))
         ⟨w.drew,(Below.refl _ _).drew,rfl,rfl⟩ (by simpa using hge) hcm (by rw [Array.size_append,Array.size_append,size_zeroCells,hzs,List.size_toArray,List.size_toArray,hcurl,z14,← Nat.add_mul,← Nat.add_mul];congr 1;omega)
         (fun r hr=>by
          rcases List.mem_append.1 hr with h1 | h1
          ·exact hzz r h1
          ·exact hxz r h1)
         (fun i r j dv hi hj=>by
          by_cases hil:i<rows.length
          ·rw [List.getElem?_append_left hil] at hi
           obtain⟨u,p1,p2,p3⟩:=hdd i r j dv hi hj
           refine⟨u,?_,p2,p3⟩
           have hq:=(Array.getElem?_eq_some_iff.1 p1).1
           rw [Array.append_assoc,Array.getElem?_append_left (by simpa using hq)]
           simpa using p1
          ·rw [List.getElem?_append_right (by omega)] at hi
           have hil2:i - rows.length<xs.length:=(List.getElem?_eq_some_iff.1 hi).1
           have hjz:j<z0:=by rw [← hxz r (List.mem_of_getElem? hi)];exact (List.getElem?_eq_some_iff.1 hj).1
           have hg:=z87 f hil2 hjz
           obtain⟨p1,p2,p3⟩:=hf2 (i - rows.length) r j dv hi hj
           refine⟨f (i - rows.length) j,?_,p2,p3⟩
           have e1:i * z0 + j=rows.length * z0 + ((i - rows.length) * z0 + j):=by
            rw [Nat.sub_mul]
            have:=Nat.mul_le_mul_right z0 (show rows.length≤i by omega)
            omega
           rw [Array.append_assoc,Array.getElem?_append_right (by rw [List.size_toArray,hcurl,e1];omega),List.size_toArray,hcurl,e1,Nat.add_sub_cancel_left,
            Array.getElem?_append_left (by have:=(List.getElem?_eq_some_iff.1 hg).1;simpa using this)]
           simpa using hg)
        refine⟨.value (.slice (some ⟨w.heap.size,0,none⟩) (rows.length + xs.length) (grownCap w (rows.length + xs.length) rows.length e)),.slice (some ⟨w.heap.size,0,none⟩) (rows.length + xs.length) (grownCap w (rows.length + xs.length) rows.length e),_,μ',fun ds=>?_,.inl rfl,by rw [hd];rw [List.length_append] at hst;exact hst,hB⟩
        unfold execOp
        rw [z22]
        simp [ho,resolve,invoke,builtin,hsval,hxval2,hr]
       ·cases hs
      ·cases hs
     ·cases hs
    ·cases hs
   ·cases hs
  ·cases hs
 ·cases hs
theorem z207 {x:AV} {v:Value} {own:Own} (h:AVRel w own μ x v) {xs:List DV} (hx:x.flatAgg=some xs) :
  ∃ vs:Array Value,v=.agg vs∧xs.length=vs.size∧∀ (i:Nat) d u,xs[i]?=some d→vs[i]?=some u→DRel w own d u:=by
 unfold AV.flatAgg at hx
 split at hx
 ·obtain⟨vs,rfl,hl,hd⟩:=z343 h
  obtain⟨a1,a2⟩:=z15 hx
  refine⟨vs,rfl,by rw [← a1];simpa using hl,fun i d u h1 h2=>?_⟩
  have h3:=a2 i d h1
  simp only [List.getElem?_map,Option.map_eq_some_iff] at h3
  obtain⟨c,hc,hr⟩:=h3
  unfold leafD at hr
  split at hr
  ·cases hr;exact (hd i _ u hc h2).d_inv
  ·cases hr
 ·cases hx
  obtain⟨vs,rfl,hl,hd⟩:=z911 h
  exact⟨vs,rfl,hl,fun i d u h1 h2=>hd i d u h1 h2⟩
 ·cases hx
theorem z27 {t:TypeId} {b:Bool} (h:tleaf P t=some b) {cs:Array Value} {off:Nat} {v:Value} (hv:cs[off]?=some v):(part t cs off).run P w=.ok v w:=by
 have hg:tagg P t=some false:=by
  unfold tleaf at h
  unfold tagg
  split at h
  ·rename_i hu;rw [hu]
  ·rename_i hu;rw [hu]
  ·cases h
 simp only [part,Sem.run_bind,z172 hg,Result.andThen_ok,Bool.false_eq_true,if_false,hv]
 rfl
theorem z729 {t:TypeId} {b r:Bool} (h:tleaf P t=some b) {x y:DV} {u v:Value} {own:Own} (hx:DRel w own x u) (hy:DRel w own y v) (he:eqOne b x y=some r) (d:Nat) :
  (Op.equalIn (d + 1) t u v).run P w=.ok r w:=by
 unfold eqOne at he
 split at he
 ·split at he
  ·rename_i hb
   obtain⟨rfl,rfl⟩:=hb
   cases he
   cases hx;cases hy
   unfold tleaf at h
   split at h
   ·cases h
   ·rename_i k hu;exact run_equalIn_int w d t _ k _ _ hu
   ·cases h
  ·cases he
 ·split at he
  ·rename_i hb
   subst hb
   cases he
   cases hx;cases hy
   unfold tleaf at h
   split at h
   ·rename_i hu;exact run_equalIn_bool' w d t _ _ hu
   ·cases h
   ·cases h
  ·cases he
 ·cases he
theorem z290 {xs ys:List DV} {us vs:Array Value} {own:Own} (hxl:xs.length=us.size) (hx:∀ (i:Nat) d u,xs[i]?=some d→us[i]?=some u→DRel w own d u) (hyl:ys.length=vs.size) (hy:∀ (i:Nat) d u,ys[i]?=some d→vs[i]?=some u→DRel w own d u) (d:Nat) :
  ∀ (fs:List Field) (l:List (Nat × Bool)) (r:Bool),teqL P fs=some l→eqAt xs ys l=some r→(Op.eqFields (d + 1) us vs fs).run P w=.ok r w
 | [],l,r,hl,he=>by
  simp [teqL] at hl
  subst hl
  cases he
  rfl
 | f::fs,l,r,hl,he=>by
  simp only [teqL,List.mapM_cons,Option.bind_eq_bind,Option.pure_def,Option.bind_eq_some_iff] at hl
  obtain⟨p,hp,l',hl',e⟩:=hl
  cases e
  split at hp
  ·cases hp
  rename_i hne
  simp only [Option.map_eq_some_iff] at hp
  obtain⟨b,hb,rfl⟩:=hp
  simp only [eqAt] at he
  split at he
  ·rename_i x y hxi hyi
   split at he
   ·rename_i a c ha hc
    cases he
    have hi1:f.offset<us.size:=by rw [← hxl];exact (List.getElem?_eq_some_iff.1 hxi).1
    have hi2:f.offset<vs.size:=by rw [← hyl];exact (List.getElem?_eq_some_iff.1 hyi).1
    have ih:=z290 hxl hx hyl hy d fs l' c hl' hc
    have q1:=hx f.offset x us[f.offset] hxi (by simp [hi1])
    have q2:=hy f.offset y vs[f.offset] hyi (by simp [hi2])
    simp only [Op.eqFields,ne_eq,hne,not_false_eq_true,if_true,Sem.run_bind,z27 hb (show us[f.offset]?=some us[f.offset] by simp [hi1]),z27 hb (show vs[f.offset]?=some vs[f.offset] by simp [hi2]),Result.andThen_ok,z729 hb q1 q2 ha d]
    cases a
    ·simp
    ·simpa using ih
   ·cases he
  ·cases he
theorem z353 {xs ys:List DV}:∀ (l1 l2:List (Nat × Bool)) (r:Bool),eqAt xs ys (l1++l2)=some r→∃ a b,eqAt xs ys l1=some a∧eqAt xs ys l2=some b∧r=(a && b)
 | [],l2,r,h=>⟨true,r,rfl,h,by simp⟩
 | p::l1,l2,r,h=>by
  simp only [List.cons_append,eqAt] at h
  split at h
  ·rename_i x y hx hy
   split at h
   ·rename_i a c ha hc
    cases h
    obtain⟨a',b',h1,h2,rfl⟩:=z353 l1 l2 c hc
    refine⟨a && a',b',?_,h2,by rw [Bool.and_assoc]⟩
    simp only [eqAt,hx,hy,ha,h1]
   ·cases h
  ·cases h
theorem z471 {xs ys:List DV} {off size:Nat}:∀ (l:List (Nat × Bool)) (r:Bool),(l.all fun p=>decide (p.1<size))=true→eqAt xs ys (l.map fun p=>(off + p.1,p.2))=some r→eqAt ((xs.drop off).take size) ((ys.drop off).take size) l=some r
 | [],r,_,h=>h
 | p::l,r,hs,h=>by
  simp only [List.all_cons,Bool.and_eq_true,decide_eq_true_eq] at hs
  simp only [List.map_cons,eqAt] at h ⊢
  have e:∀ zs:List DV,((zs.drop off).take size)[p.1]?=zs[off + p.1]?:=fun zs=>by rw [List.getElem?_take,if_pos hs.1,List.getElem?_drop]
  rw [e,e]
  split at h
  ·rename_i x y hx hy
   split at h
   ·rename_i a c ha hc
    cases h
    simp only [hx,hy,ha,z471 l c hs.2 hc]
   ·cases h
  ·cases h
theorem z907 {xs:List DV} {us:Array Value} {own:Own} (hxl:xs.length=us.size) (hx:∀ (i:Nat) d u,xs[i]?=some d→us[i]?=some u→DRel w own d u) (off size:Nat) :
  ((xs.drop off).take size).length=(us.extract off (off + size)).size∧∀ (i:Nat) d u,((xs.drop off).take size)[i]?=some d→(us.extract off (off + size))[i]?=some u→DRel w own d u:=by
 refine⟨by simp only [List.length_take,List.length_drop,Array.size_extract];omega,fun i d u h1 h2=>?_⟩
 rw [List.getElem?_take] at h1
 split at h1
 ·rw [List.getElem?_drop] at h1
  rw [Array.getElem?_extract] at h2
  split at h2
  ·exact hx _ d u h1 h2
  ·cases h2
 ·cases h1
theorem z352 {xs ys:List DV} {us vs:Array Value} {own:Own} (hxl:xs.length=us.size) (hx:∀ (i:Nat) d u,xs[i]?=some d→us[i]?=some u→DRel w own d u) (hyl:ys.length=vs.size) (hy:∀ (i:Nat) d u,ys[i]?=some d→vs[i]?=some u→DRel w own d u) (d:Nat) :
  ∀ (fs:List Field) (ls:List (List (Nat × Bool))) (r:Bool),fs.mapM (teqPart P)=some ls→eqAt xs ys ls.flatten=some r→(Op.eqFields (d + 2) us vs fs).run P w=.ok r w
 | [],ls,r,hl,he=>by
  simp at hl
  subst hl
  cases he
  rfl
 | f::fs,ls,r,hl,he=>by
  simp only [List.mapM_cons,Option.bind_eq_bind,Option.pure_def,Option.bind_eq_some_iff] at hl
  obtain⟨p,hp,ls',hl',e⟩:=hl
  cases e
  rw [List.flatten_cons] at he
  obtain⟨a,c,ha,hc,rfl⟩:=z353 _ _ _ he
  have ih:=z352 hxl hx hyl hy d fs ls' c hl' hc
  unfold teqPart at hp
  split at hp
  ·cases hp
  rename_i hne
  split at hp
  ·rename_i b hb
   cases hp
   simp only [eqAt] at ha
   split at ha
   ·rename_i x y hxi hyi
    split at ha
    ·rename_i a2 c2 ha2 hc2
     cases ha
     cases hc2
     have hi1:f.offset<us.size:=by rw [← hxl];exact (List.getElem?_eq_some_iff.1 hxi).1
     have hi2:f.offset<vs.size:=by rw [← hyl];exact (List.getElem?_eq_some_iff.1 hyi).1
     have q1:=hx f.offset x us[f.offset] hxi (by simp [hi1])
     have q2:=hy f.offset y vs[f.offset] hyi (by simp [hi2])
     simp only [Op.eqFields,ne_eq,hne,not_false_eq_true,if_true,Sem.run_bind,z27 hb (show us[f.offset]?=some us[f.offset] by simp [hi1]),z27 hb (show vs[f.offset]?=some vs[f.offset] by simp [hi2]),Result.andThen_ok,z729 hb q1 q2 ha2 (d + 1)]
     cases a2
     ·simp
     ·simpa using ih
    ·cases ha
   ·cases ha
  ·split at hp
   ·rename_i gs size hgs hsz
    split at hp
    ·cases hp
    rename_i hst0
    split at hp
    ·rename_i l hlq
     split at hp
     ·rename_i hall
      cases hp
      have hsh:=z471 l a hall ha
      obtain⟨x1,x2⟩:=z907 hxl hx f.offset size
      obtain⟨y1,y2⟩:=z907 hyl hy f.offset size
      have hin:=z290 (P:=P) (w:=w) x1 x2 y1 y2 d gs.toList l a hlq hsh
      have hst:P.underlying f.type=some (.struct (P.fieldsOf f.type)):=by unfold Program.fieldsOf;rw [hgs]
      have hff:P.fieldsOf f.type=gs:=by unfold Program.fieldsOf;rw [hgs]
      have hstood:P.stoodInHeld f.type=false:=by simpa using hst0
      have hag:tagg P f.type=some true:=by unfold tagg;rw [hgs]
      have heq:(Op.equalIn (d + 2) f.type (.agg (us.extract f.offset (f.offset + size))) (.agg (vs.extract f.offset (f.offset + size)))).run P w=.ok a w:=by
       rw [run_equalIn_agg w (d + 1) f.type _ _ hst hstood,hff]
       exact hin
      have p1:=z185 (P:=P) (w:=w) hag hsz (cs:=us) (off:=f.offset)
      have p2:=z185 (P:=P) (w:=w) hag hsz (cs:=vs) (off:=f.offset)
      rw [if_pos rfl] at p1 p2
      simp only [Op.eqFields,ne_eq,hne,not_false_eq_true,if_true,Sem.run_bind,p1,p2,Result.andThen_ok,heq]
      cases a
      ·simp
      ·simpa using ih
     ·cases hp
    ·cases hp
   ·cases hp
theorem z1214 (h:StRel P base out st μ tmps w) {op:BinOp} {t t':TypeId} {x y:Operand} (ho:o.op=.binOp op t x y t') {r:AV}
  (hs:opBinE P op t (st.ev x) (st.ev y)=some r):OpOK P base out μ o (st.put o.dst r) tmps w:=by
 unfold opBinE at hs
 split at hs
 ·rename_i xs hxs
  split at hs
  ·rename_i ys hys
   obtain⟨us,hu,hul,hud⟩:=z207 (h.ev x []) hxs
   obtain⟨vs,hv,hvl,hvd⟩:=z207 (h.ev y []) hys
   unfold opEqS at hs
   split at hs
   ·rename_i l hl
    split at hs
    ·rename_i b hb
     unfold teq at hl
     split at hl
     ·rename_i fs hfs
      split at hl
      ·cases hl
      rename_i hg
      simp only [Option.map_eq_some_iff] at hl
      obtain⟨ls,hls,rfl⟩:=hl
      simp only [Bool.or_eq_true,not_or,Bool.not_eq_true] at hg
      have hst:P.underlying t=some (.struct (P.fieldsOf t)):=by unfold Program.fieldsOf;rw [hfs]
      have hff:P.fieldsOf t=fs:=by unfold Program.fieldsOf;rw [hfs]
      have hrun:=z352 (P:=P) (w:=w) hul hud hvl hvd 9997 fs.toList ls b hls hb
      have heq:(Op.equalIn 10000 t (.agg us) (.agg vs)).run P w=.ok b w:=by
       rw [run_equalIn_agg w 9999 t us vs hst hg.1,hff]
       exact hrun
      split at hs
      ·cases hs
       refine z47 h (.d (.bool b)) ?_
       unfold execOp
       simp [ho,hu,hv,run_eqGuard_agg _ _ _ _ _ _ _ hg.2,run_eql_struct,heq]
      ·cases hs
       refine z47 h (.d (.bool (!b))) ?_
       unfold execOp
       simp [ho,hu,hv,run_eqGuard_agg _ _ _ _ _ _ _ hg.2,run_neq_struct,heq]
      ·cases hs
     ·cases hl
    ·cases hs
   ·cases hs
  ·cases hs
 ·exact z1259 h ho hs
end
end Go.Ab
/- Maps that are keyed by an int,or by a struct of ints: each operation does to the abstract state what the model does. -/
namespace Go.Ab
open Go.RowKit
section
variable {P:Program} {base:Own} {out:Own} {st st':St} {μ:Pl} {tmps:Array Value} {w:World} {o:Oper}
theorem MemRel.mp {m:List (Option Blk)} (h:MemRel base out w μ m) {n:Nat} {kk:KK} {es:List (MK × DV × Nat)} {c:Nat} (hn:m[n]?=some (some (.mp kk es c))) :
  ∃ b mes,μ n=some (.at b 0 2 2)∧w.heap[b]?=some (.map mes c)∧mes.size=es.length ∧
   ∀ (i:Nat) e m,es[i]?=some e→mes[i]?=some m→(m.key=e.1.val∧e.1.fits kk=true)∧m.born=e.2.2∧DRel w (ownOf out μ) e.2.1 m.val:=h.blk n _ hn
def KeyT (P:Program) (kt:TypeId):KK→Prop
 | none=>P.underlying kt=some (.int .i64)
 | some n=>tkeyS P kt=some n
theorem z181 {t e:TypeId} {kk:KK} (h:tmapK P t=some (kk,e)):∃ k,P.underlying t=some (.map k e)∧KeyT P k kk:=by
 unfold tmapK at h
 split at h
 ·rename_i k e' hu
  split at h
  ·rename_i hk;cases h;exact⟨k,hu,hk⟩
  ·split at h
   ·rename_i n hn;cases h;exact⟨k,hu,hn⟩
   ·cases h
 ·cases h
theorem z238 {k:TypeId} {ks:List IntKind} (h:tkeyS P k=some ks):∃ fs:Array Field,P.underlying k=some (.struct fs)∧P.stoodInHeld k=false∧segsInt P fs.toList 0=some ks:=by
 unfold tkeyS at h
 split at h
 ·rename_i fs hu
  split at h
  ·rename_i hc;exact⟨fs,hu,hc,h⟩
  ·cases h
 ·cases h
theorem z197 {t:TypeId} {b:Bool} {n:Nat} {k:IntKind} (h:fieldInts P t=some (b,n,k)) :
  (b=false∧n=1∧P.underlying t=some (.int k))∨(b=true∧∃ e,P.underlying t=some (.array n e)∧P.underlying e=some (.int k)∧tsz P e=some 1∧tsz P t=some n):=by
 unfold fieldInts at h
 split at h
 ·rename_i hu;cases h;exact .inl ⟨rfl,rfl,hu⟩
 ·rename_i m e hu
  split at h
  ·rename_i k' he
   split at h
   ·rename_i hc;cases h;exact .inr ⟨rfl,e,hu,he,hc.1,hc.2⟩
   ·cases h
  ·cases h
 ·cases h
def intVs (l:List (IntKind × Int)):Array Value:=(l.map fun p=>Value.int p.1 p.2).toArray
theorem z178 {l:List (IntKind × Int)} {i:Nat} (h:i<l.length):(intVs l)[i]?=some (.int l[i].1 l[i].2):=by simp [intVs,h]
theorem z225 (l:List (IntKind × Int)) (off n:Nat):(intVs l).extract off (off + n)=intVs ((l.drop off).take n):=by
 apply Array.toList_inj.1
 simp [intVs,List.extract,List.map_take,List.map_drop]
theorem z128 {t:TypeId} {q:IntKind} (h:P.underlying t=some (.int q)):tleaf P t=some false:=by simp [tleaf,h]
theorem z917 {a b:List (IntKind × Int)} {i:Nat} (ha:i<a.length) (hb:i<b.length):(a.drop i=b.drop i)=(a[i]=b[i]∧a.drop (i + 1)=b.drop (i + 1)):=by
 rw [List.drop_eq_getElem_cons ha,List.drop_eq_getElem_cons hb,List.cons.injEq]
theorem z546 {a:List (IntKind × Int)} {off n:Nat} {k:IntKind} {ks:List IntKind} (h:(a.drop off).map (·.1)=List.replicate n k++ks) :
  off + n≤a.length∨n=0:=by
 have:=congrArg List.length h
 simp at this
 omega
theorem z340 {a:List (IntKind × Int)} {off n:Nat} {k:IntKind} {ks:List IntKind} (h:(a.drop off).map (·.1)=List.replicate n k++ks) {i:Nat} (hi:i<n) (hl:off + i<a.length):a[off + i].1=k:=by
 have h1:=congrArg (fun l=>l[i]?) h
 simp only [List.getElem?_map,List.getElem?_drop,List.getElem?_eq_getElem hl,Option.map_some] at h1
 rw [List.getElem?_append_left (by simpa using hi),List.getElem?_replicate,if_pos hi] at h1
 exact Option.some.inj h1
theorem z253 {a:List (IntKind × Int)} {off n:Nat} {k:IntKind} {ks:List IntKind} (h:(a.drop off).map (·.1)=List.replicate n k++ks):(a.drop (off + n)).map (·.1)=ks:=by
 have h1:=congrArg (List.drop n) h
 rw [← List.map_drop,List.drop_drop,List.drop_left' (by simp)] at h1
 exact h1
theorem z289 {e:TypeId} {q:IntKind} (he:P.underlying e=some (.int q)) (d:Nat) (a b:List (IntKind × Int)) (hqa:∀ p ∈ a,p.1=q) (hqb:∀ p ∈ b,p.1=q) :
  ∀ (r i:Nat),i + r=a.length→a.length=b.length→(Op.eqItems (d + 1) e 1 (intVs a) (intVs b) (List.range' i r)).run P w=.ok (decide (a.drop i=b.drop i)) w
 | 0,i,h1,h2=>by
  have e1:a.drop i=[]:=List.drop_eq_nil_of_le (by omega)
  have e2:b.drop i=[]:=List.drop_eq_nil_of_le (by omega)
  simp [Op.eqItems,e1,e2]
 | r + 1,i,h1,h2=>by
  have ha:i<a.length:=by omega
  have hb:i<b.length:=by omega
  have ih:=z289 he d a b hqa hqb r (i + 1) (by omega) h2
  rw [List.range'_succ]
  have ka:a[i].1=q:=hqa _ (List.getElem_mem ha)
  have kb:b[i].1=q:=hqb _ (List.getElem_mem hb)
  have p1:=z27 (w:=w) (z128 he) (cs:=intVs a) (off:=i) (z178 ha)
  have p2:=z27 (w:=w) (z128 he) (cs:=intVs b) (off:=i) (z178 hb)
  rw [ka] at p1;rw [kb] at p2
  simp only [Op.eqItems,Sem.run_bind,Nat.mul_one,p1,p2,Result.andThen_ok,run_equalIn_int w d e q q a[i].2 b[i].2 he]
  have hd:=z917 ha hb
  have hab:(a[i]=b[i])=(a[i].2=b[i].2):=by rw [Prod.ext_iff];simp [ka,kb]
  by_cases h:a[i].2=b[i].2
  ·have e1:(a.drop i=b.drop i)=(a.drop (i + 1)=b.drop (i + 1)):=by rw [hd,hab];simp [h]
   simp only [h,e1,beq_self_eq_true,Bool.not_true,Bool.false_eq_true,if_false]
   exact ih
  ·have e1:(a.drop i=b.drop i)=False:=by rw [hd,hab];simp [h]
   simp only [e1,decide_false,beq_eq_false_iff_ne.2 h,Bool.not_false,if_true]
   rfl
theorem z228 (d:Nat) (a b:List (IntKind × Int)):∀ (fs:List Field) (off:Nat) (ks:List IntKind),segsInt P fs off=some ks→(a.drop off).map (·.1)=ks→(b.drop off).map (·.1)=ks →
  (Op.eqFields (d + 2) (intVs a) (intVs b) fs).run P w=.ok (decide (a.drop off=b.drop off)) w
 | [],off,ks,h,ha,hb=>by
  cases h
  have e1:a.drop off=[]:=by simpa using ha
  have e2:b.drop off=[]:=by simpa using hb
  simp [Op.eqFields,e1,e2]
 | f::fs,off,ks,h,ha,hb=>by
  unfold segsInt at h
  split at h
  ·cases h
  rename_i hn
  simp only [not_or,Decidable.not_not] at hn
  obtain⟨hn1,rfl⟩:=hn
  split at h
  ·rename_i q m k hm
   simp only [Option.map_eq_some_iff] at h
   obtain⟨ks',h,rfl⟩:=h
   have ih:=z228 d a b fs _ ks' h (z253 ha) (z253 hb)
   rcases z197 hm with ⟨_,rfl,hu⟩ | ⟨_,e,hu,hue,hse,hst⟩
   ·have hal:f.offset<a.length:=by rcases z546 ha with h | h <;> omega
    have hbl:f.offset<b.length:=by rcases z546 hb with h | h <;> omega
    have ka:a[f.offset].1=k:=z340 ha (i:=0) (by omega) hal
    have kb:b[f.offset].1=k:=z340 hb (i:=0) (by omega) hbl
    have p1:=z27 (w:=w) (z128 hu) (cs:=intVs a) (off:=f.offset) (z178 hal)
    have p2:=z27 (w:=w) (z128 hu) (cs:=intVs b) (off:=f.offset) (z178 hbl)
    rw [ka] at p1;rw [kb] at p2
    simp only [Op.eqFields,ne_eq,hn1,not_false_eq_true,if_true,Sem.run_bind,p1,p2,Result.andThen_ok,run_equalIn_int w (d + 1) f.type k k a[f.offset].2 b[f.offset].2 hu]
    have hd:=z917 hal hbl
    have hab:(a[f.offset]=b[f.offset])=(a[f.offset].2=b[f.offset].2):=by rw [Prod.ext_iff];simp [ka,kb]
    by_cases h:a[f.offset].2=b[f.offset].2
    ·have e1:(a.drop f.offset=b.drop f.offset)=(a.drop (f.offset + 1)=b.drop (f.offset + 1)):=by rw [hd,hab];simp [h]
     simp only [h,e1,beq_self_eq_true,Bool.not_true,Bool.false_eq_true,if_false]
     exact ih
    ·have e1:(a.drop f.offset=b.drop f.offset)=False:=by rw [hd,hab];simp [h]
     simp only [e1,decide_false,beq_eq_false_iff_ne.2 h,Bool.not_false,if_true]
     rfl
   ·have hag:tagg P f.type=some true:=by simp [tagg,hu]
    have p1:=z185 (P:=P) (w:=w) hag hst (cs:=intVs a) (off:=f.offset)
    have p2:=z185 (P:=P) (w:=w) hag hst (cs:=intVs b) (off:=f.offset)
    simp only [if_true,z225] at p1 p2
    obtain⟨i,hi,hiz⟩:∃ i,P.info? e=some i∧i.size=1:=by
     unfold tsz at hse
     rw [Option.map_eq_some_iff] at hse
     exact hse
    have hc:P.cellsOf e=1:=by unfold Program.cellsOf;rw [hi];simpa using hiz
    have hla:((a.drop f.offset).take m).map (·.1)=List.replicate m k:=by rw [List.map_take,ha,List.take_left' (by simp)]
    have hlb:((b.drop f.offset).take m).map (·.1)=List.replicate m k:=by rw [List.map_take,hb,List.take_left' (by simp)]
    have l1:((a.drop f.offset).take m).length=m:=by simpa using congrArg List.length hla
    have l2:((b.drop f.offset).take m).length=m:=by simpa using congrArg List.length hlb
    have q1:∀ p ∈ (a.drop f.offset).take m,p.1=k:=fun p hp=>List.eq_of_mem_replicate (hla ▸ List.mem_map_of_mem (f:=fun q:IntKind × Int=>q.1) hp)
    have q2:∀ p ∈ (b.drop f.offset).take m,p.1=k:=fun p hp=>List.eq_of_mem_replicate (hlb ▸ List.mem_map_of_mem (f:=fun q:IntKind × Int=>q.1) hp)
    have hit:=z289 (w:=w) hue d ((a.drop f.offset).take m) ((b.drop f.offset).take m) q1 q2 m 0 (by omega) (by omega)
    have heq:=run_equalIn_array w (d + 1) (intVs ((a.drop f.offset).take m)) (intVs ((b.drop f.offset).take m)) hu hi
    rw [hc,List.range_eq_range',hit] at heq
    simp only [Op.eqFields,ne_eq,hn1,not_false_eq_true,if_true,Sem.run_bind,p1,p2,Result.andThen_ok,heq,List.drop_zero]
    have hsplit:(a.drop f.offset=b.drop f.offset)↔((a.drop f.offset).take m=(b.drop f.offset).take m∧a.drop (f.offset + m)=b.drop (f.offset + m)):=by
     constructor
     ·intro h;rw [h,← List.drop_drop,← List.drop_drop,h];exact⟨rfl,rfl⟩
     ·rintro⟨e1,e2⟩
      rw [← List.take_append_drop m (a.drop f.offset),← List.take_append_drop m (b.drop f.offset),e1,List.drop_drop,List.drop_drop,e2]
    by_cases h:(a.drop f.offset).take m=(b.drop f.offset).take m
    ·simp only [h,decide_true,Bool.not_true,Bool.false_eq_true,if_false]
     rw [ih]
     congr 1
     simp only [hsplit,h,true_and]
    ·have:¬ (a.drop f.offset=b.drop f.offset):=fun e=>h (hsplit.1 e).1
     simp [h,this]
  ·cases h
theorem z420 {k:TypeId} {ks:List IntKind} (h:tkeyS P k=some ks) (a b:List (IntKind × Int)) (ha:a.map (·.1)=ks) (hb:b.map (·.1)=ks):(Op.equal k (MK.s a).val (MK.s b).val).run P w=.ok (decide (a=b)) w:=by
 obtain⟨fs,hu,hs,hsz⟩:=z238 h
 have hst:P.underlying k=some (.struct (P.fieldsOf k)):=by unfold Program.fieldsOf;rw [hu]
 have hff:P.fieldsOf k=fs:=by unfold Program.fieldsOf;rw [hu]
 have:=z228 (P:=P) (w:=w) 9997 a b fs.toList 0 ks hsz (by simpa using ha) (by simpa using hb)
 show (Op.equalIn 10000 k (.agg (intVs a)) (.agg (intVs b))).run P w=_
 rw [run_equalIn_agg w 9999 k _ _ hst hs,hff]
 simpa using this
theorem z193 {F:Field→PUnit→Sem (ForInStep PUnit)}:∀ (fs:List Field),(∀ f ∈ fs,(F f PUnit.unit).run P w=.ok (.yield PUnit.unit) w)→(forIn fs PUnit.unit F).run P w=.ok PUnit.unit w
 | [],_=>rfl
 | f::fs,h=>by
  rw [List.forIn_cons]
  simp only [Sem.run_bind,h f (List.mem_cons_self ..),Result.andThen_ok]
  exact z193 fs fun f hf=>h f (List.mem_cons_of_mem _ hf)
theorem z212 {F:Nat→PUnit→Sem (ForInStep PUnit)}:∀ (l:List Nat),(∀ i ∈ l,(F i PUnit.unit).run P w=.ok (.yield PUnit.unit) w)→(forIn l PUnit.unit F).run P w=.ok PUnit.unit w
 | [],_=>rfl
 | i::l,h=>by
  rw [List.forIn_cons]
  simp only [Sem.run_bind,h i (List.mem_cons_self ..),Result.andThen_ok]
  exact z212 l fun f hf=>h f (List.mem_cons_of_mem _ hf)
theorem z323 {l : List (IntKind × Int)} : ∀ {fs : List Field} {off : Nat} {ks : List IntKind}, segsInt P fs off = some ks → (l.drop off).map (·.1) = ks → ∀ f ∈ fs, f.name ≠ "_" ∧ ∃ b m k ks', fieldInts P f.type = some (b, m, k) ∧ (l.drop f.offset).map (·.1) = List.replicate m k ++ ks'
 | [],_,_,_,_,_,h=>by cases h
 | f::fs,off,ks,h,hl,g,hg=>by
  unfold segsInt at h
  split at h
  ·cases h
  rename_i hn
  simp only [not_or,Decidable.not_not] at hn
  obtain⟨hn1,rfl⟩:=hn
  split at h
  ·rename_i b m k hm
   simp only [Option.map_eq_some_iff] at h
   obtain⟨ks',h,rfl⟩:=h
   rcases List.mem_cons.1 hg with rfl | hg
   ·exact⟨hn1,b,m,k,ks',hm,hl⟩
   ·exact z323 h (z253 hl) g hg
  ·cases h
theorem z106 {kt:TypeId} {kk:KK} (h:KeyT P kt kk) {k:MK} (hk:k.fits kk=true) (e:Bool):(Instr.checkKey e 10000 kt k.val).run P w=.ok () w:=by
 cases kk with
 | none=>cases k with
  | i n=>exact MapKept.run_checkKey h (by simp [MapKept.IsKey,MK.val]) e 9999
  | s l=>simp [MK.fits] at hk
 | some ks=>cases k with
  | i n=>simp [MK.fits] at hk
  | s l =>
   simp only [MK.fits,decide_eq_true_eq] at hk
   obtain⟨fs,hu,hs,hsz⟩:=z238 h
   have hpl:=z323 (l:=l) hsz (by simpa using hk)
   unfold Instr.checkKey
   simp only [Sem.run_bind,run_underlying hu,Result.andThen_ok,MK.val]
   rw [← Array.forIn_toList]
   rw [z193 (P:=P) (w:=w) fs.toList ?_]
   ·rfl
   intro f hf
   obtain⟨h1,b,m,k,ks',h2,h3⟩:=hpl f hf
   have hcell:∀ (t:TypeId) (q:Nat) (d:Nat) (l:List (IntKind × Int)) (hlt:q<l.length),l[q].1=k→P.underlying t=some (.int k)→(Instr.checkKey e (d + 1) t (.int l[q].1 l[q].2)).run P w=.ok () w:=fun t q d l hlt hk' ht =>
    MapKept.run_checkKey (P:=P) (w:=w) (k:=.int l[q].1 l[q].2) ht (by simp [MapKept.IsKey,hk']) e d
   rcases z197 h2 with ⟨_,rfl,hfu⟩ | ⟨_,el,hfu,hue,hse,hst⟩
   ·have hlt:f.offset<l.length:=by rcases z546 h3 with h | h <;> omega
    have hv:(l.map fun p=>Value.int p.1 p.2).toArray[f.offset]?=some (.int l[f.offset].1 l[f.offset].2):=by simp [hlt]
    simp only [ne_eq,h1,not_false_eq_true,if_true,Sem.run_bind,z27 (z128 hfu) hv,Result.andThen_ok,hcell f.type f.offset 9998 l hlt (z340 h3 (i:=0) (by omega) hlt) hfu,Sem.run_pure]
   ·have hag:tagg P f.type=some true:=by simp [tagg,hfu]
    have p1:=z185 (P:=P) (w:=w) hag hst (cs:=intVs l) (off:=f.offset)
    simp only [if_true,z225] at p1
    obtain⟨i,hi,hiz⟩:∃ i,P.info? el=some i∧i.size=1:=by
     unfold tsz at hse
     rw [Option.map_eq_some_iff] at hse
     exact hse
    have hla:((l.drop f.offset).take m).map (·.1)=List.replicate m k:=by rw [List.map_take,h3,List.take_left' (by simp)]
    have hlen:((l.drop f.offset).take m).length=m:=by simpa using congrArg List.length hla
    have q1:∀ p ∈ (l.drop f.offset).take m,p.1=k:=fun p hp=>List.eq_of_mem_replicate (hla ▸ List.mem_map_of_mem (f:=fun q:IntKind × Int=>q.1) hp)
    have hck:(Instr.checkKey e 9999 f.type (.agg (intVs ((l.drop f.offset).take m)))).run P w=.ok () w:=by
     unfold Instr.checkKey
     simp only [Sem.run_bind,run_underlying hfu,Result.andThen_ok]
     simp only [Std.Legacy.Range.forIn_eq_forIn_range',Std.Legacy.Range.size,Nat.sub_zero,Nat.add_one_sub_one,Nat.div_one]
     rw [z212 (P:=P) (w:=w) _ (fun j hj=>?_)]
     ·rfl
     have hjl:j<((l.drop f.offset).take m).length:=by rw [hlen];simpa using hj
     have p2:=z27 (w:=w) (z128 hue) (cs:=intVs ((l.drop f.offset).take m)) (off:=j) (z178 hjl)
     simp only [Sem.run_bind,z26 hse,Result.andThen_ok,Nat.mul_one,p2,hcell el j 9997 _ hjl (q1 _ (List.getElem_mem hjl)) hue,Sem.run_pure]
    have p1':(part f.type (l.map fun p=>Value.int p.1 p.2).toArray f.offset).run P w=.ok (.agg (intVs ((l.drop f.offset).take m))) w:=p1
    simp only [ne_eq,h1,not_false_eq_true,if_true,Sem.run_bind,p1',Result.andThen_ok,hck,Sem.run_pure]
theorem z288 {kt:TypeId} {ks:List IntKind} (h:tkeyS P kt=some ks):∀ {es:List (MK × DV × Nat)} {ml:List MapEntry} {k:List (IntKind × Int)} {i:Nat},k.map (·.1)=ks→es.length=ml.length→(∀ (j:Nat) e m,es[j]?=some e→ml[j]?=some m→m.key=e.1.val∧e.1.fits (some ks)=true) →
  (findE es (.s k) i=none→(Instr.findAsking kt (MK.s k).val ml i).run P w=.ok none w) ∧
  ∀ q v b,findE es (.s k) i=some (q,v,b)→∃ j m,q=i + j∧es[j]?=some (.s k,v,b)∧ml[j]?=some m∧(Instr.findAsking kt (MK.s k).val ml i).run P w=.ok (some (q,m.val)) w
 | [],[],_,_,_,_,_=>⟨fun _=>rfl,fun _ _ _ h=>by cases h⟩
 | [],_::_,_,_,_,h,_=>by simp at h
 | _::_,[],_,_,_,h,_=>by simp at h
 | e::es,m::ml,k,i,hkl,hl,hk=>by
  have h0:=hk 0 e m rfl rfl
  have ih:=z288 h (es:=es) (ml:=ml) (k:=k) (i:=i + 1) hkl (by simpa using hl) (fun j e m h1 h2=>hk (j + 1) e m (by simpa using h1) (by simpa using h2))
  obtain⟨ek,ed,eb⟩:=e
  cases ek with
  | i n=>simp [MK.fits] at h0
  | s l =>
   have hlen:l.map (·.1)=ks:=by simpa [MK.fits] using h0.2
   have heq:=z420 (w:=w) h k l hkl hlen
   have h1:m.key=(MK.s l).val:=h0.1
   rw [← h1] at heq
   unfold findE
   by_cases hkk:k=l
   ·subst hkk
    simp only [decide_true] at heq
    refine⟨fun hh=>by simp at hh,fun q v b hh=>?_⟩
    simp at hh
    obtain⟨rfl,rfl,rfl⟩:=hh
    refine⟨0,m,rfl,rfl,rfl,?_⟩
    unfold Instr.findAsking
    simp [heq,Result.andThen]
   ·have hd:decide (k=l)=false:=by simpa using hkk
    rw [hd] at heq
    have hne:¬ (MK.s k=MK.s l):=fun e=>hkk (by cases e;rfl)
    simp only [hne,if_false]
    refine⟨fun hh=>?_,fun q v b hh=>?_⟩
    ·have:=ih.1 hh
     unfold Instr.findAsking
     simp only [Sem.run_bind,heq,Result.andThen_ok,Bool.false_eq_true,if_false]
     exact this
    ·obtain⟨j,m',h2,h3,h4,h5⟩:=ih.2 q v b hh
     refine⟨j + 1,m',by omega,by simpa using h3,by simpa using h4,?_⟩
     unfold Instr.findAsking
     simp only [Sem.run_bind,heq,Result.andThen_ok,Bool.false_eq_true,if_false]
     exact h5
theorem z726:∀ {es:List (MK × DV × Nat)} {ml:List MapEntry} {k:Int} {i:Nat},es.length=ml.length→(∀ (j:Nat) e m,es[j]?=some e→ml[j]?=some m→m.key=e.1.val∧e.1.fits none=true) →
  (findE es (.i k) i=none→Instr.findNow (.int .i64) (.int .i64 k) ml i=some none) ∧
  ∀ q v b,findE es (.i k) i=some (q,v,b)→∃ j m,q=i + j∧es[j]?=some (.i k,v,b)∧ml[j]?=some m∧Instr.findNow (.int .i64) (.int .i64 k) ml i=some (some (q,m.val))
 | [],[],_,_,_,_=>⟨fun _=>rfl,fun _ _ _ h=>by cases h⟩
 | [],_::_,_,_,h,_=>by simp at h
 | _::_,[],_,_,h,_=>by simp at h
 | e::es,m::ml,k,i,hl,hk=>by
  have h0:=hk 0 e m rfl rfl
  have ih:=z726 (es:=es) (ml:=ml) (k:=k) (i:=i + 1) (by simpa using hl) (fun j e m h1 h2=>hk (j + 1) e m (by simpa using h1) (by simpa using h2))
  obtain⟨ek,ed,eb⟩:=e
  cases ek with
  | s l=>simp [MK.fits] at h0
  | i n =>
   have h1:m.key=.int .i64 n:=h0.1
   unfold findE
   by_cases hkn:k=n
   ·subst hkn
    refine⟨fun hh=>by simp at hh,fun q v b hh=>?_⟩
    simp at hh
    obtain⟨rfl,rfl,rfl⟩:=hh
    have hs:Instr.sameNow (.int .i64) (.int .i64 k) m.key=some true:=by rw [h1];simp [Instr.sameNow]
    refine⟨0,m,rfl,rfl,rfl,?_⟩
    unfold Instr.findNow
    rw [hs]
   ·have hs:Instr.sameNow (.int .i64) (.int .i64 k) m.key=some false:=by rw [h1];simp [Instr.sameNow,hkn]
    have hne:¬ (MK.i k=MK.i n):=fun e=>hkn (by cases e;rfl)
    simp only [hne,if_false]
    refine⟨fun hh=>?_,fun q v b hh=>?_⟩
    ·unfold Instr.findNow
     rw [hs]
     exact ih.1 hh
    ·obtain⟨j,m',h2,h3,h4,h5⟩:=ih.2 q v b hh
     refine⟨j + 1,m',by omega,by simpa using h3,by simpa using h4,?_⟩
     unfold Instr.findNow
     rw [hs]
     exact h5
theorem z534 {kt:TypeId} {kk:KK} (h:KeyT P kt kk) {k:MK} (hk:k.fits kk=true) {es:List (MK × DV × Nat)} {mes:Array MapEntry} (hl:mes.size=es.length)
  (hd:∀ (j:Nat) e m,es[j]?=some e→mes[j]?=some m→m.key=e.1.val∧e.1.fits kk=true) :
  (findE es k 0=none→(Instr.findKey kt k.val mes.toList).run P w=.ok none w) ∧
  ∀ q v b,findE es k 0=some (q,v,b)→∃ m,es[q]?=some (k,v,b)∧mes[q]?=some m∧(Instr.findKey kt k.val mes.toList).run P w=.ok (some (q,m.val)) w:=by
 have hl':es.length=mes.toList.length:=by simp [hl]
 have hd':∀ (j:Nat) e m,es[j]?=some e→mes.toList[j]?=some m→m.key=e.1.val∧e.1.fits kk=true:=fun j e m h1 h2=>hd j e m h1 (by rw [← Array.getElem?_toList];exact h2)
 cases kk with
 | none=>cases k with
  | s l=>simp [MK.fits] at hk
  | i n =>
   obtain⟨h1,h2⟩:=z726 (k:=n) (i:=0) hl' hd'
   refine⟨fun hh=>MapKept.run_findKey h (h1 hh),fun q v b hh=>?_⟩
   obtain⟨j,m,h3,h4,h5,h6⟩:=h2 q v b hh
   rw [Nat.zero_add] at h3
   subst h3
   exact⟨m,h4,by rw [← Array.getElem?_toList];exact h5,MapKept.run_findKey h h6⟩
 | some n=>cases k with
  | i n=>simp [MK.fits] at hk
  | s l =>
   have hln:l.map (·.1)=n:=by simpa [MK.fits] using hk
   obtain⟨h1,h2⟩:=z288 (w:=w) h (i:=0) hln hl' hd'
   obtain⟨fs,hu,_⟩:=z238 h
   have hnow:∀ ml:List MapEntry,Instr.findNow (.struct fs) (MK.s l).val ml 0=match ml with | []=>some none | _::_=>none:=fun ml=>by cases ml <;> rfl
   have hkey:(Instr.findKey kt (MK.s l).val mes.toList).run P w=match mes.toList with | []=>.ok none w | _::_=>(Instr.findAsking kt (MK.s l).val mes.toList 0).run P w:=by
    simp only [Instr.findKey,Sem.run_bind,run_underlying hu,Result.andThen_ok,hnow]
    cases mes.toList <;> rfl
   constructor
   ·intro hh
    rw [hkey]
    cases hm:mes.toList with
    | nil=>rfl
    | cons x xs=>have h:=h1 hh;rw [hm] at h;exact h
   ·intro q v b hh
    obtain⟨j,m,h3,h4,h5,h6⟩:=h2 q v b hh
    rw [Nat.zero_add] at h3
    subst h3
    refine⟨m,h4,by rw [← Array.getElem?_toList];exact h5,?_⟩
    rw [hkey]
    cases hm:mes.toList with
    | nil=>rw [hm] at h5;simp at h5
    | cons x xs=>rw [hm] at h6;exact h6
theorem z533 (l:List (IntKind × Int)):(((l.map fun p=>Value.int p.1 p.2).zip (l.map fun p=>Value.int p.1 p.2)).all fun (x,y)=>Instr.sameBits 9999 x y)=true:=by
 induction l with
 | nil=>rfl
 | cons n l ih=>simp only [List.map_cons,List.zip_cons_cons,List.all_cons,ih,Bool.and_true];simp [Instr.sameBits]
theorem z671 (k:MK):(Instr.keyThatStays k.val k.val).run P w=.ok k.val w:=by
 have:Instr.sameBits 10000 k.val k.val=true:=by
  cases k with
  | i n=>simp [MK.val,Instr.sameBits]
  | s l =>
   simp only [MK.val,Instr.sameBits,beq_self_eq_true,Bool.true_and]
   exact z533 l
 simp [Instr.keyThatStays,this]
theorem z222 {kk:KK} {x:AV} {k:MK} (hk:keyOf kk x=some k) {own:Own} {v:Value} (h:AVRel w own μ x v):v=k.val∧k.fits kk=true:=by
 unfold keyOf at hk
 split at hk
 ·cases hk
  exact⟨z43 h,rfl⟩
 ·rename_i n x hx
  split at hk
  ·rename_i ds hds
   split at hk
   ·rename_i l hl
    split at hk
    ·rename_i hn
     cases hk
     obtain⟨us,rfl,hul,hud⟩:=z207 h hds
     obtain⟨a1,a2⟩:=z15 hl
     refine⟨?_,by simpa [MK.fits] using hn⟩
     simp only [MK.val]
     congr 1
     apply Array.ext_getElem?
     intro i
     have hll:l.length=ds.length:=by rw [← a1];simp
     by_cases hi:i<us.size
     ·have hi1:i<ds.length:=by omega
      have hi2:i<l.length:=by omega
      have h3:=a2 i l[i] (List.getElem?_eq_getElem hi2)
      simp only [List.getElem?_map,List.getElem?_eq_getElem hi1,Option.map_some,Option.some.injEq] at h3
      have h4:=hud i ds[i] us[i] (List.getElem?_eq_getElem hi1) (Array.getElem?_eq_getElem hi)
      unfold intOf at h3
      split at h3
      ·rename_i q n' hdn
       rw [hdn] at h4
       have h3:(q,n')=l[i]:=Option.some.inj h3
       have h5:us[i]=.int l[i].1 l[i].2:=by
        rw [← h3]
        generalize us[i]=z at h4
        cases h4;rfl
       rw [Array.getElem?_eq_getElem hi,h5]
       simp [hi2]
      ·cases h3
     ·rw [Array.getElem?_eq_none (by omega)]
      symm
      simp only [List.getElem?_toArray,List.getElem?_map,Option.map_eq_none_iff]
      exact List.getElem?_eq_none (by omega)
    ·cases hk
   ·cases hk
  ·cases hk
 ·cases hk
theorem z302 {e:TypeId} {z:DV} (h:zeroD P e=some z) (w:World) (own:Own):∃ v,tzero P e=some v∧DRel w own z v:=by
 unfold zeroD at h
 split at h
 ·rename_i v hv
  refine⟨v,hv,?_⟩
  have hM:MemRel (base:=fun _=>False) (out:=own) w (fun _=>none) []:=⟨fun n b hn=>(by simp at hn),fun n hn=>(by cases hn),fun n k b z l c z' l' c' h=>(by cases h),fun n b z l c h=>(by cases h)⟩
  refine z39 hM own (fun b hb=>.inl hb) (fun _=>True) (fun n b z l c _ h=>(by cases h)) deep (constOf v) v z (z61 _ _ _ _) h (fun _ _=>trivial) (.inl fun _ _ _ _ _ _=>trivial)
 ·cases h
theorem z1221 {keys:List (MK × Nat)} {vals:List DV} {i:Nat} {e:MK × DV × Nat} (h:(mkE keys vals)[i]?=some e):keys[i]?=some (e.1,e.2.2)∧vals[i]?=some e.2.1:=by
 unfold mkE at h
 rw [List.getElem?_zipWith] at h
 cases hk:keys[i]? <;> cases hv:vals[i]? <;> simp [hk,hv] at h
 subst h
 exact⟨rfl,rfl⟩
theorem z1220 {keys:List (MK × Nat)} {vals:List DV} (h:keys.length=vals.length):(mkE keys vals).length=vals.length:=by simp [mkE,h]
theorem z910 (h:StRel P base out st μ tmps w) {t kt e:TypeId} {x ix:Operand} {ok:Bool} {r:AV} (ho:o.op=.lookup t x ix ok) {kk:KK} (hu:P.underlying t=some (.map kt e)) (hk:KeyT P kt kk) {k:MK} (hiv:val tmps ix=k.val) (hfit:k.fits kk=true)
  {b c:Nat} (hxv:val tmps x=.map (some b)) {mes:Array MapEntry} (hh:w.heap[b]?=some (.map mes c)) {es:List (MK × DV × Nat)} (hsz:mes.size=es.length)
  (hd:∀ (i:Nat) e m,es[i]?=some e→mes[i]?=some m→(m.key=e.1.val∧e.1.fits kk=true)∧DRel w (ownOf out μ) e.2.1 m.val) (hs:lookD P e es k ok=some r):OpOK P base out μ o (st.put o.dst r) tmps w:=by
 simp only [val] at hiv hxv
 obtain⟨f1,f2⟩:=z534 (w:=w) hk hfit hsz (fun j e m h1 h2=>(hd j e m h1 h2).1)
 unfold lookD at hs
 split at hs
 ·rename_i q v bn hf
  cases hs
  obtain⟨m,he,hm,hfn⟩:=f2 q v bn hf
  have hv:=(hd q _ m he hm).2
  refine z47 h (v:=if ok then .tuple #[m.val,.bool true] else m.val) ?_ ?_
  ·cases ok
   ·exact .d hv
   ·refine .tup _ _ rfl (fun i y u h1 h2=>?_)
    match i,h1,h2 with
    | 0,h1,h2=>simp at h1 h2;subst h1;subst h2;exact .d hv
    | 1,h1,h2=>simp at h1 h2;subst h1;subst h2;exact .d (.bool _)
  ·unfold execOp
   simp [ho,hxv,hiv,Instr.lookup,run_underlying hu,MapKept.run_getObj_map hh,z106 hk hfit,hfn,Result.andThen]
 ·rename_i hf
  have hfn:=f1 hf
  split at hs
  ·rename_i z hz
   cases hs
   obtain⟨v,hv,hzr⟩:=z302 hz w (ownOf out μ)
   refine z47 h (v:=if ok then .tuple #[v,.bool false] else v) ?_ ?_
   ·cases ok
    ·exact .d hzr
    ·refine .tup _ _ rfl (fun i y u h1 h2=>?_)
     match i,h1,h2 with
     | 0,h1,h2=>simp at h1 h2;subst h1;subst h2;exact .d hzr
     | 1,h1,h2=>simp at h1 h2;subst h1;subst h2;exact .d (.bool _)
   ·unfold execOp
    simp [ho,hxv,hiv,Instr.lookup,run_underlying hu,MapKept.run_getObj_map hh,z106 hk hfit,hfn,z184 hv,Result.andThen]
  ·cases hs
theorem z1067 (h:StRel P base out st μ tmps w) {t:TypeId} {x ix:Operand} {ok:Bool} {r:AV} (ho:o.op=.lookup t x ix ok) (hs:opLookup P st t (st.ev x) (st.ev ix) ok=some r):OpOK P base out μ o (st.put o.dst r) tmps w:=by
 have hx:=h.ev x []
 have hix:=h.ev ix []
 unfold opLookup at hs
 split at hs
 ·rename_i kk e kk' keys vals c ht hex
  rw [hex] at hx
  obtain⟨b,mes,hxv,_,hh,hkl,hvl,hm,hd⟩:=z1088 hx
  obtain⟨kt,hu,hk⟩:=z181 ht
  split at hs
  ·rename_i k hei
   obtain⟨hiv,hfit⟩:=z222 hei hix
   split at hs
   ·rename_i hkk
    subst hkk
    refine z910 h ho hu hk hiv hfit hxv hh (by rw [z1220 (by omega),hvl]) (fun i e m h1 h2=>?_) hs
    obtain⟨a1,a2⟩:=z1221 h1
    exact⟨(hm i _ m a1 h2).1,hd i _ m a2 h2⟩
   ·cases hs
  ·cases hs
 ·rename_i kk e n ht hex
  rw [hex] at hx
  obtain⟨b,hμ,hxv⟩:=z465 hx
  obtain⟨kt,hu,hk⟩:=z181 ht
  split at hs
  ·rename_i k kk' es c hei hn
   obtain⟨hiv,hfit⟩:=z222 hei hix
   split at hs
   rotate_left
   ·cases hs
   rename_i hkk
   subst hkk
   obtain⟨b',mes,hμ',hh,hsz,hd⟩:=h.mem.mp hn
   rw [hμ] at hμ';cases hμ'
   refine z910 h ho hu hk hiv hfit hxv hh hsz (fun j e m h1 h2=>⟨(hd j e m h1 h2).1,(hd j e m h1 h2).2.2⟩) ?_
   unfold lookD
   exact hs
  ·cases hs
 ·cases hs
theorem z991 (h:StRel P base out st μ tmps w) {t:TypeId} {rs:Option Operand} (ho:o.op=.makeMap t rs) (hs:stepOp P o st=some st'):OpOK P base out μ o st' tmps w:=by
 unfold stepOp at hs
 rw [ho] at hs
 simp only at hs
 obtain⟨d,k,hd,hk,hf,rfl⟩:=z233 hs
 cases rs with
 | some r=>simp [newOp] at hk
 | none =>
  simp only [newOp,Option.map_eq_some_iff] at hk
  obtain⟨p,_,rfl⟩:=hk
  have hB:Below w.heap.size w (w.alloc (.map #[] 0)):=(Below.refl _ _).alloc (Nat.le_refl _) _
  have hfr:=z19 hf
  refine⟨.value (.map (some w.heap.size)),_,w.alloc (.map #[] 0),μ.upd d (some (.at w.heap.size 0 2 2)),fun ds=>?_,.inl rfl,?_,h.keep_add hB hfr _ (fun b z l c e=>by cases e;simp)⟩
  ·unfold execOp
   simp only [ho]
   rfl
  ·rw [hd]
   exact h.add hB hfr (.at w.heap.size 0 2 2) (fun b z l c e=>by cases e;simp) ⟨w.heap.size,#[],Pl.upd_same μ d _,heap_alloc_new w _,rfl,fun i e m h1 _=>by simp at h1⟩ (.mp (Pl.upd_same μ d _))
theorem z303 {b:Nat} {ob:Obj}:Wrote b w { w with heap:=w.heap.setIfInBounds b ob }:=⟨rfl,rfl,rfl,by simp,fun k hk=>by simp [Ne.symm hk]⟩
theorem z1308 (st:St) (dst:Option Tmp) (v:AV) (m:List (Option Blk)):({ st with m:=m }:St).put dst v={ t:=(st.put dst v).t,m:=m }:=by cases dst <;> rfl
theorem z869 (h:StRel P base out st μ tmps w) {t:TypeId} {m k:Operand} (ho:o.op=.mapEntry t m k) {v:AV} {n:Nat} {blk:Blk} (hs:opMapEntry P st t (st.ev m) (st.ev k)=some (v,n,blk)) :
  OpOK P base out μ o { t:=(st.put o.dst v).t,m:=st.m.set n (some blk) } tmps w:=by
 have hx:=h.ev m []
 have hix:=h.ev k []
 unfold opMapEntry at hs
 split at hs
 ·rename_i kk e n' ht hex
  rw [hex] at hx
  obtain⟨b,hμ,hxv⟩:=z465 hx
  obtain⟨kt,hu,hk⟩:=z181 ht
  split at hs
  ·rename_i k' kk' es c hei hn
   obtain⟨hiv,hfit⟩:=z222 hei hix
   split at hs
   rotate_left
   ·cases hs
   rename_i hkk
   subst hkk
   obtain⟨b',mes,hμ',hh,hsz,hd⟩:=h.mem.mp hn
   rw [hμ] at hμ';cases hμ'
   have hbl:b<w.heap.size:=(Array.getElem?_eq_some_iff.1 hh).1
   obtain⟨f1,f2⟩:=z534 (w:=w) hk hfit hsz (fun j e m h1 h2=>(hd j e m h1 h2).1)
   have fin:∀ (vv:AV) (es':List (MK × DV × Nat)) (c':Nat) (mes':Array MapEntry) (u:Value),(∀ own μ' w',Goes w (ownOf out μ) w' own→AVRel w' own μ' vv u)→mes'.size=es'.length →
     (∀ w',Goes w (ownOf out μ) w' (ownOf out μ)→∀ (i:Nat) e m,es'[i]?=some e→mes'[i]?=some m→(m.key=e.1.val∧e.1.fits kk'=true)∧m.born=e.2.2∧DRel w' (ownOf out μ) e.2.1 m.val) →
     (Instr.mapEntry t (val tmps m) (val tmps k)).run P w=.ok u { w with heap:=w.heap.setIfInBounds b (.map mes' c') } →
     OpOK P base out μ o { t:=(st.put o.dst vv).t,m:=st.m.set n' (some (.mp kk' es' c')) } tmps w:=by
    intro vv es' c' mes' u hvv hsz' hd' hrun
    have hW:Wrote b w { w with heap:=w.heap.setIfInBounds b (.map mes' c') }:=z303
    have hg:Goes w (ownOf out μ) { w with heap:=w.heap.setIfInBounds b (.map mes' c') } (ownOf out μ):=hW.goes (.inr ⟨n',_,_,_,hμ⟩)
    have hst:=h.write hμ hW (blk:=.mp kk' es' c') ⟨b,mes',hμ,by simp [hbl],hsz',hd' _ hg⟩
    refine⟨.value u,u,_,μ,fun ds=>?_,.inl rfl,?_,hW.keepOM hh (h.mem.base _ _ _ _ _ hμ).1 (.inr ⟨n',_,_,_,hμ⟩)⟩
    ·unfold execOp
     rw [z22]
     simp only [val] at hrun
     simp [ho,hrun]
    ·have:=hst.put (hvv _ μ _ hg) o.dst
     rw [z1308] at this
     exact this
   split at hs
   ·rename_i q v bn hf
    cases hs
    obtain⟨me,he,hma,hfn⟩:=f2 q v bn hf
    obtain⟨p1,p2,p3⟩:=hd q _ me he hma
    refine fin _ es c (mes.modify q fun e=>{ e with key:=k'.val }) (.tuple #[me.val,goInt bn]) (fun own μ' w' hg=>?_) (by simpa using hsz) (fun w' hg i e m h1 h2=>?_) ?_
    ·refine .tup _ _ rfl (fun i y u h1 h2=>?_)
     match i,h1,h2 with
     | 0,h1,h2=>simp at h1 h2;subst h1;subst h2;exact .d (p3.goes hg)
     | 1,h1,h2=>simp at h1 h2;subst h1;subst h2;exact .d (.int _ _)
    ·rw [Array.getElem?_modify] at h2
     split at h2
     ·rename_i hji
      subst hji
      rw [hma] at h2
      rw [he] at h1
      cases h1;cases h2
      exact⟨⟨rfl,p1.2⟩,p2,p3.goes hg⟩
     ·obtain⟨q1,q2,q3⟩:=hd i e m h1 h2
      exact⟨q1,q2,q3.goes hg⟩
    ·simp only [val] at hxv hiv ⊢
     have hkn:me.key=k'.val:=p1.1
     simp [hxv,hiv,Instr.mapEntry,run_underlying hu,MapKept.run_getObj_map hh,z106 hk hfit,hfn,hma,hkn,p2,z671,MapKept.run_setObj_map _ hh,Result.andThen]
   ·rename_i hf
    have hfn:=f1 hf
    split at hs
    ·rename_i z hz
     cases hs
     obtain⟨zv,hzv,_⟩:=z302 hz w (ownOf out μ)
     have hzr:∀ w own,DRel w own z zv:=fun w own=>by obtain⟨v',h1,h2⟩:=z302 hz w own;rw [hzv] at h1;cases h1;exact h2
     refine fin _ (es++[(k',z,c)]) (c + 1) (mes.push { key:=k'.val,val:=zv,born:=c }) (.tuple #[zv,goInt c]) (fun own μ' w' hg=>?_) (by simp [hsz]) (fun w' hg i e m h1 h2=>?_) ?_
     ·refine .tup _ _ rfl (fun i y u h1 h2=>?_)
      match i,h1,h2 with
      | 0,h1,h2=>simp at h1 h2;subst h1;subst h2;exact .d (hzr _ _)
      | 1,h1,h2=>simp at h1 h2;subst h1;subst h2;exact .d (.int _ _)
     ·rw [Array.getElem?_push] at h2
      by_cases hi:i=mes.size
      ·rw [if_pos hi] at h2
       rw [hi,hsz,List.getElem?_append_right (Nat.le_refl _),Nat.sub_self] at h1
       cases h1;cases h2
       exact⟨⟨rfl,hfit⟩,rfl,hzr _ _⟩
      ·rw [if_neg hi] at h2
       have hlt:i<es.length:=by rw [← hsz];exact (Array.getElem?_eq_some_iff.1 h2).1
       rw [List.getElem?_append_left hlt] at h1
       obtain⟨q1,q2,q3⟩:=hd i e m h1 h2
       exact⟨q1,q2,q3.goes hg⟩
     ·simp only [val] at hxv hiv ⊢
      simp [hxv,hiv,Instr.mapEntry,run_underlying hu,MapKept.run_getObj_map hh,z106 hk hfit,hfn,z184 hzv,MapKept.run_setObj_map _ hh,Result.andThen]
    ·cases hs
  ·cases hs
 ·cases hs
theorem z687 (h:StRel P base out st μ tmps w) (hdst:o.dst=none) {t:TypeId} {m k x:Operand} (ho:o.op=.mapUpdate t m k x) {n:Nat} {blk:Blk} (hs:opMapUpdate P st t (st.ev m) (st.ev k) (st.ev x)=some (n,blk)) :
  OpOK P base out μ o { t:=st.t,m:=st.m.set n (some blk) } tmps w:=by
 have hm:=h.ev m []
 have hix:=h.ev k []
 have hx:=h.ev x []
 unfold opMapUpdate at hs
 split at hs
 ·rename_i kk e n' ht hem
  rw [hem] at hm
  obtain⟨b,hμ,hxv⟩:=z465 hm
  obtain⟨kt,hu,hk⟩:=z181 ht
  split at hs
  ·rename_i k' kk' es c d hei hn hd0
   obtain⟨hiv,hfit⟩:=z222 hei hix
   split at hs
   rotate_left
   ·cases hs
   rename_i hkk
   subst hkk
   obtain⟨b',mes,hμ',hh,hsz,hd⟩:=h.mem.mp hn
   rw [hμ] at hμ';cases hμ'
   have hbl:b<w.heap.size:=(Array.getElem?_eq_some_iff.1 hh).1
   obtain⟨f1,f2⟩:=z534 (w:=w) hk hfit hsz (fun j e m h1 h2=>(hd j e m h1 h2).1)
   have hxr:DRel w (ownOf out μ) d (val tmps x):=z90 deep _ _ d hx hd0
   have fin:∀ (es':List (MK × DV × Nat)) (c':Nat) (mes':Array MapEntry),mes'.size=es'.length →
     (∀ w',Goes w (ownOf out μ) w' (ownOf out μ)→∀ (i:Nat) e m,es'[i]?=some e→mes'[i]?=some m→(m.key=e.1.val∧e.1.fits kk'=true)∧m.born=e.2.2∧DRel w' (ownOf out μ) e.2.1 m.val) →
     (Instr.mapUpdate t (val tmps m) (val tmps k) (val tmps x)).run P w=.ok () { w with heap:=w.heap.setIfInBounds b (.map mes' c') } →
     OpOK P base out μ o { t:=st.t,m:=st.m.set n' (some (.mp kk' es' c')) } tmps w:=by
    intro es' c' mes' hsz' hd' hrun
    have hW:Wrote b w { w with heap:=w.heap.setIfInBounds b (.map mes' c') }:=z303
    have hg:Goes w (ownOf out μ) { w with heap:=w.heap.setIfInBounds b (.map mes' c') } (ownOf out μ):=hW.goes (.inr ⟨n',_,_,_,hμ⟩)
    have hst:=h.write hμ hW (blk:=.mp kk' es' c') ⟨b,mes',hμ,by simp [hbl],hsz',hd' _ hg⟩
    refine⟨.skip,Go.undef,_,μ,fun ds=>?_,.inr ⟨rfl,rfl⟩,by rw [hdst];exact hst,hW.keepOM hh (h.mem.base _ _ _ _ _ hμ).1 (.inr ⟨n',_,_,_,hμ⟩)⟩
    unfold execOp
    rw [z22]
    simp only [val] at hrun
    simp [ho,hrun]
   split at hs
   ·rename_i q v bn hf
    cases hs
    obtain⟨me,he,hma,hfn⟩:=f2 q v bn hf
    obtain⟨p1,p2,p3⟩:=hd q _ me he hma
    have hql:q<es.length:=(List.getElem?_eq_some_iff.1 he).1
    refine fin _ c (mes.modify q fun e=>{ e with key:=k'.val,val:=val tmps x }) (by simpa using hsz) (fun w' hg i e m h1 h2=>?_) ?_
    ·rw [Array.getElem?_modify] at h2
     rw [List.getElem?_set] at h1
     by_cases hji:q=i
     ·subst hji
      rw [if_pos rfl,hma] at h2
      rw [if_pos rfl,if_pos hql] at h1
      cases h1;cases h2
      exact⟨⟨rfl,hfit⟩,p2,hxr.goes hg⟩
     ·rw [if_neg hji] at h1 h2
      obtain⟨q1,q2,q3⟩:=hd i e m h1 h2
      exact⟨q1,q2,q3.goes hg⟩
    ·simp only [val] at hxv hiv ⊢
     have hkn:me.key=k'.val:=p1.1
     simp [hxv,hiv,Instr.mapUpdate,run_underlying hu,MapKept.run_getObj_map hh,z106 hk hfit,hfn,hma,hkn,z671,MapKept.run_setObj_map _ hh,Result.andThen]
   ·rename_i hf
    have hfn:=f1 hf
    cases hs
    refine fin _ (c + 1) (mes.push { key:=k'.val,val:=val tmps x,born:=c }) (by simp [hsz]) (fun w' hg i e m h1 h2=>?_) ?_
    ·rw [Array.getElem?_push] at h2
     by_cases hi:i=mes.size
     ·rw [if_pos hi] at h2
      rw [hi,hsz,List.getElem?_append_right (Nat.le_refl _),Nat.sub_self] at h1
      cases h1;cases h2
      exact⟨⟨rfl,hfit⟩,rfl,hxr.goes hg⟩
     ·rw [if_neg hi] at h2
      have hlt:i<es.length:=by rw [← hsz];exact (Array.getElem?_eq_some_iff.1 h2).1
      rw [List.getElem?_append_left hlt] at h1
      obtain⟨q1,q2,q3⟩:=hd i e m h1 h2
      exact⟨q1,q2,q3.goes hg⟩
    ·simp only [val] at hxv hiv ⊢
     simp [hxv,hiv,Instr.mapUpdate,run_underlying hu,MapKept.run_getObj_map hh,z106 hk hfit,hfn,MapKept.run_setObj_map _ hh,Result.andThen]
  ·cases hs
 ·cases hs
theorem z278:∀ {es es':List (MK × DV × Nat)} {ml:List MapEntry} {b:Int} {d:DV},es.length=ml.length→(∀ (j:Nat) e m,es[j]?=some e→ml[j]?=some m→m.born=e.2.2)→setBorn es b d=some es' →
  ∃ j k bn,es[j]?=some (k,bn)∧es'=es.set j (k,d,bn.2)∧ml.findIdx? (fun e=>(e.born:Int) == b)=some j
 | [],_,_,_,_,_,_,h=>by cases h
 | e::es,_,[],_,_,hl,_,_=>by simp at hl
 | e::es,es',m::ml,b,d,hl,hb,h=>by
  unfold setBorn at h
  have h0:=hb 0 e m rfl rfl
  split at h
  ·rename_i he
   cases h
   refine⟨0,e.1,e.2,rfl,rfl,?_⟩
   rw [List.findIdx?_cons]
   simp [h0,he]
  ·rename_i hne
   split at h
   ·rename_i es2 hs
    cases h
    obtain⟨j,k,bn,h1,h2,h3⟩:=z278 (by simpa using hl) (fun j e m h1 h2=>hb (j + 1) e m (by simpa using h1) (by simpa using h2)) hs
    refine⟨j + 1,k,bn,by simpa using h1,by rw [h2];rfl,?_⟩
    rw [List.findIdx?_cons,h3]
    have:((m.born:Int) == b)=false:=by rw [h0];simpa using hne
    simp [this]
   ·cases h
theorem z541 (h:StRel P base out st μ tmps w) (hdst:o.dst=none) {t:TypeId} {m s x:Operand} (ho:o.op=.entryStore t m s x) {n:Nat} {blk:Blk} (hs:opEntryStore st (st.ev m) (st.ev s) (st.ev x)=some (n,blk)) :
  OpOK P base out μ o { t:=st.t,m:=st.m.set n (some blk) } tmps w:=by
 have hm:=h.ev m []
 have hsv:=h.ev s []
 have hx:=h.ev x []
 unfold opEntryStore at hs
 split at hs
 ·rename_i n' kb b0 hem hes
  rw [hem] at hm
  rw [hes] at hsv
  obtain⟨b,hμ,hmv⟩:=z465 hm
  have hsv:=z43 hsv
  split at hs
  ·rename_i kk es c d hn hd0
   split at hs
   ·rename_i es' hsb
    cases hs
    obtain⟨b',mes,hμ',hh,hsz,hd⟩:=h.mem.mp hn
    rw [hμ] at hμ';cases hμ'
    have hl:es.length=mes.toList.length:=by simp [hsz]
    have hbl:b<w.heap.size:=(Array.getElem?_eq_some_iff.1 hh).1
    obtain⟨j,k,bn,h1,h2,h3⟩:=z278 hl (fun j e m h1 h2=>(hd j e m h1 (by rw [← Array.getElem?_toList];exact h2)).2.1) hsb
    have hjl:j<mes.size:=by rw [hsz];exact (List.getElem?_eq_some_iff.1 h1).1
    have hfi:mes.findIdx? (fun e=>(e.born:Int) == b0)=some j:=by
     rw [← h3]
     cases mes
     simp
    have hW:Wrote b w { w with heap:=w.heap.setIfInBounds b (.map (mes.modify j fun e=>{ e with val:=val tmps x }) c) }:=z303
    have hg:Goes w (ownOf out μ) { w with heap:=w.heap.setIfInBounds b (.map (mes.modify j fun e=>{ e with val:=val tmps x }) c) } (ownOf out μ):=hW.goes (.inr ⟨_,_,_,_,hμ⟩)
    have hxr:DRel w (ownOf out μ) d (val tmps x):=by
     exact z90 deep _ _ d hx hd0
    have hst:=h.write hμ hW (blk:=.mp kk es' c) ⟨b,mes.modify j fun e=>{ e with val:=val tmps x },hμ,by simp [hbl],by rw [h2];simpa using hsz,fun i e m' p1 p2=>by
     rw [Array.getElem?_modify] at p2
     rw [h2,List.getElem?_set] at p1
     by_cases hji:j=i
     ·subst hji
      rw [if_pos rfl,if_pos (by rw [← hsz];exact hjl)] at p1
      cases p1
      rw [if_pos rfl,Array.getElem?_eq_getElem hjl] at p2
      cases p2
      have h4:=hd j _ mes[j] h1 (Array.getElem?_eq_getElem hjl)
      exact⟨h4.1,h4.2.1,hxr.goes hg⟩
     ·rw [if_neg hji] at p1 p2
      obtain⟨q1,q2,q3⟩:=hd i e m' p1 p2
      exact⟨q1,q2,q3.goes hg⟩⟩
    refine⟨.skip,Go.undef,_,μ,fun ds=>?_,.inr ⟨rfl,rfl⟩,by rw [hdst];exact hst,hW.keepOM hh (h.mem.base _ _ _ _ _ hμ).1 (.inr ⟨_,_,_,_,hμ⟩)⟩
    unfold execOp
    rw [z22]
    simp [ho,hmv,hsv,Instr.entryStore,MapKept.run_getObj_map hh,asInt,asIntOf,hfi,MapKept.run_setObj_map _ hh,Result.andThen,val]
   ·cases hs
  ·cases hs
 ·cases hs
end
end Go.Ab
