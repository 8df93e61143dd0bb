/- A walk engine over abstract states, and the contracts of the functions that the statement reaches: part 3. -/
import Derived.Test.YtgjnckiifffneaaWb
import Derived.Test.YtgjnckiifffneaaProg
import Derived.ChangeArms
import Derived.Test.YtgjnckiifffneaaRows
import Derived.JoinedCond
import Derived.Carry
import Derived.RowKit
set_option linter.unusedVariables false
set_option linter.unusedSimpArgs false
set_option linter.unnecessarySimpa false
/- The program's type table,as the engine asks for it. -/
namespace Go.Ab
open Go.RowKit Go.Proofs
theorem z819:tsz Try.prog 0=(some 1):=by kernel_rfl
theorem z488:tbytes Try.prog 0=(some 0):=by kernel_rfl
theorem z765:tagg Try.prog 0=(some false):=by kernel_rfl
theorem z818:tsz Try.prog 1=(some 1):=by kernel_rfl
theorem z487:tbytes Try.prog 1=(some 8):=by kernel_rfl
theorem z764:tagg Try.prog 1=(some false):=by kernel_rfl
theorem z817:tsz Try.prog 2=(some 1):=by kernel_rfl
theorem z486:tbytes Try.prog 2=(some 8):=by kernel_rfl
theorem z763:tagg Try.prog 2=(some false):=by kernel_rfl
theorem z757:tint Try.prog 2=(some IntKind.i64):=by kernel_rfl
theorem z816:tsz Try.prog 3=(some 1):=by kernel_rfl
theorem z485:tbytes Try.prog 3=(some 8):=by kernel_rfl
theorem z762:tagg Try.prog 3=(some false):=by kernel_rfl
theorem z756:tint Try.prog 3=(some IntKind.i64):=by kernel_rfl
theorem z815:tsz Try.prog 4=(some 1):=by kernel_rfl
theorem z484:tbytes Try.prog 4=(some 1):=by kernel_rfl
theorem z761:tagg Try.prog 4=(some false):=by kernel_rfl
theorem z755:tsz Try.prog 11=(some 1):=by kernel_rfl
theorem z424:tbytes Try.prog 11=(some 16):=by kernel_rfl
theorem z650:tagg Try.prog 11=(some false):=by kernel_rfl
theorem z754:tsz Try.prog 22=(some 1):=by kernel_rfl
theorem z423:tbytes Try.prog 22=(some 24):=by kernel_rfl
theorem z649:tagg Try.prog 22=(some false):=by kernel_rfl
theorem z398:tslice Try.prog 22=(some 3):=by kernel_rfl
theorem z753:tsz Try.prog 23=(some 1):=by kernel_rfl
theorem z422:tbytes Try.prog 23=(some 24):=by kernel_rfl
theorem z648:tagg Try.prog 23=(some false):=by kernel_rfl
theorem z397:tslice Try.prog 23=(some 47):=by kernel_rfl
theorem z752:tsz Try.prog 24=(some 1):=by kernel_rfl
theorem z421:tbytes Try.prog 24=(some 24):=by kernel_rfl
theorem z647:tagg Try.prog 24=(some false):=by kernel_rfl
theorem z396:tslice Try.prog 24=(some 72):=by kernel_rfl
theorem z751:tsz Try.prog 25=(some 1):=by kernel_rfl
theorem z420:tbytes Try.prog 25=(some 24):=by kernel_rfl
theorem z646:tagg Try.prog 25=(some false):=by kernel_rfl
theorem z395:tslice Try.prog 25=(some 58):=by kernel_rfl
theorem z750:tsz Try.prog 27=(some 4):=by kernel_rfl
theorem z419:tbytes Try.prog 27=(some 96):=by kernel_rfl
theorem z645:tagg Try.prog 27=(some true):=by kernel_rfl
theorem z333:tfields Try.prog 27=(some [(0,(1,false)),(1,(1,false)),(2,(1,false)),(3,(1,false))]):=by kernel_rfl
theorem z749:tsz Try.prog 28=(some 1):=by kernel_rfl
theorem z418:tbytes Try.prog 28=(some 24):=by kernel_rfl
theorem z644:tagg Try.prog 28=(some false):=by kernel_rfl
theorem z394:tslice Try.prog 28=(some 22):=by kernel_rfl
theorem z748:tsz Try.prog 33=(some 1):=by kernel_rfl
theorem z417:tbytes Try.prog 33=(some 8):=by kernel_rfl
theorem z643:tagg Try.prog 33=(some false):=by kernel_rfl
theorem z623:tint Try.prog 33=(some IntKind.i64):=by kernel_rfl
theorem z747:tsz Try.prog 43=(some 3):=by kernel_rfl
theorem z416:tbytes Try.prog 43=(some 56):=by kernel_rfl
theorem z642:tagg Try.prog 43=(some true):=by kernel_rfl
theorem z332:tfields Try.prog 43=(some [(0,(1,false)),(1,(1,false)),(2,(1,false))]):=by kernel_rfl
theorem z746:tsz Try.prog 47=(some 3):=by kernel_rfl
theorem z415:tbytes Try.prog 47=(some 24):=by kernel_rfl
theorem z641:tagg Try.prog 47=(some true):=by kernel_rfl
theorem z331:tfields Try.prog 47=(some [(0,(1,false)),(1,(1,false)),(2,(1,false))]):=by kernel_rfl
theorem z760:teq Try.prog 47=(some [(0,false),(1,false),(2,false)]):=by kernel_rfl
theorem z745:tsz Try.prog 55=(some 2):=by kernel_rfl
theorem z414:tbytes Try.prog 55=(some 16):=by kernel_rfl
theorem z640:tagg Try.prog 55=(some true):=by kernel_rfl
theorem z330:tfields Try.prog 55=(some [(0,(1,false)),(1,(1,false))]):=by kernel_rfl
theorem z759:teq Try.prog 55=(some [(0,false),(1,false)]):=by kernel_rfl
theorem z744:tsz Try.prog 57=(some 3):=by kernel_rfl
theorem z413:tbytes Try.prog 57=(some 24):=by kernel_rfl
theorem z639:tagg Try.prog 57=(some true):=by kernel_rfl
theorem z329:tfields Try.prog 57=(some [(0,(1,false)),(1,(2,true))]):=by kernel_rfl
theorem z758:teq Try.prog 57=(some [(0,false),(1,false),(2,false)]):=by kernel_rfl
theorem z743:tsz Try.prog 58=(some 1):=by kernel_rfl
theorem z412:tbytes Try.prog 58=(some 24):=by kernel_rfl
theorem z638:tagg Try.prog 58=(some false):=by kernel_rfl
theorem z393:tslice Try.prog 58=(some 57):=by kernel_rfl
theorem z742:tsz Try.prog 72=(some 1):=by kernel_rfl
theorem z411:tbytes Try.prog 72=(some 24):=by kernel_rfl
theorem z637:tagg Try.prog 72=(some true):=by kernel_rfl
theorem z328:tfields Try.prog 72=(some [(0,(1,false))]):=by kernel_rfl
theorem z741:tsz Try.prog 75=(some 1):=by kernel_rfl
theorem z410:tbytes Try.prog 75=(some 8):=by kernel_rfl
theorem z636:tagg Try.prog 75=(some false):=by kernel_rfl
theorem z740:tsz Try.prog 77=(some 4):=by kernel_rfl
theorem z409:tbytes Try.prog 77=(some 96):=by kernel_rfl
theorem z635:tagg Try.prog 77=(some true):=by kernel_rfl
theorem z327:tfields Try.prog 77=(some [(0,(4,true))]):=by kernel_rfl
theorem z739:tsz Try.prog 78=(some 1):=by kernel_rfl
theorem z408:tbytes Try.prog 78=(some 8):=by kernel_rfl
theorem z634:tagg Try.prog 78=(some false):=by kernel_rfl
theorem z483:tmapK Try.prog 78=(some ((some 11),85)):=by kernel_rfl
theorem z738:tsz Try.prog 80=(some 5):=by kernel_rfl
theorem z407:tbytes Try.prog 80=(some 104):=by kernel_rfl
theorem z633:tagg Try.prog 80=(some true):=by kernel_rfl
theorem z326:tfields Try.prog 80=(some [(0,(4,true)),(4,(1,false))]):=by kernel_rfl
theorem z737:tsz Try.prog 81=(some 10):=by kernel_rfl
theorem z406:tbytes Try.prog 81=(some 80):=by kernel_rfl
theorem z632:tagg Try.prog 81=(some true):=by kernel_rfl
theorem z624:tarr Try.prog 81=(some 10):=by kernel_rfl
theorem z489:tslice Try.prog 81=none:=by kernel_rfl
theorem z736:tsz Try.prog 83=(some 11):=by kernel_rfl
theorem z405:tbytes Try.prog 83=(some 88):=by kernel_rfl
theorem z631:tagg Try.prog 83=(some true):=by kernel_rfl
theorem z325:tfields Try.prog 83=(some [(0,(1,false)),(1,(10,true))]):=by kernel_rfl
theorem z735:tsz Try.prog 85=(some 2):=by kernel_rfl
theorem z404:tbytes Try.prog 85=(some 32):=by kernel_rfl
theorem z630:tagg Try.prog 85=(some true):=by kernel_rfl
theorem z324:tfields Try.prog 85=(some [(0,(1,false)),(1,(1,false))]):=by kernel_rfl
theorem z734:tsz Try.prog 87=(some 1):=by kernel_rfl
theorem z403:tbytes Try.prog 87=(some 8):=by kernel_rfl
theorem z629:tagg Try.prog 87=(some false):=by kernel_rfl
theorem z733:tsz Try.prog 90=(some 7):=by kernel_rfl
theorem z402:tbytes Try.prog 90=(some 152):=by kernel_rfl
theorem z628:tagg Try.prog 90=(some true):=by kernel_rfl
theorem z323:tfields Try.prog 90=(some [(0,(4,true)),(4,(1,false)),(5,(1,false)),(6,(1,false))]):=by kernel_rfl
theorem z732:tsz Try.prog 92=(some 1):=by kernel_rfl
theorem z401:tbytes Try.prog 92=(some 8):=by kernel_rfl
theorem z627:tagg Try.prog 92=(some false):=by kernel_rfl
theorem z731:tsz Try.prog 94=(some 1):=by kernel_rfl
theorem z400:tbytes Try.prog 94=(some 8):=by kernel_rfl
theorem z626:tagg Try.prog 94=(some false):=by kernel_rfl
theorem z730:tsz Try.prog 95=(some 1):=by kernel_rfl
theorem z399:tbytes Try.prog 95=(some 8):=by kernel_rfl
theorem z625:tagg Try.prog 95=(some false):=by kernel_rfl
theorem z622:tsz Try.prog 103=(some 1):=by kernel_rfl
theorem z339:tbytes Try.prog 103=(some 8):=by kernel_rfl
theorem z495:tagg Try.prog 103=(some false):=by kernel_rfl
theorem z621:tsz Try.prog 110=(some 1):=by kernel_rfl
theorem z338:tbytes Try.prog 110=(some 8):=by kernel_rfl
theorem z494:tagg Try.prog 110=(some false):=by kernel_rfl
theorem z620:tsz Try.prog 112=(some 1):=by kernel_rfl
theorem z337:tbytes Try.prog 112=(some 8):=by kernel_rfl
theorem z493:tagg Try.prog 112=(some false):=by kernel_rfl
theorem z619:tsz Try.prog 114=(some 1):=by kernel_rfl
theorem z336:tbytes Try.prog 114=(some 8):=by kernel_rfl
theorem z492:tagg Try.prog 114=(some false):=by kernel_rfl
theorem z618:tsz Try.prog 115=(some 1):=by kernel_rfl
theorem z335:tbytes Try.prog 115=(some 8):=by kernel_rfl
theorem z491:tagg Try.prog 115=(some false):=by kernel_rfl
theorem z617:tsz Try.prog 117=(some 1):=by kernel_rfl
theorem z334:tbytes Try.prog 117=(some 8):=by kernel_rfl
theorem z490:tagg Try.prog 117=(some false):=by kernel_rfl
theorem z729:tzero Try.prog 1=some Value.nilFunc:=by kernel_rfl
theorem z728:tzero Try.prog 2=some (Value.int IntKind.i64 0):=by kernel_rfl
theorem z727:tzero Try.prog 3=some (Value.int IntKind.i64 0):=by kernel_rfl
theorem z726:tzero Try.prog 4=some (Value.bool false):=by kernel_rfl
theorem z616:tzero Try.prog 22=some (Value.slice none 0 0):=by kernel_rfl
theorem z615:tzero Try.prog 23=some (Value.slice none 0 0):=by kernel_rfl
theorem z614:tzero Try.prog 24=some (Value.slice none 0 0):=by kernel_rfl
theorem z613:tzero Try.prog 25=some (Value.slice none 0 0):=by kernel_rfl
theorem z612:tzero Try.prog 27=some (Value.agg #[Value.slice none 0 0,Value.slice none 0 0,Value.slice none 0 0,Value.slice none 0 0]):=by kernel_rfl
theorem z611:tzero Try.prog 28=some (Value.slice none 0 0):=by kernel_rfl
theorem z610:tzero Try.prog 33=some (Value.int IntKind.i64 0):=by kernel_rfl
theorem z609:tzero Try.prog 43=some (Value.agg #[Value.slice none 0 0,Value.slice none 0 0,Value.int IntKind.i64 0]):=by kernel_rfl
theorem z608:tzero Try.prog 47=some (Value.agg #[Value.int IntKind.i64 0,Value.int IntKind.i64 0,Value.int IntKind.i64 0]):=by kernel_rfl
theorem z607:tzero Try.prog 55=some (Value.agg #[Value.int IntKind.i64 0,Value.int IntKind.i64 0]):=by kernel_rfl
theorem z606:tzero Try.prog 57=some (Value.agg #[Value.int IntKind.i64 0,Value.int IntKind.i64 0,Value.int IntKind.i64 0]):=by kernel_rfl
theorem z605:tzero Try.prog 58=some (Value.slice none 0 0):=by kernel_rfl
theorem z604:tzero Try.prog 72=some (Value.agg #[Value.slice none 0 0]):=by kernel_rfl
theorem z603:tzero Try.prog 75=some (Value.pointer none):=by kernel_rfl
theorem z602:tzero Try.prog 77=some (Value.agg #[Value.slice none 0 0,Value.slice none 0 0,Value.slice none 0 0,Value.slice none 0 0]):=by kernel_rfl
theorem z601:tzero Try.prog 78=some (Value.map none):=by kernel_rfl
theorem z600:tzero Try.prog 80=some (Value.agg #[Value.slice none 0 0,Value.slice none 0 0,Value.slice none 0 0,Value.slice none 0 0,Value.map none]):=by kernel_rfl
theorem z599:tzero Try.prog 81=some (Value.agg #[Value.int IntKind.i64 0,Value.int IntKind.i64 0,Value.int IntKind.i64 0,Value.int IntKind.i64 0,Value.int IntKind.i64 0,Value.int IntKind.i64 0,Value.int IntKind.i64 0,Value.int IntKind.i64 0,Value.int IntKind.i64 0,Value.int IntKind.i64 0]):=by kernel_rfl
theorem z598:tzero Try.prog 83=some (Value.agg #[Value.int IntKind.i64 0,Value.int IntKind.i64 0,Value.int IntKind.i64 0,Value.int IntKind.i64 0,Value.int IntKind.i64 0,Value.int IntKind.i64 0,Value.int IntKind.i64 0,Value.int IntKind.i64 0,Value.int IntKind.i64 0,Value.int IntKind.i64 0,Value.int IntKind.i64 0]):=by kernel_rfl
theorem z597:tzero Try.prog 85=some (Value.agg #[Value.int IntKind.i64 0,Value.slice none 0 0]):=by kernel_rfl
theorem z596:tzero Try.prog 87=some (Value.pointer none):=by kernel_rfl
theorem z595:tzero Try.prog 90=some (Value.agg #[Value.slice none 0 0,Value.slice none 0 0,Value.slice none 0 0,Value.slice none 0 0,Value.slice none 0 0,Value.slice none 0 0,Value.int IntKind.i64 0]):=by kernel_rfl
theorem z594:tzero Try.prog 92=some Value.nilFunc:=by kernel_rfl
theorem z593:tzero Try.prog 94=some Value.nilFunc:=by kernel_rfl
theorem z592:tzero Try.prog 95=some Value.nilFunc:=by kernel_rfl
theorem z482:tzero Try.prog 103=some Value.nilFunc:=by kernel_rfl
theorem z481:tzero Try.prog 110=some Value.nilFunc:=by kernel_rfl
theorem z480:tzero Try.prog 112=some Value.nilFunc:=by kernel_rfl
theorem z479:tzero Try.prog 114=some Value.nilFunc:=by kernel_rfl
theorem z478:tzero Try.prog 115=some Value.nilFunc:=by kernel_rfl
theorem z477:tzero Try.prog 117=some Value.nilFunc:=by kernel_rfl
attribute [go_sem] z819 z488 z765 z818 z487 z764 z817 z486 z763 z757 z816 z485 z762 z756 z815 z484 z761 z755 z424 z650 z754 z423 z649 z398 z753 z422 z648 z397 z752 z421 z647 z396 z751 z420 z646 z395 z750 z419 z645 z333 z749 z418 z644 z394 z748 z417 z643 z623 z747 z416 z642 z332 z746 z415 z641 z331 z760 z745 z414 z640 z330 z759 z744 z413 z639 z329 z758 z743 z412 z638 z393 z742 z411 z637 z328 z741 z410 z636 z740 z409 z635 z327 z739 z408 z634 z483 z738 z407 z633 z326 z737 z406 z632 z624 z489 z736 z405 z631 z325 z735 z404 z630 z324 z734 z403 z629 z733 z402 z628 z323 z732 z401 z627 z731 z400 z626 z730 z399 z625 z622 z339 z495 z621 z338 z494 z620 z337 z493 z619 z336 z492 z618 z335 z491 z617 z334 z490 z729 z728 z727 z726 z616 z615 z614 z613 z612 z611 z610 z609 z608 z607 z606 z605 z604 z603 z602 z601 z600 z599 z598 z597 z596 z595 z594 z593 z592 z482 z481 z480 z479 z478 z477 Try.underlying2 Try.underlying3 Try.underlying4 Try.underlying33 Try.underlying75 Try.underlying87
theorem weA {st st':St} (h1:lessT [] st.t st'.t) (h2:lessM [] 0 st.m st'.m) (h3:st'.t.all (liveB st'.m)=true:=by rfl) (h4:liveM st'.m st'.m=true:=by rfl):Weak st st':=z63 [] h1 h2 h3 h4
attribute [simp] lessT lessM lessB AV.less
end Go.Ab
namespace Go.Ab
open Go.RowKit Go.Proofs
structure Span where
 lo:Int
 hi:Int
structure Hour where
 wind:Span
 rain:Span
 temp:Span
structure Sky where
 wind:Int
 rain:Int
 temp:Int
structure Sight where
 hour:Int
 sky:Sky
structure Plant where
 scen:List (List Hour)
 seen:List Sight
 sun:List Int
 gain:Int
 start:Int
 stop:Int
 charge:Int
 capacity:Int
 reserve:Int
 gas:Int
 rate:Int
 units:Int
 needs:List Int
def Span.row (s:Span):List DV:=[.i s.lo,.i s.hi]
def Hour.row (h:Hour):List DV:=[.i h.wind.lo,.i h.wind.hi,.i h.rain.lo,.i h.rain.hi,.i h.temp.lo,.i h.temp.hi]
def Sky.row (s:Sky):List DV:=[.i s.wind,.i s.rain,.i s.temp]
def Sight.row (s:Sight):List DV:=[.i s.hour,.i s.sky.wind,.i s.sky.rain,.i s.sky.temp]
def hourRows (l:List Hour):List (List DV):=l.map Hour.row
def scenRows (l:List (List Hour)):List (List DV):=l.map fun h=>[.sl (hourRows h)]
def intRows (l:List Int):List (List DV):=l.map fun x=>[.i x]
def sightRows (l:List Sight):List (List DV):=l.map Sight.row
def skyRows (l:List Sky):List (List DV):=l.map Sky.row
def Plant.cells (p:Plant):List DV:=[.sl (scenRows p.scen),.sl (sightRows p.seen),.sl (intRows p.sun),.i p.gain,.i p.start,.i p.stop,.i p.charge,.i p.capacity,.i p.reserve,.i p.gas,.i p.rate,.i p.units,.sl (intRows p.needs)]
theorem z542 (l:List Hour):(hourRows l).length=l.length:=by simp [hourRows]
theorem z502 (l:List (List Hour)):(scenRows l).length=l.length:=by simp [scenRows]
theorem z13 (l:List Int):(intRows l).length=l.length:=by simp [intRows]
theorem z428 (l:List Sight):(sightRows l).length=l.length:=by simp [sightRows]
theorem z651 (l:List Sky):(skyRows l).length=l.length:=by simp [skyRows]
theorem z35 {l:List Int} {i:Nat} {x:Int} (h:l[i]?=some x):(intRows l)[i]?=some [.i x]:=by simp [intRows,h]
theorem z445 (l:List Hour):headIs 6 (hourRows l)=true:=by cases l <;> rfl
theorem z429 (l:List (List Hour)):headIs 1 (scenRows l)=true:=by cases l <;> rfl
theorem z540 (l:List Int):headIs 1 (intRows l)=true:=by cases l <;> rfl
theorem z340 (l:List Sight):headIs 4 (sightRows l)=true:=by cases l <;> rfl
theorem z499 (l:List Sky):headIs 3 (skyRows l)=true:=by cases l <;> rfl
attribute [go_sem] z542 z502 z13 z428 z651 z445 z429 z540 z340 z499
theorem z506 {α:Type} {f:α→List DV} (h:∀ x,∀ d ∈ f x,d.flat=true) (l:List α):rowsFlat (l.map f):=by
 intro r hr d hd
 obtain ⟨x,_,rfl⟩:=List.mem_map.1 hr
 exact h x d hd
theorem z39 (l:List Int):rowsFlat (intRows l):=z506 (by intro x d hd;simp at hd;subst hd;rfl) l
abbrev wr (x:Int):Int:=IntKind.i64.wrap x
theorem z17 {x:Int} (h:-(2 ^ 63)≤x∧x<2 ^ 63):IntKind.i64.wrap x=x:=by
 rw [IntKind.wrap_i64];omega
theorem z78 {α β:Type} (f:β→α→β) (b:β) (l:List α) (i:Nat) (x:α) (h:l[i]?=some x):(l.take (i + 1)).foldl f b=f ((l.take i).foldl f b) x:=by
 rw [List.take_add_one,h];simp
theorem z29 {α:Type} {l:List α} {i:Nat} {x:α} (h:l[i]?=some x):l.drop i=x::l.drop (i + 1):=by
 obtain ⟨hlt,rfl⟩:=List.getElem?_eq_some_iff.1 h
 exact List.drop_eq_getElem_cons hlt
def idxFrom {α:Type} (q:α→Bool):List α→Nat→Int
 | [],_=>-1
 | x::xs,i=>if q x then (i:Int) else idxFrom q xs (i + 1)
theorem z56 {α:Type} (q:α→Bool):∀ (l:List α) (i:Nat),decide (idxFrom q l i ≥ 0)=l.any q
 | [],i=>by simp [idxFrom]
 | x::xs,i=>by
  simp only [idxFrom,List.any_cons]
  by_cases h:q x
  ·simp [h]
  ·simp [h,← z56 q xs (i + 1)]
theorem z319 {α:Type} (l:List α) (q:α→Bool):(!(l.any fun s=>!q s))=l.all q:=by
 induction l with
 | nil=>rfl
 | cons x xs ih=>simp only [List.any_cons,List.all_cons,← ih];cases q x <;> simp
theorem z52 (m:List (Option Blk)) (x:AV) (d:DV) (caps:List DV) (h:reify m deep x=some d):allSome ((x::caps.map AV.d).map (reify m deep))=some (d::caps):=by
 have:∀ l:List DV,allSome ((l.map AV.d).map (reify m deep))=some l:=by
  intro l
  induction l with
  | nil=>rfl
  | cons a l ih =>
   simp only [List.map_cons]
   rw [show reify m deep (AV.d a)=some a from rfl]
   simp only [allSome,ih,Option.map_some]
 simp only [List.map_cons,h,allSome]
 rw [this caps]
 rfl
def getI (l:List Int) (i:Int):Int:=l.getD i.toNat 0
end Go.Ab
namespace Go.Ab
open Go.RowKit Go.Proofs
set_option maxHeartbeats 4000000
set_option maxRecDepth 20000
attribute [local irreducible] WalkL Walk
def withinB (n lo hi:Int):Bool:=decide (lo≤n) && decide (n≤hi)
def orderedB (s:Span) (lo hi:Int):Bool:=decide (lo≤s.lo) && (decide (s.lo≤s.hi) && decide (s.hi≤hi))
theorem z37 {x lo hi:Int}:withinB x lo hi=true↔lo≤x∧x≤hi:=by simp [withinB]
def hourB (h:Hour):Bool:=orderedB h.wind 0 200 && (orderedB h.rain 0 100 && orderedB h.temp (-50) 50)
def pointH (s:Sky):Hour:=⟨⟨s.wind,s.wind⟩,⟨s.rain,s.rain⟩,⟨s.temp,s.temp⟩⟩
def insideB (s:Sky) (h:Hour):Bool:=withinB s.wind h.wind.lo h.wind.hi && (withinB s.rain h.rain.lo h.rain.hi && withinB s.temp h.temp.lo h.temp.hi)
end Go.Ab
namespace Go.Ab
open Go.RowKit Go.Proofs
set_option maxHeartbeats 4000000
set_option maxRecDepth 20000
attribute [local irreducible] WalkL Walk
structure ForeSmall (F:List (List Hour)):Prop where
 scen:F.length<2 ^ 30
 hours:∀ l ∈ F,l.length<2 ^ 30
def scenB (h0 x:List Hour):Bool:=withinB x.length 1 48 && (((x.length:Int) == (h0.length:Int)) && x.all hourB)
def hd0 (F:List (List Hour)):List Hour:=F.headD []
def badF (F:List (List Hour)):Bool:=!withinB F.length 1 6 || !(F.all (scenB (hd0 F)))
def foreF (F:List (List Hour)):Int:=if badF F then 50 else 0
def sightOk (H:Int) (s:Sight):Bool:=withinB s.hour 0 (H - 1) && hourB (pointH s.sky)
def sightsB (H:Int) (l:List Sight):Bool:=l.all (sightOk H) && (decide ((l.map (·.hour)).Nodup) && decide ((l.length:Int)≤20))
def entsFrom:List Sight→Nat→List (MK × DV × Nat)
 | [],_=>[]
 | s::l,j=>(.i s.hour,.i 1,j)::entsFrom l (j + 1)
end Go.Ab
namespace Go.Ab
open Go.RowKit Go.Proofs
set_option maxHeartbeats 4000000
set_option maxRecDepth 20000
attribute [local irreducible] WalkL Walk
def noHour:Hour:=⟨⟨0,0⟩,⟨0,0⟩,⟨0,0⟩⟩
def hourAt (l:List Hour) (i:Int):Hour:=l.getD i.toNat noHour
theorem z785 {l:List Hour} {i:Int} (h:0≤i∧i.toNat<l.length):l[i.toNat]?=some (hourAt l i):=by
 unfold hourAt
 rw [List.getD,List.getElem?_eq_getElem h.2]
 rfl
def seenHours (seen:List Sight) (l:List Hour):List Hour:=seen.foldl (fun l s=>l.set s.hour.toNat (pointH s.sky)) l
def agreesB (seen:List Sight) (l:List Hour):Bool:=seen.all fun s=>insideB s.sky (hourAt l s.hour)
def possFrom (seen:List Sight):List (List Hour)→Nat→List (Nat × List Hour)
 | [],_=>[]
 | l::F,j=>if agreesB seen l then (j,seenHours seen l)::possFrom seen F (j + 1) else possFrom seen F (j + 1)
def possL (F:List (List Hour)) (seen:List Sight):List (Nat × List Hour):=possFrom seen F 0
def numsOf (l:List (Nat × List Hour)):List Int:=l.map fun x=>(x.1:Int)
def scensOf (l:List (Nat × List Hour)):List (List Hour):=l.map (·.2)
def lookF (F:List (List Hour)) (seen:List Sight) (err:Int) (told:Bool):Int :=
 if badF F then 50 else if sightsB (hd0 F).length seen then (if err=0 then (if told then (if (possL F seen).isEmpty then 3 else 0) else 1) else err) else 51
def lookV (F:List (List Hour)) (seen:List Sight):DV:=.ptr [.sl (intRows (numsOf (possL F seen))),.sl (scenRows (scensOf (possL F seen))),.i (hd0 F).length] 0
structure ForeGood (F:List (List Hour)):Prop where
 scen:1≤F.length∧F.length≤6
 hours:1≤(hd0 F).length∧(hd0 F).length≤48
 len:∀ l ∈ F,l.length=(hd0 F).length
 hour:∀ l ∈ F,∀ h ∈ l,hourB h=true
end Go.Ab
namespace Go.Ab
open Go.RowKit Go.Proofs
set_option maxHeartbeats 4000000
set_option maxRecDepth 20000
attribute [local irreducible] WalkL Walk
def listRows (l:List (List Int)):List (List DV):=l.map fun x=>[.sl (intRows x)]
theorem z25 (l:List (List Int)):(listRows l).length=l.length:=by simp [listRows]
theorem z32 {l:List (List Int)} {i:Nat} {x:List Int} (h:l[i]?=some x):(listRows l)[i]?=some [.sl (intRows x)]:=by simp [listRows,h]
theorem z441 (l:List (List Int)):headIs 1 (listRows l)=true:=by cases l <;> rfl
attribute [go_sem] z25 z441
theorem z1005 (xs:List Int) (g:Nat) (caps:List DV) (q:Int→Bool) (hq:∀ s ∈ xs,Fn Try.prog g (.i s::caps) (.bool (q s))) (hl:xs.length<2 ^ 62):Fn Try.prog 102 [.sl (intRows xs),.fn g caps] (.i (idxFrom q xs 0)):=by
 refine z18 19 Try.call102 Try.func102 rfl (by decide) fun J=>?_
 simp only [go_sem,St.start,Try.ntmps102,Try.results102]
 repeat (first | refine nx ?_ | (refine z10 fun K hK=>?_;simp only [go_sem];apply hK;clear hK K))
 refine z15 (fun (i:Nat)=>[(8,.d (.i i))]) (fun _=>[]) (fun i=>i≤xs.length∧idxFrom q xs 0=idxFrom q (xs.drop i) i) (fun i=>xs.length - i) 0 ?_ ⟨Nat.zero_le _,rfl⟩ ?_
 ·simp only [go_sem]
  refine weA ?_ ?_ <;> simp
 ·intro i ⟨hi,hq0⟩
  simp only [go_sem]
  repeat (first | refine nx ?_ | (refine z10 fun K hK=>?_;simp only [go_sem];apply hK;clear hK K))
  refine z14 rfl (fun hb=>?_) (fun hb=>?_)
  ·have hlt:i<xs.length:=by simpa using hb
   have hw:IntKind.i64.wrap ((i:Int) + 1)=((i + 1:Nat):Int):=by rw [z17 (by omega)];simp
   obtain ⟨s,hs⟩:∃ s,xs[i]?=some s:=⟨_,List.getElem?_eq_getElem hlt⟩
   rw [z29 hs,idxFrom] at hq0
   repeat (first | refine nx ?_ | (refine z10 fun K hK=>?_;simp only [go_sem];apply hK;clear hK K))
   refine z10 fun K hK=>?_
   simp only [go_sem,hs,List.getElem?_map,z35 hs,hw]
   refine ⟨_,.lent (hf:=hq s (List.mem_of_getElem? hs)) (hd:=z52 _ _ _ _ rfl) (hr:=rfl),?_⟩
   simp only [go_sem]
   apply hK
   clear hK K
   refine z14 rfl (fun hc=>?_) (fun hc=>?_)
   ·rw [hc,if_pos rfl] at hq0
    repeat (first | refine nx ?_ | (refine z10 fun K hK=>?_;simp only [go_sem];apply hK;clear hK K))
    simp only [go_sem,hq0]
   ·rw [hc] at hq0
    repeat (first | refine nx ?_ | (refine z10 fun K hK=>?_;simp only [go_sem,hw];apply hK;clear hK K))
    refine ⟨rfl,i + 1,?_,⟨hlt,hq0⟩,by omega⟩
    refine weA ?_ ?_ <;> simp
  ·have he:i=xs.length:=by (have:¬ i<xs.length:=by simpa using hb);omega
   subst he
   repeat (first | refine nx ?_ | (refine z10 fun K hK=>?_;simp only [go_sem];apply hK;clear hK K))
   simp only [go_sem,hq0,List.drop_length,idxFrom]
theorem z1073 (xs:List Int) (g:Nat) (caps:List DV) (q:Int→Bool) (hq:∀ s ∈ xs,Fn Try.prog g (.i s::caps) (.bool (q s))) (hl:xs.length<2 ^ 62):Fn Try.prog 87 [.sl (intRows xs),.fn g caps] (.bool (xs.any q)):=by
 refine z18 9 Try.call87 Try.func87 rfl (by decide) fun J=>?_
 simp only [go_sem,St.start,Try.ntmps87,Try.results87]
 repeat (first | refine nx ?_ | (refine z10 fun K hK=>?_;simp only [go_sem];(repeat (first | (refine ⟨_,.lent (hf:=z1005 xs g caps q hq hl) (hd:=rfl) (hr:=rfl),?_⟩;simp only [go_sem]) | (refine ⟨_,.given (hf:=z1005 xs g caps q hq hl) (hd:=rfl) (ha:=rfl),?_⟩;simp only [go_sem])));apply hK;clear hK K))
 simp only [go_sem,z56]
structure Grid where
 p:Plant
 scen:List (List Hour)
 hours:Int
def Grid.cells (g:Grid):List DV:=[.sl (scenRows g.p.scen),.sl (sightRows g.p.seen),.sl (intRows g.p.sun),.i g.p.gain,.i g.p.start,.i g.p.stop,.i g.p.charge,.i g.p.capacity,.i g.p.reserve,.i g.p.gas,.i g.p.rate,.i g.p.units,.sl (intRows g.p.needs),.sl (scenRows g.scen),.i g.hours]
def powerB (H:Int) (l:List Int):Bool:=((l.length:Int) == H) && !(l.any fun n=>!withinB n 0 10000)
def sumI (l:List Int):Int:=l.foldl (· + ·) 0
def burnB (g:Grid) (l:List Int):Bool:=(l.all fun n=>withinB n 0 g.p.rate) && (((l.length:Int) == g.hours) && decide (sumI l≤g.p.units))
end Go.Ab
namespace Go.Ab
open Go.RowKit Go.Proofs
set_option maxHeartbeats 8000000
set_option maxRecDepth 20000
attribute [local irreducible] WalkL Walk
structure PlantSmall (p:Plant):Prop where
 fore:ForeSmall p.scen
 seen:p.seen.length<2 ^ 30
 sun:p.sun.length<2 ^ 30
 needs:p.needs.length<2 ^ 30
def hoursOf (p:Plant):Int:=(hd0 p.scen).length
def gridOf (p:Plant):Grid:=⟨p,scensOf (possL p.scen p.seen),hoursOf p⟩
def plantBad (p:Plant) (H:Int):Bool :=
 !powerB H p.sun || (!powerB H p.needs || (!withinB p.gain 0 100 || (!withinB p.start 0 p.stop || (decide (p.stop > 200) ||
 (!withinB p.capacity 0 100000 || (!withinB p.charge 0 p.capacity || (!withinB p.reserve 0 p.capacity ||
 (!withinB p.gas 0 10000 || (!withinB p.rate 0 10 || !withinB p.units 0 200)))))))))
def openE (p:Plant) (burns:List (List Int)):Int :=
 if lookF p.scen p.seen 0 true=0 then (if plantBad p (hoursOf p) then 100 else if burns.any (fun l=>!burnB (gridOf p) l) then 101 else 0) else lookF p.scen p.seen 0 true
end Go.Ab
namespace Go.Ab
open Go.RowKit Go.Proofs
set_option maxHeartbeats 8000000
set_option maxRecDepth 20000
attribute [local irreducible] WalkL Walk
def yieldW (p:Plant) (h:Int) (s:Sky):Int :=
 if withinB s.wind p.start p.stop then wr (wr ((wr (getI p.sun h * wr (100 - s.rain))).tdiv 100) + wr (p.gain * s.wind)) else wr ((wr (getI p.sun h * wr (100 - s.rain))).tdiv 100)
def worstW (p:Plant) (h:Hour):Sky:=⟨if decide (h.wind.lo ≥ p.start) && decide (h.wind.hi > p.stop) then h.wind.hi else h.wind.lo,h.rain.hi,h.temp.lo⟩
def bestW (p:Plant) (h:Hour):Sky:=⟨if decide (p.stop<h.wind.hi) && decide (p.stop ≥ h.wind.lo) then p.stop else h.wind.hi,h.rain.lo,h.temp.lo⟩
def leastW (p:Plant) (l:List Hour):List Sky:=l.map (worstW p)
def noSky:Sky:=⟨0,0,0⟩
def skyAt (l:List Sky) (i:Nat):Sky:=l.getD i noSky
theorem z825 {l:List Sky} {i:Nat} (h:i<l.length):l[i]?=some (skyAt l i):=by
 unfold skyAt
 rw [List.getD,List.getElem?_eq_getElem h]
 rfl
def allOf (p:Plant) (burn:List Int) (skies:List Sky) (lv:Int) (j:Nat):Int :=
 wr (wr (wr (lv + yieldW p j (skyAt skies j)) + wr (p.gas * getI burn j)) - getI p.needs j)
def lvAt (p:Plant) (burn:List Int) (skies:List Sky):Nat→Int
 | 0=>p.charge
 | j + 1=>min (allOf p burn skies (lvAt p burn skies j) j) p.capacity
def lostAt (p:Plant) (burn:List Int) (skies:List Sky) (j:Nat):Int:=wr (allOf p burn skies (lvAt p burn skies j) j - lvAt p burn skies (j + 1))
def levItems (p:Plant) (burn:List Int) (skies:List Sky):List (List DV):=(List.range skies.length).map fun j=>[.i (lvAt p burn skies (j + 1)),.i (lostAt p burn skies j)]
end Go.Ab
namespace Go.Ab
open Go.RowKit Go.Proofs
set_option maxHeartbeats 8000000
set_option maxRecDepth 20000
attribute [local irreducible] WalkL Walk
def countTo (q:Nat→Bool):Nat→Nat→Nat
 | 0,i=>i
 | k + 1,i=>if q i then countTo q k (i + 1) else i
def lastsW (p:Plant) (burn:List Int) (skies:List Sky):Nat:=countTo (fun j=>!decide (lvAt p burn skies (j + 1)<p.reserve)) skies.length 0
structure GridOk (g:Grid) (H:Nat):Prop where
 hours:g.hours=H
 pos:1≤H∧H≤48
 sun:g.p.sun.length=H
 needs:g.p.needs.length=H
 scen:g.scen≠[]∧g.scen.length<2 ^ 20
 len:∀ l ∈ g.scen,l.length=H
 rate:0≤g.p.rate∧g.p.rate≤10
 units:0≤g.p.units∧g.p.units≤200
def hardStep (p:Plant) (burn:List Int) (a:List Sky × Int) (l:List Hour):List Sky × Int :=
 if (lastsW p burn (leastW p l):Int)<a.2 then (leastW p l,(lastsW p burn (leastW p l):Int)) else a
def hardF (g:Grid) (burn:List Int):List Sky × Int:=g.scen.foldl (hardStep g.p burn) ([],g.hours + 1)
end Go.Ab
namespace Go.Ab
open Go.RowKit Go.Proofs
set_option maxHeartbeats 8000000
set_option maxRecDepth 20000
attribute [local irreducible] WalkL Walk
theorem z69 (l:List Int) (k:Nat) (x:Int):(intRows l).set k [.i x]=intRows (l.set k x):=by simp [intRows,List.map_set]
def downF (r:Int) (burn:List Int):Nat→Int
 | 0=>-1
 | k + 1=>if getI burn k=r then downF r burn k else k
def planF (g:Grid):Nat→List Int→Int→Option (List Int × Int)
 | 0,_,_=>none
 | f + 1,burn,units =>
  if (hardF g burn).2=g.hours then some (burn,units) else
  if downF g.p.rate burn ((hardF g burn).2.toNat + 1)<0∨units=g.p.units then none else
  planF g f (burn.set (downF g.p.rate burn ((hardF g burn).2.toNat + 1)).toNat (getI burn (downF g.p.rate burn ((hardF g burn).2.toNat + 1)) + 1)) (units + 1)
def planG (g:Grid):Option (List Int × Int):=planF g (g.p.units.toNat + 1) (List.replicate g.hours.toNat 0) 0
def planV:Option (List Int × Int)→DV
 | some (b,u)=>.tup [.sl (intRows b),.i u,.bool true]
 | none=>.tup [.sl [],.i 0,.bool false]
def planP (p:Plant):List Int × Int × Int :=
 if openE p []=0 then (match planG (gridOf p) with
  | some (b,u)=>(b,u,0)
  | none=>([],0,3)) else ([],0,openE p [])
end Go.Ab
namespace Go.Ab
open Go.RowKit Go.Proofs
set_option maxHeartbeats 8000000
set_option maxRecDepth 20000
attribute [local irreducible] WalkL Walk
def seenF (F:List (List Hour)) (seen:List Sight):Int:=if badF F then 50 else if sightsB (hd0 F).length seen then 0 else 51
end Go.Ab
namespace Go.Ab
open Go.RowKit Go.Proofs
set_option maxHeartbeats 8000000
set_option maxRecDepth 20000
attribute [local irreducible] WalkL Walk
def plantE (p:Plant):Int:=if lookF p.scen p.seen 0 true=0 then (if plantBad p (hoursOf p) then 100 else 0) else lookF p.scen p.seen 0 true
end Go.Ab
namespace Go.Ab
open Go.RowKit Go.Proofs
set_option maxHeartbeats 8000000
set_option maxRecDepth 20000
attribute [local irreducible] WalkL Walk
def eqAll:List Hour→List Sky→Bool
 | [],[]=>true
 | h::l,s::m=>insideB s h && eqAll l m
 | _,_=>false
def weatherB (g:Grid) (m:List Sky):Bool:=g.scen.any fun l=>eqAll l m
def levsTo (p:Plant) (burn:List Int) (skies:List Sky) (k:Nat):List Int:=(List.range k).map fun j=>lvAt p burn skies (j + 1)
def lostTo (p:Plant) (burn:List Int) (skies:List Sky):Nat→Int
 | 0=>0
 | k + 1=>wr (lostTo p burn skies k + lostAt p burn skies k)
def levelsE (p:Plant) (burn:List Int) (m:List Sky):Int:=if openE p [burn]=0 then (if weatherB (gridOf p) m then 0 else 102) else openE p [burn]
def levelsP (p:Plant) (burn:List Int) (m:List Sky):List Int × Int × Int :=
 if levelsE p burn m=0 then (levsTo p burn m m.length,lostTo p burn m m.length,0) else ([],0,levelsE p burn m)
def lastsP (p:Plant) (burn:List Int):Int × Int:=if openE p [burn]=0 then ((hardF (gridOf p) burn).2,0) else (0,openE p [burn])
def worstP (p:Plant) (burn:List Int):List Sky × Int :=
 if openE p [burn]=0 then (if (hardF (gridOf p) burn).2=(gridOf p).hours then ([],3) else ((hardF (gridOf p) burn).1,0)) else ([],openE p [burn])
end Go.Ab
namespace Go.Ab
open Go.RowKit Go.Proofs
set_option maxHeartbeats 8000000
set_option maxRecDepth 40000
attribute [local irreducible] WalkL Walk
def exH (lo hi:Int):Hour:=⟨⟨lo,hi⟩,⟨0,0⟩,⟨0,10⟩⟩
def exF:List (List Hour):=[[exH 10 20,exH 10 20,exH 10 20,exH 10 20,exH 30 60,exH 30 60],[exH 15 45,exH 15 45,exH 10 20,exH 10 20,exH 10 20,exH 10 20]]
def exP:Plant:=⟨exF,[],[0,40,80,80,40,0],1,12,50,100,150,20,50,2,9,[60,60,60,60,90,90]⟩
end Go.Ab
namespace Go.Ab
open Go.RowKit Go.Proofs
set_option maxHeartbeats 8000000
set_option maxRecDepth 20000
attribute [local irreducible] WalkL Walk
def farL (F:List (List Hour)):Bool:=F.any fun l=>decide ((l.length:Int) > 50)
def far5 (F:List (List Hour)) (seen:List Sight):Bool :=
 (decide ((F.length:Int) > 8) || decide ((seen.length:Int) > 22)) || (farL F || (decide (foreF F=0) && (decide ((F.length:Int) > 4) || decide (((hd0 F).length:Int) > 12))))
def far10 (p:Plant):Bool :=
 (far5 p.scen p.seen || (decide ((p.sun.length:Int) > 100) || decide ((p.needs.length:Int) > 100))) ||
 (decide (plantE p=0) && (decide ((p.sun.length:Int) > 5) || (decide ((p.scen.length:Int) > 3) || decide (p.rate > 2))))
def validB (p:Plant):Bool:=!far10 p && decide (plantE p=0)
def isBurnB (p:Plant) (l:List Int):Bool:=(l.all fun n=>withinB n 0 p.rate) && (((l.length:Int) == p.sun.length) && decide (sumI l≤p.units))
end Go.Ab
namespace Go.Ab
open Go.RowKit Go.Proofs
set_option maxHeartbeats 8000000
set_option maxRecDepth 20000
attribute [local irreducible] WalkL Walk
def skyB (s t:Sky):Bool:=(s.wind == t.wind) && ((s.rain == t.rain) && (s.temp == t.temp))
def inAt (l:List Hour) (m:List Sky) (j:Nat):Bool:=insideB (skyAt m j) (hourAt l (j:Int))
def inTo (l:List Hour) (m:List Sky):Nat→Bool
 | 0=>true
 | k + 1=>inTo l m k && inAt l m k
def seenEq (seen:List Sight) (m:List Sky):Bool:=seen.all fun s=>skyB (skyAt m s.hour.toNat) s.sky
def scenAt (F:List (List Hour)) (k:Int):List Hour:=F.getD k.toNat []
def weB (F:List (List Hour)) (seen:List Sight) (m:List Sky):Bool :=
 ((m.length:Int) == (hd0 F).length) && (seenEq seen m && (numsOf (possL F seen)).any fun k=>inTo (scenAt F k) m m.length)
end Go.Ab
namespace Go.Ab
open Go.RowKit Go.Proofs
set_option maxHeartbeats 8000000
set_option maxRecDepth 20000
attribute [local irreducible] WalkL Walk
end Go.Ab
namespace Go.Ab
open Go.RowKit Go.Proofs
set_option maxHeartbeats 4000000
set_option maxRecDepth 20000
structure PlantGood (p:Plant):Prop where
 fore:ForeGood p.scen
 sights:sightsB (hd0 p.scen).length p.seen=true
 poss:possL p.scen p.seen≠[]
 sun:p.sun.length=(hd0 p.scen).length
 needs:p.needs.length=(hd0 p.scen).length
 sunIn:∀ x ∈ p.sun,0≤x∧x≤10000
 needsIn:∀ x ∈ p.needs,0≤x∧x≤20000
 gain:0≤p.gain∧p.gain≤100
 start:0≤p.start∧p.start≤p.stop∧p.stop≤200
 capacity:0≤p.capacity∧p.capacity≤100000
 charge:0≤p.charge∧p.charge≤p.capacity
 reserve:0≤p.reserve∧p.reserve≤p.capacity
 gas:0≤p.gas∧p.gas≤10000
 rate:0≤p.rate∧p.rate≤10
 units:0≤p.units∧p.units≤200
def SkyOk (s:Sky):Prop:=(0≤s.wind∧s.wind≤200)∧(0≤s.rain∧s.rain≤100)
def yieldI (p:Plant) (h:Int) (s:Sky):Int:=(getI p.sun h * (100 - s.rain)) / 100 + if withinB s.wind p.start p.stop then p.gain * s.wind else 0
theorem z163 {l:List Int} {a b:Int} (h:∀ x ∈ l,a≤x∧x≤b) (ha:a≤0∧0≤b) (i:Int):a≤getI l i∧getI l i≤b:=by
 unfold getI
 rw [List.getD_eq_getElem?_getD]
 cases hx:l[i.toNat]? with
 | none=>exact ha
 | some x=>exact h x (List.mem_of_getElem? hx)
end Go.Ab
namespace Go.Ab
open Go.RowKit Go.Proofs
set_option maxHeartbeats 4000000
set_option maxRecDepth 20000
def levI (c cap:Int) (net:Nat→Int):Nat→Int
 | 0=>c
 | k + 1=>min (levI c cap net k + net k) cap
def pre (b:Nat→Int):Nat→Int
 | 0=>0
 | k + 1=>pre b k + b k
def LastsAll (p:Plant) (burn:List Int):Prop:=∀ l ∈ (gridOf p).scen,∀ j<p.sun.length,p.reserve≤lvAt p burn (leastW p l) (j + 1)
def preB (b:List Int) (k:Nat):Int:=pre (fun j=>getI b j) k
structure Step (p:Plant) (b:List Int) (u:Int):Prop where
 len:b.length=p.sun.length
 rng:∀ x ∈ b,0≤x∧x≤p.rate
 sum:sumI b=u
 top:u≤p.units
 zero:∀ j:Nat,getI b (j:Int)≠0→(j:Int)≤(hardF (gridOf p) b).2
 late:∀ c,isBurnB p c=true→LastsAll p c→∀ j≤p.sun.length,preB b j≤preB c j
end Go.Ab
namespace Go.Ab
open Go.RowKit Go.Proofs
set_option maxHeartbeats 4000000
set_option maxRecDepth 20000
attribute [local irreducible] WalkL Walk
structure Limits where
 wind:Int
 rain:Int
 temp:Span
def Limits.row (l:Limits):List DV:=[.i l.wind,.i l.rain,.i l.temp.lo,.i l.temp.hi]
def limB (l:Limits):Bool:=withinB l.wind 0 200 && (withinB l.rain 0 100 && orderedB l.temp (-50) 50)
def limE (l:Limits):Int:=if limB l then 0 else 52
def keptB (s:Sky) (l:Limits):Bool:=decide (s.wind≤l.wind) && (decide (s.rain≤l.rain) && withinB s.temp l.temp.lo l.temp.hi)
def alwaysB (l:Limits) (h:Hour):Bool:=decide (h.wind.hi≤l.wind) && (decide (h.rain.hi≤l.rain) && (decide (l.temp.lo≤h.temp.lo) && decide (h.temp.hi≤l.temp.hi)))
def everB (l:Limits) (h:Hour):Bool:=decide (h.wind.lo≤l.wind) && (decide (h.rain.lo≤l.rain) && decide (max l.temp.lo h.temp.lo≤min l.temp.hi h.temp.hi))
def hullS (a b:Span):Span:=⟨min a.lo b.lo,max a.hi b.hi⟩
end Go.Ab
namespace Go.Ab
open Go.RowKit Go.Proofs
set_option maxHeartbeats 4000000
set_option maxRecDepth 20000
attribute [local irreducible] WalkL Walk
def hullH (a b:Hour):Hour:=⟨hullS a.wind b.wind,hullS a.rain b.rain,hullS a.temp b.temp⟩
def hullAll (S:List (List Hour)) (h:Int):Hour:=S.foldl (fun o l=>hullH o (hourAt l h)) (hourAt (hd0 S) h)
def rangeF (F:List (List Hour)) (seen:List Sight) (h:Int):Hour × Int :=
 if lookF F seen 0 (withinB h 0 ((hd0 F).length - 1))=0 then (hullAll (scensOf (possL F seen)) h,0) else (noHour,lookF F seen 0 (withinB h 0 ((hd0 F).length - 1)))
def atF (seen:List Sight) (l:List Hour) (h:Int):Hour:=match seen.find? (fun s=>s.hour == h) with
 | some s=>pointH s.sky
 | none=>hourAt l h
end Go.Ab
namespace Go.Ab
open Go.RowKit Go.Proofs
set_option maxHeartbeats 4000000
set_option maxRecDepth 20000
attribute [local irreducible] WalkL Walk
def boolRows (l:List Bool):List (List DV):=l.map fun x=>[.bool x]
theorem z572 (l:List Bool):(boolRows l).length=l.length:=by simp [boolRows]
theorem z456 (l:List Bool):headIs 1 (boolRows l)=true:=by cases l <;> rfl
def spanRows (l:List Span):List (List DV):=l.map Span.row
theorem z498 (l:List Span):(spanRows l).length=l.length:=by simp [spanRows]
theorem z427 (l:List Span):headIs 2 (spanRows l)=true:=by cases l <;> rfl
attribute [go_sem] z572 z456 z498 z427
def beginsFrom (n:Int):List Bool→Nat→Int→Int
 | [],_,_=>-1
 | b::l,i,run=>if (if b then run + 1 else 0)=n then (i:Int) + 1 - n else beginsFrom n l (i + 1) (if b then run + 1 else 0)
def beginsF (l:List Bool) (n:Int):Int:=beginsFrom n l 0 0
def addSpan (l:List Span) (i:Int):List Span:=match l.getLast? with
 | some s=>if s.hi == i - 1 then l.dropLast++[⟨s.lo,i⟩] else l++[⟨i,i⟩]
 | none=>[⟨i,i⟩]
def spansQ (q:Nat→Bool):Nat→List Span
 | 0=>[]
 | n + 1=>if q n then addSpan (spansQ q n) (n:Int) else spansQ q n
end Go.Ab
namespace Go.Ab
open Go.RowKit Go.Proofs
set_option maxHeartbeats 4000000
set_option maxRecDepth 20000
attribute [local irreducible] WalkL Walk
def outV (N:List Int) (S:List (List Hour)) (H:Nat):DV:=.ptr [.sl (intRows N),.sl (scenRows S),.i H] 0
def keepsF (F:List (List Hour)) (seen:List Sight) (l:Limits):List Span × List Span × Int :=
 if lookF F seen (limE l) true=0 then (spansQ (fun i=>(scensOf (possL F seen)).all fun s=>alwaysB l (hourAt s (i:Int))) (hd0 F).length,spansQ (fun i=>(scensOf (possL F seen)).any fun s=>everB l (hourAt s (i:Int))) (hd0 F).length,0) else ([],[],lookF F seen (limE l) true)
end Go.Ab
namespace Go.Ab
open Go.RowKit Go.Proofs
set_option maxHeartbeats 8000000
set_option maxRecDepth 20000
attribute [local irreducible] WalkL Walk
def winFirst (l:Limits) (n:Int) (S:List (List Hour)) (H:Int):Int:=S.foldl (fun f s=>if decide (beginsF (s.map (everB l)) n ≥ 0) then min f (beginsF (s.map (everB l)) n) else f) H
def winLast (l:Limits) (n:Int) (S:List (List Hour)):Int:=S.foldl (fun a s=>max a (beginsF (s.map (alwaysB l)) n)) (-1)
def winNever (l:Limits) (n:Int) (S:List (List Hour)):Bool:=S.any fun s=>decide (beginsF (s.map (alwaysB l)) n<0)
def windowF (F:List (List Hour)) (seen:List Sight) (l:Limits) (n:Int):Int × Int × Int :=
 if lookF F seen (limE l) (withinB n 1 48)=0 then
  (if winFirst l n (scensOf (possL F seen)) (hd0 F).length=(hd0 F).length then -1 else winFirst l n (scensOf (possL F seen)) (hd0 F).length,if winNever l n (scensOf (possL F seen)) then -1 else winLast l n (scensOf (possL F seen)),0)
 else (0,0,lookF F seen (limE l) (withinB n 1 48))
def gapAt (b:List Bool) (n:Int) (k:Nat):Int:=if decide (beginsF (b.drop k) n ≥ 0) then beginsF (b.drop k) n + n - 1 else (b.length:Int) - k
def gapTo (b:List Bool) (n:Int):Nat→Int→Int
 | 0,g=>g
 | k + 1,g=>max (gapTo b n k g) (gapAt b n k)
def gapS (l:Limits) (n:Int) (S:List (List Hour)):Int:=S.foldl (fun g s=>gapTo (s.map (alwaysB l)) n s.length g) 0
def gapF (F:List (List Hour)) (seen:List Sight) (l:Limits) (n:Int):Int × Int :=
 if lookF F seen (limE l) (withinB n 1 48)=0 then (gapS l n (scensOf (possL F seen)),0) else (0,lookF F seen (limE l) (withinB n 1 48))
end Go.Ab
namespace Go.Ab
open Go.RowKit Go.Proofs
set_option maxHeartbeats 8000000
set_option maxRecDepth 20000
attribute [local irreducible] WalkL Walk
def inSpans (l:List Span) (n:Int):Bool:=l.any fun s=>withinB n s.lo s.hi
end Go.Ab
namespace Go.Ab
open Go.RowKit Go.Proofs
set_option maxHeartbeats 8000000
set_option maxRecDepth 20000
attribute [local irreducible] WalkL Walk
end Go.Ab
namespace Go.Ab
open Go.RowKit Go.Proofs
set_option maxHeartbeats 4000000
set_option maxRecDepth 20000
structure RealX where
 seen:List Sight
 skies:List Sky
 lim:Limits
 len:Int
def RealX.cells (x:RealX):List DV:=[.sl (sightRows x.seen),.sl (skyRows x.skies),.i x.lim.wind,.i x.lim.rain,.i x.lim.temp.lo,.i x.lim.temp.hi,.i x.len]
structure EaseX where
 sight:Sight
 wind:Int
 rain:Int
 temp:Int
 less:Int
def EaseX.cells (y:EaseX):List DV:=[.i y.sight.hour,.i y.sight.sky.wind,.i y.sight.sky.rain,.i y.sight.sky.temp,.i y.wind,.i y.rain,.i y.temp,.i y.less]
theorem z302 {s:Sky} {h:Hour}:insideB s h=true↔(h.wind.lo≤s.wind∧s.wind≤h.wind.hi)∧(h.rain.lo≤s.rain∧s.rain≤h.rain.hi)∧(h.temp.lo≤s.temp∧s.temp≤h.temp.hi):=by
 simp [insideB,withinB]
theorem z700 {s:Sky} {l:Limits}:keptB s l=true↔s.wind≤l.wind∧s.rain≤l.rain∧l.temp.lo≤s.temp∧s.temp≤l.temp.hi:=by simp [keptB,withinB]
theorem z797 {l:Limits} {h:Hour}:alwaysB l h=true↔h.wind.hi≤l.wind∧h.rain.hi≤l.rain∧l.temp.lo≤h.temp.lo∧h.temp.hi≤l.temp.hi:=by simp [alwaysB]
theorem z947 {l:Limits} {h:Hour}:everB l h=true↔h.wind.lo≤l.wind∧h.rain.lo≤l.rain∧max l.temp.lo h.temp.lo≤min l.temp.hi h.temp.hi:=by simp [everB]
theorem z689 {x:Sky} {l:Limits} {h:Hour} (hi:insideB x h=true) (ha:alwaysB l h=true):keptB x l=true:=by
 rw [z302] at hi
 rw [z797] at ha
 rw [z700]
 omega
theorem z856 {x:Sky} {l:Limits} {h:Hour} (hi:insideB x h=true) (hk:keptB x l=true):everB l h=true:=by
 rw [z302] at hi
 rw [z700] at hk
 rw [z947]
 omega
def IsBegin (l:List Bool) (n h:Nat):Prop:=∀ k,h≤k→k<h + n→l[k]?=some true
theorem z192 {n:Nat} (hn:1≤n) (L:List Bool):∀ (b:List Bool) (i run:Nat),L.drop i=b→run<n→run≤i→(∀ k,i - run≤k→k<i→L[k]?=some true)→(run<i→L[i - run - 1]?=some false)→(∀ h,h + n≤i→¬ IsBegin L n h) →
  (beginsFrom (n:Int) b i run=-1∧∀ h,¬ IsBegin L n h)∨∃ r:Nat,beginsFrom (n:Int) b i run=r∧IsBegin L n r∧∀ h<r,¬ IsBegin L n h
 | [],i,run,hd,h1,h2,h3,h4,h5=>by
  refine .inl ⟨rfl,fun h hb=>?_⟩
  have hl:L.length≤i:=by
   have:=congrArg List.length hd
   simp at this
   omega
  have:=hb (h + n - 1) (by omega) (by omega)
  have:h + n - 1<L.length:=(List.getElem?_eq_some_iff.1 this).1
  exact h5 h (by omega) hb
 | x::b,i,run,hd,h1,h2,h3,h4,h5=>by
  have hx:L[i]?=some x:=by
   have:=congrArg (·[0]?) hd
   simpa using this
  have hd':L.drop (i + 1)=b:=by
   have:=congrArg List.tail hd
   simpa using this
  rw [beginsFrom]
  cases x
  ·simp only [Bool.false_eq_true,if_false]
   rw [if_neg (by omega)]
   refine z192 hn L b (i + 1) 0 hd' (by omega) (by omega) (fun k _ _=>by omega) (fun _=>by simpa using hx) ?_
   intro h hh hb
   by_cases hc:h + n≤i
   ·exact h5 h hc hb
   ·have:=hb i (by omega) (by omega)
    rw [hx] at this
    cases this
  ·simp only [if_true]
   by_cases he:(run:Int) + 1=n
   ·rw [if_pos he]
    refine .inr ⟨i - run,by omega,fun k hk1 hk2=>?_,fun h hh=>h5 h (by omega)⟩
    by_cases hk:k=i
    ·rw [hk];exact hx
    ·exact h3 k hk1 (by omega)
   ·rw [if_neg he]
    have:=z192 hn L b (i + 1) (run + 1) hd' (by omega) (by omega) (fun k hk1 hk2=>by
     by_cases hk:k=i
     ·rw [hk];exact hx
     ·exact h3 k (by omega) (by omega)) (fun hlt=>by
      have:=h4 (by omega)
      rw [show i + 1 - (run + 1) - 1=i - run - 1 by omega]
      exact this) ?_
    ·simpa using this
    ·intro h hh hb
     by_cases hc:h + n≤i
     ·exact h5 h hc hb
     ·by_cases hr:run<i
      ·have e:=hb (i - run - 1) (by omega) (by omega)
       rw [h4 hr] at e
       cases e
      ·omega
theorem z316 {n:Nat} (hn:1≤n) (l:List Bool):(beginsF l n=-1∧∀ h,¬ IsBegin l n h)∨∃ r:Nat,beginsF l n=r∧IsBegin l n r∧∀ h<r,¬ IsBegin l n h:=by
 have:=z192 hn l l 0 0 rfl (by omega) (by omega) (fun k _ h=>by omega) (fun h=>by omega) (fun h hh=>by omega)
 exact this
theorem z881 {n:Nat} (hn:1≤n) {l:List Bool} {h:Nat} (hb:IsBegin l n h):0≤beginsF l n∧beginsF l n≤h:=by
 rcases z316 hn l with ⟨_,h2⟩ | ⟨r,h1,h2,h3⟩
 ·exact absurd hb (h2 h)
 ·rw [h1]
  refine ⟨by omega,?_⟩
  by_cases hc:h<r
  ·exact absurd hb (h3 h hc)
  ·omega
theorem z575 {n:Nat} (hn:1≤n) {l:List Bool} (h:0≤beginsF l n):IsBegin l n (beginsF l n).toNat:=by
 rcases z316 hn l with ⟨h1,_⟩ | ⟨r,h1,h2,h3⟩
 ·omega
 ·rw [h1];simpa using h2
theorem z382 {n:Nat} (hn:1≤n) {l:List Bool} (h:0≤beginsF l n):beginsF l n + n≤l.length:=by
 have:=z575 hn h ((beginsF l n).toNat + n - 1) (by omega) (by omega)
 have:=(List.getElem?_eq_some_iff.1 this).1
 omega
def LeB (A B:List Bool):Prop:=∀ k:Nat,A[k]?=some true→B[k]?=some true
theorem LeB.drop {A B:List Bool} (h:LeB A B) (k:Nat):LeB (A.drop k) (B.drop k):=fun i hi=>by
 rw [List.getElem?_drop] at hi ⊢
 exact h _ hi
theorem z143 {n:Nat} (hn:1≤n) {A B:List Bool} (h:LeB A B) (hA:0≤beginsF A n):0≤beginsF B n∧beginsF B n≤beginsF A n:=by
 have:=z881 hn (l:=B) (h:=(beginsF A n).toNat) (fun k h1 h2=>h k (z575 hn hA k h1 h2))
 omega
theorem z789 {n:Nat} (hn:1≤n) {A B:List Bool} (h:LeB A B) (hl:A.length=B.length) {k:Nat} (hk:k≤A.length):gapAt B n k≤gapAt A n k:=by
 unfold gapAt
 by_cases hA:0≤beginsF (A.drop k) n
 ·have:=z143 hn (h.drop k) hA
  rw [if_pos (show decide (beginsF (A.drop k) n ≥ 0)=true by simpa using hA),if_pos (show decide (beginsF (B.drop k) n ≥ 0)=true by simpa using this.1)]
  omega
 ·rw [if_neg (show ¬ decide (beginsF (A.drop k) n ≥ 0)=true by simpa using hA)]
  by_cases hB:0≤beginsF (B.drop k) n
  ·have:=z382 hn hB
   rw [List.length_drop] at this
   rw [if_pos (show decide (beginsF (B.drop k) n ≥ 0)=true by simpa using hB)]
   omega
  ·rw [if_neg (show ¬ decide (beginsF (B.drop k) n ≥ 0)=true by simpa using hB)]
   omega
theorem z704 {b:List Bool} {n:Int} {G:Int}:∀ (k:Nat) (g:Int),gapTo b n k g≤G↔g≤G∧∀ j<k,gapAt b n j≤G
 | 0,g=>by simp [gapTo]
 | k + 1,g=>by
  rw [gapTo,Int.max_le,z704 k g]
  constructor
  ·rintro ⟨⟨h1,h2⟩,h3⟩
   refine ⟨h1,fun j hj=>?_⟩
   rcases Nat.lt_succ_iff_lt_or_eq.1 hj with h | rfl
   ·exact h2 j h
   ·exact h3
  ·rintro ⟨h1,h2⟩
   exact ⟨⟨h1,fun j hj=>h2 j (by omega)⟩,h2 k (by omega)⟩
theorem z555 {l:Limits} {n:Int} {G:Int}:∀ (S:List (List Hour)) (g:Int),S.foldl (fun g s=>gapTo (s.map (alwaysB l)) n s.length g) g≤G↔g≤G∧∀ s ∈ S,∀ j<s.length,gapAt (s.map (alwaysB l)) n j≤G
 | [],g=>by simp
 | s::S,g=>by
  rw [List.foldl_cons,z555 S,z704]
  simp only [List.mem_cons,forall_eq_or_imp,and_assoc]
theorem z986 {l:Limits} {n:Int} {G:Int} {S:List (List Hour)}:gapS l n S≤G↔0≤G∧∀ s ∈ S,∀ j<s.length,gapAt (s.map (alwaysB l)) n j≤G:=z555 S 0
theorem z178 {l:Limits} {n G:Int}:∀ (S:List (List Hour)) (H:Int),G≤winFirst l n S H↔G≤H∧∀ s ∈ S,0≤beginsF (s.map (everB l)) n→G≤beginsF (s.map (everB l)) n
 | [],H=>by simp [winFirst]
 | s::S,H=>by
  have ih:=z178 (l:=l) (n:=n) (G:=G) S
  unfold winFirst at ih ⊢
  rw [List.foldl_cons,ih]
  simp only [List.mem_cons,forall_eq_or_imp]
  by_cases h:0≤beginsF (s.map (everB l)) n
  ·rw [if_pos (by simpa using h),Int.le_min]
   constructor
   ·rintro ⟨⟨h1,h2⟩,h3⟩;exact ⟨h1,fun _=>h2,h3⟩
   ·rintro ⟨h1,h2,h3⟩;exact ⟨⟨h1,h2 h⟩,h3⟩
  ·rw [if_neg (by simpa using h)]
   constructor
   ·rintro ⟨h1,h3⟩;exact ⟨h1,fun hc=>absurd hc h,h3⟩
   ·rintro ⟨h1,_,h3⟩;exact ⟨h1,h3⟩
theorem z245 {l:Limits} {n G:Int}:∀ (S:List (List Hour)) (a:Int),S.foldl (fun a s=>max a (beginsF (s.map (alwaysB l)) n)) a≤G↔a≤G∧∀ s ∈ S,beginsF (s.map (alwaysB l)) n≤G
 | [],a=>by simp
 | s::S,a=>by
  rw [List.foldl_cons,z245 S,Int.max_le]
  simp only [List.mem_cons,forall_eq_or_imp,and_assoc]
theorem z716 {l:Limits} {n G:Int} {S:List (List Hour)}:winLast l n S≤G↔-1≤G∧∀ s ∈ S,beginsF (s.map (alwaysB l)) n≤G:=z245 S _
def keptL (m:List Sky) (l:Limits):List Bool:=m.map fun x=>keptB x l
theorem z698 {s:List Hour} {q:Hour→Bool} {k:Nat} (hk:k<s.length):(s.map q)[k]?=some (q (hourAt s (k:Int))):=by
 rw [List.getElem?_map]
 have:=z785 (l:=s) (i:=(k:Int)) ⟨by omega,by omega⟩
 rw [Int.toNat_natCast] at this
 rw [this]
 rfl
theorem z701 {m:List Sky} {l:Limits} {k:Nat} (hk:k<m.length):(keptL m l)[k]?=some (keptB (skyAt m k) l):=by
 rw [keptL,List.getElem?_map,z825 hk]
 rfl
theorem z537 {m:List Sky} {l:Limits} {s:List Hour} (hl:s.length=m.length) (hin:∀ j<m.length,insideB (skyAt m j) (hourAt s (j:Int))=true) :
  LeB (s.map (alwaysB l)) (keptL m l)∧LeB (keptL m l) (s.map (everB l)):=by
 constructor
 ·intro k hk
  have hlt:k<s.length:=by have:=(List.getElem?_eq_some_iff.1 hk).1;simpa using this
  rw [z698 hlt] at hk
  rw [z701 (by omega)]
  rw [z689 (hin k (by omega)) (by simpa using hk)]
 ·intro k hk
  have hlt:k<m.length:=by have:=(List.getElem?_eq_some_iff.1 hk).1;simpa [keptL] using this
  rw [z701 hlt] at hk
  rw [z698 (by omega),z856 (hin k hlt) (by simpa using hk)]
theorem z1107 {S:List (List Hour)} {m:List Sky} {l:Limits} {n:Nat} (hn:1≤n) {s:List Hour} (hs:s ∈ S) (hl:s.length=m.length) (hin:∀ j<m.length,insideB (skyAt m j) (hourAt s (j:Int))=true) :
  (0≤beginsF (keptL m l) n→0≤winFirst l n S m.length∧winFirst l n S m.length≤beginsF (keptL m l) n∧winFirst l n S m.length<m.length) ∧
  (winNever l n S=false→0≤beginsF (keptL m l) n∧beginsF (keptL m l) n≤winLast l n S∧winFirst l n S m.length≤winLast l n S) ∧
  ∀ k<m.length,gapAt (keptL m l) n k≤gapS l n S:=by
 obtain ⟨hA,hE⟩:=z537 (l:=l) hl hin
 have hf:=(z178 S _).1 (Int.le_refl (winFirst l (n:Int) S m.length))
 have hla:=z716.1 (Int.le_refl (winLast l (n:Int) S))
 have hga:=z986.1 (Int.le_refl (gapS l (n:Int) S))
 refine ⟨fun hb=>?_,fun hnv=>?_,fun k hk=>?_⟩
 ·have h1:=z143 hn hE hb
  have h2:=hf.2 s hs h1.1
  have h3:=z382 hn hb
  have h4:(keptL m l).length=m.length:=by simp [keptL]
  refine ⟨(z178 S _).2 ⟨by omega,fun _ _ h=>h⟩,by omega,by omega⟩
 ·have hs0:0≤beginsF (s.map (alwaysB l)) n:=by
   unfold winNever at hnv
   have:=List.any_eq_false.1 hnv s hs
   simpa using this
  have h1:=z143 hn hA hs0
  have h2:=hla.2 s hs
  have h3:=z143 hn hE h1.1
  have h4:=hf.2 s hs h3.1
  exact ⟨h1.1,by omega,by omega⟩
 ·have h1:=hga.2 s hs k (by omega)
  have h2:=z789 hn hA (by simp [keptL,hl]) (k:=k) (by rw [List.length_map];omega)
  omega
end Go.Ab
namespace Go.Ab
open Go.RowKit Go.Proofs
set_option maxHeartbeats 4000000
set_option maxRecDepth 20000
def widerL (l:Limits) (wind rain temp:Int):Limits:=⟨min 200 (l.wind + wind),min 100 (l.rain + rain),⟨max (-50) (l.temp.lo - temp),min 50 (l.temp.hi + temp)⟩⟩
def withinS (A B:List Span) (H:Nat):Bool:=(List.range H).all fun h=>!(inSpans A (h:Int)) || inSpans B (h:Int)
end Go.Ab
namespace Go.Ab
open Go.RowKit Go.Proofs
set_option maxHeartbeats 4000000
set_option maxRecDepth 20000
attribute [local irreducible] WalkL Walk
structure Carrier where
 lift:Int
 heat:Int
 cost:Int
 lim:Limits
def Carrier.row (c:Carrier):List DV:=[.i c.lift,.i c.heat,.i c.cost,.i c.lim.wind,.i c.lim.rain,.i c.lim.temp.lo,.i c.lim.temp.hi]
def carrRows (l:List Carrier):List (List DV):=l.map Carrier.row
structure Supply where
 scen:List (List Hour)
 seen:List Sight
 stock:Int
 reserve:Int
 room:Int
 use:Span
 carr:List Carrier
def Supply.cells (s:Supply):List DV:=[.sl (scenRows s.scen),.sl (sightRows s.seen),.i s.stock,.i s.reserve,.i s.room,.i s.use.lo,.i s.use.hi,.sl (carrRows s.carr)]
structure SuppSmall (s:Supply):Prop where
 fore:ForeSmall s.scen
 seen:s.seen.length<2 ^ 30
 carr:s.carr.length<2 ^ 30
def carrBad (c:Carrier):Bool:=!withinB c.lift 0 1000 || (!withinB c.heat 0 50 || (!withinB c.cost 0 10000 || !limB c.lim))
def storeBad (s:Supply):Bool:=!withinB s.room 0 5000 || (!withinB s.stock 0 s.room || (!withinB s.reserve 0 s.room || !orderedB s.use 0 500))
def carrsBad (s:Supply):Bool:=decide ((s.carr.length:Int) > 4) || s.carr.any carrBad
def suppE (s:Supply):Int:=if lookF s.scen s.seen 0 true=0 then (if storeBad s then 60 else if carrsBad s then 61 else 0) else lookF s.scen s.seen 0 true
end Go.Ab
namespace Go.Ab
open Go.RowKit
inductive Sh where
 | int (k:IntKind)
 | bool
 | sl (row:List Sh)
mutual
def Sh.fits (N:Nat):Sh→DV→Prop
 | .int k,d=>∃ n,d=.int k n∧(Lit.int k n).wf=true
 | .bool,d=>∃ b,d=.bool b
 | .sl r,d=>∃ rows,d=.sl rows∧rows.length≤N∧∀ row ∈ rows,Sh.fitsL N r row
def Sh.fitsL (N:Nat):List Sh→List DV→Prop
 | [],ds=>ds=[]
 | s::ss,ds=>∃ d r,ds=d::r∧Sh.fits N s d∧Sh.fitsL N ss r
end
theorem Sh.fitsL_len {N:Nat}:∀ {ss:List Sh} {ds:List DV},Sh.fitsL N ss ds→ds.length=ss.length
 | [],_,h=>by simp only [Sh.fitsL] at h;subst h;rfl
 | s::ss,ds,h=>by
  simp only [Sh.fitsL] at h
  obtain ⟨d,r,rfl,_,h⟩:=h
  simp [Sh.fitsL_len h]
theorem Sh.fitsL_append {N:Nat}:∀ {ss ts:List Sh} {ds es:List DV},Sh.fitsL N ss ds→Sh.fitsL N ts es→Sh.fitsL N (ss++ts) (ds++es)
 | [],_,_,_,h,k=>by simp only [Sh.fitsL] at h;subst h;simpa using k
 | s::ss,ts,ds,es,h,k=>by
  simp only [Sh.fitsL] at h
  obtain ⟨d,r,rfl,hd,h⟩:=h
  simp only [List.cons_append,Sh.fitsL]
  exact ⟨d,r++es,rfl,hd,Sh.fitsL_append h k⟩
def shapesF (P:Program) (g:TypeId→Option (List Sh)):List Field→Nat→Option (List Sh)
 | [],_=>some []
 | f::fs,o=>if f.offset=o then (g f.type).bind fun r=>if P.cellsOf f.type=r.length then (shapesF P g fs (o + r.length)).map fun s=>r++s else none else none
def shapes (P:Program):Nat→TypeId→Option (List Sh)
 | 0,_=>none
 | n + 1,t=>match P.underlying t with
  | some .bool=>some [.bool]
  | some (.int k)=>some [.int k]
  | some (.slice e)=>(shapes P n e).bind fun r=>if P.cellsOf e=r.length∧0<r.length then some [.sl r] else none
  | some (.struct fs)=>(shapesF P (shapes P n) fs.toList 0).bind fun r=>if P.cellsOf t=r.length then some r else none
  | _=>none
structure BulkOk {H:Type} (b:DataW H→Nat):Prop where
 slice:∀ elems spare,elems.length≤b (.slice elems spare)
 elem:∀ elems spare,∀ d ∈ elems,b d≤b (.slice elems spare)
 part:∀ parts,∀ d ∈ parts,b d≤b (.agg parts)
def Reads (w:World) (ds:List DV) (cs:List Value):Prop :=
 ∀ (i:Nat) d v,ds[i]?=some d→cs[i]?=some v→v.oneCell'=true∧DRel w (fun _=>False) d v
section
variable {H:Type} {enc:TypeId × Value→H} {P:Program} {w:World} {sp:Nat→Bool} {held:Bool}
theorem z1008 {b:DataW H→Nat} {N:Nat} {g:TypeId→Option (List Sh)} {m:Nat} {cs:List Value}
  (hg:∀ (t:TypeId) sh,g t=some sh→∀ cs d ps,DataW.trod enc P w 0 sp held m t cs=some (d,ps)→b d≤N→cs.length=sh.length∧∃ ds,Sh.fitsL N sh ds∧Reads w ds cs) :
  ∀ (fs:List Field) (xs:List (DataW H × List MemPlace)) (o:Nat) (sh:List Sh),shapesF P g fs o=some sh→xs.length=fs.length →
   (∀ (i:Nat) (f:Field),fs[i]?=some f→DataW.trod enc P w 0 sp held m f.type ((cs.drop f.offset).take (P.cellsOf f.type))=xs[i]?)→(∀ x ∈ xs,b x.1≤N) →
   ∃ ds,Sh.fitsL N sh ds∧Reads w ds (cs.drop o)
 | [],xs,o,sh,h,hl,_,_=>by
  simp only [shapesF,Option.some.injEq] at h
  subst h
  exact ⟨[],by simp [Sh.fitsL],fun i d v h=>by simp at h⟩
 | f::fs,xs,o,sh,h,hl,hx,hb=>by
  simp only [shapesF] at h
  split at h
  case isFalse=>cases h
  case isTrue ho =>
  obtain ⟨r,hr,h⟩:=Option.bind_eq_some_iff.1 h
  split at h
  case isFalse=>cases h
  case isTrue hc =>
  obtain ⟨s,hs,rfl⟩:=Option.map_eq_some_iff.1 h
  cases xs with
  | nil=>simp at hl
  | cons x xs =>
   have h0:=hx 0 f rfl
   rw [List.getElem?_cons_zero] at h0
   obtain ⟨hlen,ds,hf,hd⟩:=hg _ _ hr _ x.1 x.2 h0 (hb x (by simp))
   obtain ⟨es,he,hd'⟩:=z1008 hg fs xs (o + r.length) s hs (by simpa using hl) (fun i f' hf'=>by simpa using hx (i + 1) f' (by simpa using hf')) (fun y hy=>hb y (by simp [hy]))
   have hdl:=Sh.fitsL_len hf
   refine ⟨ds++es,Sh.fitsL_append hf he,fun i d v h1 h2=>?_⟩
   rw [List.getElem?_drop] at h2
   rcases Nat.lt_or_ge i ds.length with hi | hi
   ·rw [List.getElem?_append_left hi] at h1
    refine hd i d v h1 ?_
    rw [List.getElem?_take,List.getElem?_drop,ho,if_pos (by omega),h2]
   ·rw [List.getElem?_append_right hi] at h1
    refine hd' (i - ds.length) d v h1 ?_
    rw [List.getElem?_drop]
    rw [show o + r.length + (i - ds.length)=o + i from by omega,h2]
theorem z875 {w:World} {a:Addr} {n:Nat} {cs:List Value} (h:w.cells? 0 a n=some cs):cs.length=n∧∀ j,j<n→w.cell? (a.add j)=cs[j]?:=by
 simp only [World.cells?,Nat.zero_le,if_true] at h
 exact ⟨by simpa using mapM_some_length h,fun j hj=>mapM_some_get h j j (by simp [hj])⟩
theorem z876 {w:World} {a:Addr} {v:Value} (h:w.cell? a=some v):a.spot=none:=by
 unfold World.cell? at h
 split at h
 ·split at h
  ·cases h
  ·cases hs:a.spot <;> simp_all
 ·cases h
theorem z195 {b:DataW H→Nat} (hb:BulkOk b) (N:Nat):∀ (n:Nat) (t:TypeId) (sh:List Sh),shapes P n t=some sh→∀ fuel cs d ps,DataW.trod enc P w 0 sp held fuel t cs=some (d,ps)→b d≤N →
  cs.length=sh.length∧∃ ds,Sh.fitsL N sh ds∧Reads w ds cs
 | 0,_,_,h=>by simp [shapes] at h
 | n + 1,t,sh,h=>by
  intro fuel cs d ps hd hN
  unfold shapes at h
  split at h
  case h_1 ht =>
   cases h
   obtain ⟨v,rfl,_⟩:=DataW.trod_bool ht hd
   refine ⟨rfl,[.bool v],?_,?_⟩
   ·simp [Sh.fitsL,Sh.fits]
   ·intro i d' v' h1 h2
    cases i with
    | zero=>simp only [List.getElem?_cons_zero,Option.some.injEq] at h1 h2;subst h1;subst h2;exact ⟨rfl,.bool _⟩
    | succ i=>simp at h1
  case h_2 k ht =>
   cases h
   obtain ⟨v,rfl,_,hw⟩:=DataW.trod_int ht hd
   refine ⟨rfl,[.int k v],?_,?_⟩
   ·simpa [Sh.fitsL,Sh.fits] using hw
   ·intro i d' v' h1 h2
    cases i with
    | zero=>simp only [List.getElem?_cons_zero,Option.some.injEq] at h1 h2;subst h1;subst h2;exact ⟨rfl,.int _ _⟩
    | succ i=>simp at h1
  case h_3 e ht =>
   obtain ⟨r,hr,h⟩:=Option.bind_eq_some_iff.1 h
   split at h
   case isFalse=>cases h
   case isTrue hc =>
   obtain ⟨hc,hp⟩:=hc
   cases h
   rcases DataW.trod_slice ht hd with ⟨rfl,_⟩ | ⟨a,len,cap,elems,rest,m,rfl,rfl,hx,_,hcap,_,hl,hel,_⟩
   ·refine ⟨rfl,[.sl []],?_,?_⟩
    ·simp [Sh.fitsL,Sh.fits]
    ·intro i d' v' h1 h2
     cases i with
     | zero=>simp only [List.getElem?_cons_zero,Option.some.injEq] at h1 h2;subst h1;subst h2;exact ⟨rfl,.slNil⟩
     | succ i=>simp at h1
   ·obtain rfl:d=.slice (elems.map (·.1)) (rest.map (·.1)):=congrArg Prod.fst hx
    have hrow:∀ i:Nat,∃ ds:List DV,i<len→Sh.fitsL N r ds∧∀ j d,ds[j]?=some d→∃ v,w.cell? (a.add (i * r.length) |>.add j)=some v∧v.oneCell'=true∧DRel w (fun _=>False) d v:=by
     intro i
     by_cases hi:i<len
     ·have h1:=hel i hi
      rw [List.getElem?_eq_getElem (by omega)] at h1
      obtain ⟨cs',hcs,htr⟩:=Option.bind_eq_some_iff.1 h1
      have hin:(elems[i]'(by omega)).1 ∈ elems.map (·.1):=List.mem_map.2 ⟨_,List.getElem_mem _,rfl⟩
      obtain ⟨hlen,ds,hf,hds⟩:=z195 hb N n e r hr m cs' (elems[i]'(by omega)).1 (elems[i]'(by omega)).2 htr (Nat.le_trans (hb.elem _ _ _ hin) hN)
      refine ⟨ds,fun _=>⟨hf,fun j d hj=>?_⟩⟩
      have hjl:j<ds.length:=by
       rcases Nat.lt_or_ge j ds.length with h | h
       ·exact h
       ·rw [List.getElem?_eq_none h] at hj;cases hj
      rw [Sh.fitsL_len hf] at hjl
      have hcell:=(z875 hcs).2 j (by omega)
      rw [hc] at hcell
      have hv:cs'[j]?=some (cs'[j]'(by omega)):=List.getElem?_eq_getElem _
      rw [hv] at hcell
      exact ⟨_,hcell,hds j d _ hj hv⟩
     ·exact ⟨[],fun h=>absurd h hi⟩
    have hcho:=Classical.axiomOfChoice hrow
    obtain ⟨F,hF⟩:=hcho
    have hrl:((List.range len).map F).length=len:=by simp
    refine ⟨rfl,[.sl ((List.range len).map F)],?_,?_⟩
    ·simp only [Sh.fitsL,Sh.fits]
     refine ⟨_,_,rfl,⟨_,rfl,?_,?_⟩,rfl⟩
     ·rw [hrl]
      have:=hb.slice (elems.map (·.1)) (rest.map (·.1))
      simp only [List.length_map] at this
      omega
     ·intro row hrow
      obtain ⟨i,hi,rfl⟩:=List.mem_map.1 hrow
      exact (hF i (by simpa using hi)).1
    ·intro i d' v' h1 h2
     cases i with
     | succ i=>simp at h1
     | zero =>
      simp only [List.getElem?_cons_zero,Option.some.injEq] at h1 h2
      subst h1;subst h2
      refine ⟨rfl,?_⟩
      cases hlen:len with
      | zero=>exact .slEmpty _ _
      | succ l =>
       have hspot:a.spot=none:=by
        have h0:=hF 0 (by omega)
        have hfl:=Sh.fitsL_len h0.1
        obtain ⟨v,hv,_⟩:=h0.2 0 ((F 0)[0]'(by omega)) (List.getElem?_eq_getElem _)
        simp only [Nat.zero_mul,Addr.add,if_true] at hv
        exact z876 hv
       obtain ⟨blk,off,spot⟩:=a
       simp only at hspot
       subst hspot
       have hadd:∀ i j,(Addr.add (Addr.add ⟨blk,off,none⟩ (i * r.length)) j)=⟨blk,off + i * r.length + j,none⟩:=by
        intro i j
        unfold Addr.add
        by_cases h1:i * r.length=0 <;> by_cases h2:j=0 <;> simp [h1,h2]
       have z47:∀ (i:Nat) (r':List DV) (j:Nat) (d:DV),((List.range len).map F)[i]?=some r'→r'[j]?=some d→∃ v,w.cell? ⟨blk,off + i * r.length + j,none⟩=some v∧v.oneCell'=true∧DRel w (fun _=>False) d v:=by
        intro i r' j d h1 h2
        rw [List.getElem?_map] at h1
        obtain ⟨i',hi',rfl⟩:=Option.map_eq_some_iff.1 h1
        obtain ⟨hil,rfl⟩:=List.getElem?_eq_some_iff.1 hi'
        simp only [List.length_range] at hil
        simp only [List.getElem_range] at h2
        obtain ⟨v,hv,h3,h4⟩:=(hF i hil).2 j d h2
        rw [hadd] at hv
        exact ⟨v,hv,h3,h4⟩
       have hfin:=DRel.sl (w:=w) (own:=fun _=>False) ((List.range len).map F) blk off r.length cap (fun i j=>(w.cell? ⟨blk,off + i * r.length + j,none⟩).getD .nilFunc) (by rw [hrl];exact hcap)
        (by
         intro row hrow
         obtain ⟨i,hi,rfl⟩:=List.mem_map.1 hrow
         exact Sh.fitsL_len (hF i (by simpa using hi)).1)
        (by
         intro i r' j d h1 h2
         obtain ⟨v,hv,h3,_⟩:=z47 i r' j d h1 h2
         rw [hv]
         exact ⟨fun h=>h,rfl,h3⟩)
        (by
         intro i r' j d h1 h2
         obtain ⟨v,hv,_,h4⟩:=z47 i r' j d h1 h2
         simp only [hv,Option.getD_some]
         exact h4)
       rw [hrl] at hfin
       rw [hlen] at hfin
       exact hfin
  case h_4 fs ht =>
   obtain ⟨r,hr,h⟩:=Option.bind_eq_some_iff.1 h
   split at h
   case isFalse=>cases h
   case isTrue hc =>
   cases h
   obtain ⟨xs,m,rfl,hx,hl,hxl,hi⟩:=DataW.trod_struct ht hd
   obtain rfl:d=.agg (xs.map (·.1)):=congrArg Prod.fst hx
   obtain ⟨ds,hf,hds⟩:=z1008 (fun t sh h cs d ps hd hN=>z195 hb N n t sh h m cs d ps hd hN) fs.toList xs 0 sh hr (by simpa using hxl) (fun i f hf=>hi i f (by simpa using hf))
    (fun x hx=>Nat.le_trans (hb.part _ _ (List.mem_map.2 ⟨x,hx,rfl⟩)) hN)
   exact ⟨by omega,ds,hf,by simpa using hds⟩
  case h_5=>cases h
end
end Go.Ab
/- The z1060 from a walked contract to a statement's contract,for arguments of any number and of the types that the statements take;where what is read is of bulk at most the bound. -/
namespace Go.Ab
open Go.RowKit Go.Proofs Go.ChangeShapes Go.WideShapes Go.Proofs.Ytgjnckiifffneaa
set_option linter.unusedVariables false
set_option maxRecDepth 100000
section
variable {H:Type} {enc:TypeId × Value→H} {P:Program}
theorem z434 {f:Func} {s:ChangeSpec} {apart fresh handsOn again:Bool} {W W':World} {args:Array Value} {v:Value} {ds gs:List (DataW H)} {before pa pv:List MemPlace}
  (hW:DataW.Whole enc P f.params.toList s.vars apart W args.toList ds gs before)
  (hres:∀ (b:Nat) (sp:Nat→Bool) (hd:Bool),DataW.TrodAll enc P W' b sp hd f.resultTypes.toList (v.resultList f.resultTypes.size) (s.fn H (ds++gs)).results [])
  (hargs:∀ sp:Nat→Bool,(∀ p ∈ before,sp p.block=true)→DataW.TrodAll enc P W' 0 sp true f.params.toList args.toList (s.fn H (ds++gs)).args pa)
  (hvars:∀ sp:Nat→Bool,(∀ p ∈ before,sp p.block=true)→DataW.TrodVars enc P W' sp s.vars (s.fn H (ds++gs)).vars pv)
  (hps:before=pa++pv) (hb:Below W.heap.size W W')
  (hok:∀ (j:Nat) (t:TypeId) (r:Value),f.resultTypes[j]?=some t→(v.resultList f.resultTypes.size)[j]?=some r→Value.okWide P W' .any 0 t r) :
  s.post enc P f apart fresh handsOn again W args v W':=by
 have hlt:=hW.lt
 have hold:∀ p ∈ before,(fun b=>decide (b<W.heap.size)) p.block=true:=fun p hp=>by simpa using hlt p hp
 refine ⟨ds,gs,before,[],pa,pv,hW,hres _ _ _,hargs _ hold,hvars _ hold,World.keptBut_mono (fun p hp=>⟨hp,?_⟩) (hb.frame (· ∈ before)),fun _=>?_⟩
 ·rw [hps,List.mem_append] at hp
  exact Or.inr hp
 ·obtain ⟨_,_,_,_,_,hz,hn⟩:=hW
  refine ⟨hok,_,_,([]++pa)++pv,⟨[]++pa,pv,trodAll_append (hargs _ (fun _ _=>rfl)) (hres _ _ _),hvars _ (fun _ _=>rfl),rfl,?_,?_⟩,?_⟩
  ·intro b off hp
   have hp':MemPlace.cell b off ∈ before:=by rw [hps];simpa using hp
   rw [hb.frozen (p:=⟨b,off,none⟩) (hlt _ hp')]
   exact hz b off hp'
  ·intro ha
   have:=hn ha
   rw [hps] at this
   simpa using this
  ·intro p hp _
   rw [hps]
   simpa using hp
end
theorem z181 {α:Type} {row:α→List DV} {Q:α→Prop}:∀ {rows:List (List DV)},(∀ r ∈ rows,∃ a,r=row a∧Q a)→∃ l:List α,rows=l.map row∧∀ a ∈ l,Q a
 | [],_=>⟨[],rfl,fun _ h=>by cases h⟩
 | r::rs,h=>by
  obtain ⟨a,rfl,ha⟩:=h r (by simp)
  obtain ⟨l,rfl,hl⟩:=z181 (rows:=rs) (fun r hr=>h r (by simp [hr]))
  exact ⟨a::l,rfl,fun b hb=>by rcases List.mem_cons.1 hb with rfl | hb;exact ha;exact hl b hb⟩
def iS:Sh:=.int .i64
def hourS:List Sh:=[iS,iS,iS,iS,iS,iS]
def skyS:List Sh:=[iS,iS,iS]
def sightS:List Sh:=[iS,iS,iS,iS]
theorem z959 {N:Nat} {r:List DV} (h:Sh.fitsL N [iS] r):∃ s:Int,r=[.i s]∧True:=by
 simp only [iS,Sh.fitsL,Sh.fits] at h
 obtain ⟨_,_,rfl,⟨a,rfl,_⟩,rfl⟩:=h
 exact ⟨a,rfl,trivial⟩
theorem z443 {N:Nat} {d:DV} (h:Sh.fits N (.sl [iS]) d):∃ l:List Int,d=.sl (intRows l)∧l.length≤N:=by
 simp only [Sh.fits] at h
 obtain ⟨rows,rfl,hl,hr⟩:=h
 obtain ⟨l,rfl,_⟩:=z181 (fun r h=>z959 (hr r h))
 exact ⟨l,rfl,by simpa using hl⟩
theorem z1016:shapes Try.prog 20 22=some [.sl [iS]]:=by kernel_rfl
theorem z455 {H:Type}:∀ {l:List (DataW H)} {d:DataW H},d ∈ l→Rows.uptoBulk d≤Rows.uptoBulkAll l
 | x::r,d,h=>by
  simp only [Rows.uptoBulkAll]
  rcases List.mem_cons.1 h with rfl | h
  ·omega
  ·have:=z455 h
   omega
theorem z951 {H:Type} (d:DataW H):1≤Rows.uptoBulk d:=by
 cases d with
 | lit l=>cases l <;> simp [Rows.uptoBulk]
 | _=>simp [Rows.uptoBulk]
theorem z710 {H:Type}:∀ (l:List (DataW H)),l.length≤Rows.uptoBulkAll l
 | []=>by simp
 | x::r=>by
  have h1:=z951 x
  have h2:=z710 r
  simp only [Rows.uptoBulkAll,List.length_cons]
  omega
theorem z961 {H:Type}:BulkOk (Rows.uptoBulk (H:=H)) where
 slice:=fun elems spare=>by
  have:=z710 elems
  simp only [Rows.uptoBulk]
  omega
 elem:=fun elems spare d hd=>by
  have:=z455 hd
  simp only [Rows.uptoBulk]
  omega
 part:=fun parts d hd=>by
  have:=z455 hd
  simp only [Rows.uptoBulk]
  omega
structure Rd (t:TypeId) (C:DV→Prop):Prop where
 rec':Try.prog.readableRec t=true
 lt:t<Try.prog.types.size
 read:∀ (H:Type) (enc:TypeId × Value→H) (w:World) (base:Nat) (v:Value) (d:DataW H) (ps:List MemPlace),Value.okWide Try.prog w .any base t v→DataW.Trod enc Try.prog w 0 (fun _=>true) true t v d ps→Rows.uptoBulk d≤1048576→∃ x,C x∧DRel w (fun _=>False) x v
theorem z714 {H:Type} {enc:TypeId × Value→H} {w:World} {t:TypeId} {sh:List Sh} (hs:shapes Try.prog 20 t=some sh) (h2:2≤sh.length) {v:Value} {d:DataW H} {ps:List MemPlace}
  (h:DataW.Trod enc Try.prog w 0 (fun _=>true) true t v d ps) (hd:Rows.uptoBulk d≤1048576) :
  ∃ ds,Sh.fitsL 1048576 sh ds∧DRel w (fun _=>False) (.agg ds) v:=by
 obtain ⟨fuel,h⟩:=h
 obtain ⟨hl,ds,hf,hr⟩:=z195 z961 1048576 20 t sh hs fuel _ _ _ h hd
 have hdl:=Sh.fitsL_len hf
 refine ⟨ds,hf,?_⟩
 cases v with
 | agg cs =>
  simp only [Value.cells] at hl hr
  exact .agg _ _ (by simpa [hdl] using hl.symm) fun i d v h1 h2=>(hr i d v h1 (by simpa using h2)).2
 | _=>simp [Value.cells] at hl;omega
theorem z915 {H:Type} {enc:TypeId × Value→H} {w:World} {t:TypeId} {s:Sh} (hs:shapes Try.prog 20 t=some [s]) {v:Value} {d:DataW H} {ps:List MemPlace}
  (hv:v.cells.toList=[v]) (h:DataW.Trod enc Try.prog w 0 (fun _=>true) true t v d ps) (hd:Rows.uptoBulk d≤1048576) :
  ∃ x,Sh.fits 1048576 s x∧DRel w (fun _=>False) x v:=by
 obtain ⟨fuel,h⟩:=h
 obtain ⟨hl,ds,hf,hr⟩:=z195 z961 1048576 20 t _ hs fuel _ _ _ h hd
 simp only [Sh.fitsL] at hf
 obtain ⟨x,_,rfl,hx,rfl⟩:=hf
 exact ⟨x,hx,(hr 0 x v rfl (by rw [hv];rfl)).2⟩
theorem z1009:Rd 22 (fun x=>∃ l:List Int,x=.sl (intRows l)∧l.length<2 ^ 30) :=
 ⟨by kernel_rfl,of_decide_eq_true (by kernel_rfl),fun H enc w base v d ps hok h hd=>by
  obtain ⟨a,len,cap,rfl⟩:=okWide_slice Try.underlying22 hok
  obtain ⟨x,hx,hr⟩:=z915 z1016 rfl h hd
  obtain ⟨l,rfl,hl⟩:=z443 hx
  exact ⟨_,⟨l,rfl,by omega⟩,hr⟩⟩
def AllC:List (TypeId × (DV→Prop))→List DV→Prop
 | [],[]=>True
 | c::cs,x::xs=>c.2 x∧AllC cs xs
 | _,_=>False
section
variable {H:Type} {enc:TypeId × Value→H} {W:World}
theorem z692 {base:Nat}:∀ (L:List (TypeId × (DV→Prop))),(∀ c ∈ L,Rd c.1 c.2)→∀ (vs:List Value) (ds:List (DataW H)) (ps:List MemPlace),
  (∀ (j:Nat) t v,(L.map (·.1))[j]?=some t→vs[j]?=some v→Value.okWide Try.prog W .any base t v) →
  DataW.TrodAll enc Try.prog W 0 (fun _=>true) true (L.map (·.1)) vs ds ps→Rows.uptoBulkAll ds≤1048576 →
  vs.length=L.length∧ds.length=L.length∧∃ xs,AllC L xs∧xs.length=L.length∧∀ (i:Nat) x v,xs[i]?=some x→vs[i]?=some v→DRel W (fun _=>False) x v
 | [],_,vs,ds,ps,_,h,_=>by
  obtain ⟨rfl,rfl,rfl⟩:=trodAll_nil h
  exact ⟨rfl,rfl,[],trivial,rfl,fun i x v h=>by simp at h⟩
 | c::L,hc,vs,ds,ps,hval,h,hb=>by
  obtain ⟨v,vs',d,ds',p,q,rfl,rfl,rfl,hd,hrest⟩:=trodAll_cons h
  simp only [Rows.uptoBulkAll] at hb
  obtain ⟨x,hx,hr⟩:=(hc c (by simp)).read H enc W base v d p (hval 0 _ v (by simp) (by simp)) hd (by omega)
  obtain ⟨h1,h2,xs,h3,h4,h5⟩:=z692 L (fun c h=>hc c (by simp [h])) vs' ds' q (fun j t v h1 h2=>hval (j + 1) t v (by simpa using h1) (by simpa using h2)) hrest (by omega)
  refine ⟨by simp [h1],by simp [h2],x::xs,⟨hx,h3⟩,by simp [h4],fun i y w hy hw=>?_⟩
  cases i with
  | zero =>
   simp at hy hw
   subst hy
   subst hw
   exact hr
  | succ i=>exact h5 i y w (by simpa using hy) (by simpa using hw)
theorem z690 {W':World} {sp:Nat→Bool}:∀ (L:List (TypeId × (DV→Prop))),(∀ c ∈ L,Rd c.1 c.2)→∀ (vs:List Value) (ds:List (DataW H)) (ps:List MemPlace),
  DataW.TrodAll enc Try.prog W 0 (fun _=>true) true (L.map (·.1)) vs ds ps→(∀ y ∈ ps,y.block<W.heap.size)→Below W.heap.size W W'→(∀ y ∈ ps,sp y.block=true) →
  DataW.TrodAll enc Try.prog W' 0 sp true (L.map (·.1)) vs ds ps
 | [],_,vs,ds,ps,h,_,_,_=>by
  obtain ⟨rfl,rfl,rfl⟩:=trodAll_nil h
  exact trodAll_mk0
 | c::L,hc,vs,ds,ps,h,hlt,hb,hsp=>by
  obtain ⟨v,vs',d,ds',p,q,rfl,rfl,rfl,hd,hrest⟩:=trodAll_cons h
  have hrd:=hc c (by simp)
  exact ⟨p,q,WideElems.Trod_stays (by kernel_rfl) hrd.rec' hrd.lt hd (fun y hy=>hb.same (hlt y (by simp [hy]))) (fun y hy=>hsp y (by simp [hy])),
   z690 L (fun c h=>hc c (by simp [h])) vs' ds' q hrest (fun y hy=>hlt y (by simp [hy])) hb (fun y hy=>hsp y (by simp [hy])),rfl⟩
end
theorem z1060 {f:FuncId} {fn:Func} (L:List (TypeId × (DV→Prop))) (hL:∀ c ∈ L,Rd c.1 c.2) (hf:∀ xs,AllC L xs→Fn Try.prog f xs (.bool true)) (hfn:fn.params=(L.map (·.1)).toArray) (hr:fn.resultTypes=#[4])
  (s:ChangeSpec) (hv:s.vars=[]) (hs:∀ (H:Type) (ds:List (DataW H)),ds.length=L.length→s.fn H ds={ results:=[.lit (.bool true)],args:=ds })
  {H:Type} {enc:TypeId × Value→H} {W:World} {args:Array Value} {ds gs:List (DataW H)} {before:List MemPlace}
  {base:Nat} (hval:∀ (j:Nat) t v,fn.params[j]?=some t→args[j]?=some v→Value.okWide Try.prog W .any base t v)
  (hW:DataW.Whole enc Try.prog fn.params.toList s.vars false W args.toList ds gs before) (hk:Rows.uptoSmall H (ds++gs)=true) :
  Calls Try.prog f args W fun e W'=>∃ v,e=.returned v∧s.post enc Try.prog fn false true false false W args v W':=by
 have hW':=hW
 obtain ⟨p,q,hA,hV,rfl,hfz,hnd⟩:=hW
 rw [hfn] at hA
 rw [hv] at hV
 obtain ⟨rfl,rfl⟩:=trodVars_none hV
 have hb:=of_decide_eq_true hk
 simp only [List.append_nil] at hb
 obtain ⟨l1,l2,xs,hxs,l3,hrel⟩:=z692 (base:=base) L hL _ _ _ (fun j t v h1 h2=>hval j t v (by rw [hfn];simpa using h1) (by simpa using h2)) hA hb
 have hc:=(hf xs hxs).2 W (fun _=>False) args (fun _ h=>h.elim) (Hid.no (by kernel_rfl)) ⟨by rw [l3,← l1];simp,fun i x v h1 h2=>hrel i x v h1 (by simpa using h2)⟩
 refine hc.mono fun e W' h=>?_
 obtain ⟨v,rfl,hvr,hbel⟩:=h
 cases hvr
 refine ⟨_,rfl,?_⟩
 have hlt:∀ y ∈ p,y.block<W.heap.size:=fun y hy=>hW'.lt y (by simpa using hy)
 have hok:Value.okWide Try.prog W' .any 0 4 (.bool true):=okWide_bool_mk (t:=4) Try.underlying4 true
 have hsf:s.fn H (ds++[])={ results:=[.lit (.bool true)],args:=ds }:=by rw [List.append_nil];exact hs H ds l2
 refine z434 (pa:=p) (pv:=[]) hW' ?_ ?_ ?_ (by simp) hbel ?_
 ·intro b sp hd
  rw [hr,hsf]
  exact trodAll_mk1 (shut_bool Try.underlying4 _)
 ·intro sp hsp
  rw [hfn,hsf]
  exact z690 L hL _ _ _ hA hlt hbel (fun y hy=>hsp y (by simpa using hy))
 ·intro sp hsp
  rw [hv,hsf]
  rfl
 ·exact ok_one hr rfl hok
abbrev aU:TypeId × (DV→Prop):=(22,fun x=>∃ l:List Int,x=.sl (intRows l)∧l.length<2 ^ 30)
abbrev aI:TypeId × (DV→Prop):=(3,fun x=>∃ n:Int,x=.i n)
theorem z1048 {c d e:TypeId × (DV→Prop)} {xs:List DV} (h:AllC [c,d,e] xs):∃ x y z,xs=[x,y,z]∧c.2 x∧d.2 y∧e.2 z:=by
 match xs,h with
 | [x,y,z],h=>exact ⟨x,y,z,rfl,h.1,h.2.1,h.2.2.1⟩
end Go.Ab
namespace Go.Ab
open Go.RowKit Go.Proofs
def tripRows (l:List (Int × Int)):List (List DV):=l.map fun p=>[.i p.1,.i p.2]
end Go.Ab
namespace Go.Ab
open Go.RowKit Go.Proofs
set_option maxHeartbeats 8000000
set_option maxRecDepth 20000
attribute [local irreducible] WalkL Walk
def inSp (l:List Span) (n:Nat):Bool:=l.any fun s=>withinB n s.lo s.hi
def rowQ (f:Nat→Int) (H:Nat) (q:Nat→Bool):List Int:=(List.range H).map fun u=>if q u then f u else 0
theorem z301 (H:Nat):List.replicate H [DV.i 0]=intRows (List.replicate H 0):=by simp [intRows]
def heatF (S:List (List Hour)) (t:Nat):Int:=max 0 (hullAll S (t:Int)).temp.hi
def heatL (S:List (List Hour)) (H:Nat):List Int:=rowQ (heatF S) H fun _=>true
def sureC (S:List (List Hour)) (H:Nat) (c:Carrier):List Span:=spansQ (fun i=>S.all fun s=>alwaysB c.lim (hourAt s (i:Int))) H
def loadOf (S:List (List Hour)) (c:Carrier) (t:Nat):Int:=max 0 (wr (c.lift - wr (c.heat * heatF S t)))
def loadRow (S:List (List Hour)) (H:Nat) (c:Carrier):List Int:=rowQ (loadOf S c) H (inSp (sureC S H c))
def hutRow (s:Supply) (L:List (List Int)) (H:Nat):List DV:=[.sl (scenRows s.scen),.sl (sightRows s.seen),.i s.stock,.i s.reserve,.i s.room,.i s.use.lo,.i s.use.hi,.sl (carrRows s.carr),.sl (listRows L),.i H]
def Supply.scens (s:Supply):List (List Hour):=scensOf (possL s.scen s.seen)
def Supply.hours (s:Supply):Nat:=(hd0 s.scen).length
def Supply.loads (s:Supply):List (List Int):=s.carr.map (loadRow s.scens s.hours)
def hutOf (s:Supply):List DV:=hutRow s s.loads s.hours
def openS6 (s:Supply) (told:Bool):Int:=if suppE s=0 then (if told then 0 else 1) else suppE s
def openT6 (s:Supply) (ok told:Bool):Int:=if suppE s=0 then (if ok then (if told then 0 else 1) else 62) else suppE s
end Go.Ab
namespace Go.Ab
open Go.RowKit Go.Proofs
set_option maxHeartbeats 16000000
set_option maxRecDepth 20000
attribute [local irreducible] WalkL Walk
structure Flight where
 set:Int
 load:Int
 cost:Int
def Flight.row (f:Flight):List DV:=[.i f.set,.i f.load,.i f.cost]
def flRows (l:List Flight):List (List DV):=l.map Flight.row
def addF (i:Nat) (l cost:Int) (f:Flight):Flight:=⟨bOr .i64 f.set (bShl .i64 1 (i:Int)),wr (f.load + l),wr (f.cost + cost)⟩
def stepFl (i:Nat) (l cost:Int) (out:List Flight):List Flight:=if l=0 then out else out++out.map (addF i l cost)
def noCarrier:Carrier:=⟨0,0,0,⟨0,0,⟨0,0⟩⟩⟩
def flightsTo (cs:List Carrier) (L:List (List Int)) (h:Nat):Nat→List Flight
 | 0=>[⟨0,0,0⟩]
 | i + 1=>stepFl i (getI (L.getD i []) (h:Int)) (cs.getD i noCarrier).cost (flightsTo cs L h i)
def fl5:Nat→AV
 | 0=>.own 11
 | _=>.own 65
def fl32 (N:Nat) (R:List (List DV)):Nat→AV
 | 0=>.view 11 0 N
 | 1=>.d (.sl R)
 | _=>.view 65 0 N
def flM (b:Blk):Nat→Option Blk
 | 0=>some b
 | _=>none
def flM' (b:Blk):Nat→Option Blk
 | 0=>none
 | _=>some b
end Go.Ab
namespace Go.Ab
open Go.RowKit Go.Proofs
set_option maxHeartbeats 8000000
set_option maxRecDepth 20000
attribute [local irreducible] WalkL Walk
def fitsB6 (s:Supply) (h b:Int):Bool:=decide (wr (wr (s.stock + b) - wr (h * s.use.lo))≤s.room)
def suffB (s:Supply) (h b:Int):Bool:=decide (wr (wr (s.stock + b) - wr (wr (h + 1) * s.use.hi)) ≥ s.reserve)
def okFl (s:Supply) (h b:Int) (f:Flight):Bool:=fitsB6 s h (wr (b + f.load)) && suffB s h (wr (b + f.load))
def nextItem (h b:Int) (f:Flight):List DV:=[.agg f.row,.agg [.i (wr (h + 1)),.i (wr (b + f.load))]]
def nextF (s:Supply) (fl:List Flight) (h b:Int):List Flight:=fl.filter (okFl s h b)
end Go.Ab
namespace Go.Ab
open Go.RowKit Go.Proofs
set_option maxHeartbeats 16000000
set_option maxRecDepth 20000
attribute [local irreducible] WalkL Walk
structure Way where
 cost:Int
 fl:Flight
def wayD:Option Way→DV
 | none=>.nilptr
 | some w=>.ptr [.i w.cost,.i w.fl.set,.i w.fl.load,.i w.fl.cost] 0
abbrev Ent:=(Int × Int) × Option Way × Nat
def memE (es:List Ent):List (MK × DV × Nat):=es.map fun e=>(.s [e.1.1,e.1.2],wayD e.2.1,e.2.2)
def lookE:List Ent→Int × Int→Nat→Option (Nat × Option Way × Nat)
 | [],_,_=>none
 | e::es,k,i=>if k=e.1 then some (i,e.2.1,e.2.2) else lookE es k (i + 1)
def putE:List Ent→Int × Int→Option Way→Nat→List Ent × Nat
 | [],k,w,c=>([(k,w,c)],c + 1)
 | e::es,k,w,c=>if k=e.1 then ((k,w,e.2.2)::es,c) else (e::(putE es k w c).1,(putE es k w c).2)
def better (best:Option Way) (f:Flight):Option Way→Option Way
 | none=>best
 | some w=>match best with
  | none=>some ⟨wr (f.cost + w.cost),f⟩
  | some v=>if wr (f.cost + w.cost)<v.cost then some ⟨wr (f.cost + w.cost),f⟩ else best
def doneW:Option Way:=some ⟨0,⟨0,0,0⟩⟩
def findM (s:Supply) (L:List (List Int)) (H:Nat):Nat→Int→List Ent × Nat→Option Way × (List Ent × Nat)
 | 0,b,m=>(doneW,putE m.1 ((H:Int),b) doneW m.2)
 | n + 1,b,m=>match lookE m.1 (((H - (n + 1):Nat):Int),b) 0 with
  | some (_,v,_)=>(v,m)
  | none=>(((nextF s (flightsTo s.carr L (H - (n + 1)) L.length) ((H - (n + 1):Nat):Int) b).foldl (fun a f=>(better a.1 f (findM s L H n (wr (b + f.load)) a.2).1,(findM s L H n (wr (b + f.load)) a.2).2)) (none,m)).1,
   putE ((nextF s (flightsTo s.carr L (H - (n + 1)) L.length) ((H - (n + 1):Nat):Int) b).foldl (fun a f=>(better a.1 f (findM s L H n (wr (b + f.load)) a.2).1,(findM s L H n (wr (b + f.load)) a.2).2)) (none,m)).2.1 (((H - (n + 1):Nat):Int),b)
    ((nextF s (flightsTo s.carr L (H - (n + 1)) L.length) ((H - (n + 1):Nat):Int) b).foldl (fun a f=>(better a.1 f (findM s L H n (wr (b + f.load)) a.2).1,(findM s L H n (wr (b + f.load)) a.2).2)) (none,m)).1
    ((nextF s (flightsTo s.carr L (H - (n + 1)) L.length) ((H - (n + 1):Nat):Int) b).foldl (fun a f=>(better a.1 f (findM s L H n (wr (b + f.load)) a.2).1,(findM s L H n (wr (b + f.load)) a.2).2)) (none,m)).2.2)
end Go.Ab
namespace Go.Ab
open Go.RowKit Go.Proofs
def lookW (es:List Ent) (k:Int × Int):Option (Option Way):=(lookE es k 0).map (·.2.1)
structure GoodM (H:Nat) (es:List Ent):Prop where
 done:∀ b v,lookW es ((H:Int),b)=some v→v=doneW
 next:∀ (h:Nat) b w,h<H→lookW es ((h:Int),b)=some (some w)→∃ w',lookW es (((h + 1:Nat):Int),wr (b + w.fl.load))=some (some w')
end Go.Ab
namespace Go.Ab
open Go.RowKit Go.Proofs
set_option maxHeartbeats 8000000
set_option maxRecDepth 20000
attribute [local irreducible] WalkL Walk
structure Small6 (s:Supply):Prop where
 len:s.loads.length=s.carr.length
 few:s.loads.length≤4
 rows:∀ r ∈ s.loads,r.length=s.hours
 hours:1≤s.hours∧s.hours≤48
 look:lookF s.scen s.seen 0 true=0
def foundM (s:Supply):Option Way × (List Ent × Nat):=findM s s.loads s.hours s.hours 0 ([],0)
def planE (s:Supply):Int:=if (foundM s).1.isNone then 3 else 0
end Go.Ab
namespace Go.Ab
open Go.RowKit Go.Proofs
set_option maxHeartbeats 8000000
set_option maxRecDepth 20000
attribute [local irreducible] WalkL Walk
def bitB (set:Int) (c:Nat):Bool:=bAnd .i64 (bShr .i64 set (c:Int)) 1 == 1
def tripsTo (h:Nat) (set:Int) (n:Nat):List (Int × Int):=((List.range n).filter (bitB set)).map fun (c:Nat)=>((h:Int),(c:Int))
def planT (es:List Ent) (n:Nat):Nat→Nat→Int→Way→List (Int × Int)
 | 0,_,_,_=>[]
 | k + 1,h,b,w=>tripsTo h w.fl.set n++match lookW es (((h + 1:Nat):Int),wr (b + w.fl.load)) with
  | some (some w')=>planT es n k (h + 1) (wr (b + w.fl.load)) w'
  | _=>[]
def planS (s:Supply):List (Int × Int) × Int × Int:=match (foundM s).1 with
 | none=>([],0,3)
 | some w=>(planT (foundM s).2.1 s.carr.length s.hours 0 0 w,w.cost,0)
end Go.Ab
namespace Go.Ab
open Go.RowKit Go.Proofs
set_option maxHeartbeats 8000000
set_option maxRecDepth 20000
attribute [local irreducible] WalkL Walk
theorem z292 {a b:List Int} (hl:a.length=b.length) (h:a.take a.length=b.take a.length):a=b:=by
 rw [List.take_length,hl,List.take_length] at h
 exact h
def storeBadR (s:Supply):Bool:=!withinB s.room 0 5000 || (!withinB s.stock 0 s.room || (!withinB s.reserve 0 s.room || (!withinB s.use.lo 0 s.use.hi || decide (s.use.hi > 500))))
def exS:Supply:=⟨exF,[],30,10,60,⟨5,8⟩,[⟨20,1,7,⟨40,0,⟨-5,15⟩⟩⟩,⟨15,0,4,⟨200,100,⟨-50,50⟩⟩⟩]⟩
end Go.Ab
namespace Go.Ab
open Go.RowKit Go.Proofs
set_option maxHeartbeats 8000000
set_option maxRecDepth 20000
attribute [local irreducible] WalkL Walk
def far6 (s:Supply):Bool:=far5 s.scen s.seen || (decide ((s.carr.length:Int) > 20) || (suppE s == 0 && (decide ((s.hours:Int) > 6) || (decide ((s.scen.length:Int) > 3) || decide ((s.carr.length:Int) > 2)))))
def valid6 (s:Supply):Bool:=!far6 s && suppE s == 0
end Go.Ab
namespace Go.Ab
open Go.RowKit Go.Proofs
set_option maxHeartbeats 8000000
set_option maxRecDepth 20000
attribute [local irreducible] WalkL Walk
def askB (s:Supply) (c n:Int):Bool:=withinB c 0 ((s.carr.length:Int) - 1) && withinB n 1 48
def nextW (s:Supply) (c n:Int):Int × Int × Int:=windowF s.scen s.seen (s.carr.getD c.toNat ⟨0,0,0,⟨0,0,⟨0,0⟩⟩⟩).lim n
def nextE (s:Supply) (c n:Int):Int:=if (nextW s c n).2.2=0∧(nextW s c n).2.1<0 then 3 else (nextW s c n).2.2
def nextP (s:Supply) (c n:Int):Int × Bool × Int :=
 if openS6 s (askB s c n)=0 then (if nextE s c n=0 then ((nextW s c n).2.1,(nextW s c n).2.1 == 0 || decide (wr (s.stock - wr ((nextW s c n).2.1 * s.use.hi)) ≥ s.reserve),0) else (0,false,nextE s c n)) else (0,false,openS6 s (askB s c n))
end Go.Ab
namespace Go.Ab
open Go.RowKit Go.Proofs
set_option maxHeartbeats 8000000
set_option maxRecDepth 20000
attribute [local irreducible] WalkL Walk
end Go.Ab
namespace Go.Ab
open Go.RowKit Go.Proofs
set_option maxHeartbeats 8000000
set_option maxRecDepth 20000
attribute [local irreducible] WalkL Walk
def usesB (s:Supply) (l:List Int):Bool:=l.all (fun x=>withinB x s.use.lo s.use.hi) && ((l.length:Int) == (s.hours:Int))
end Go.Ab
namespace Go.Ab
open Go.RowKit Go.Proofs
end Go.Ab
namespace Go.Ab
open Go.RowKit Go.Proofs
def Supply.more (s:Supply) (x:Sight):Supply:={ s with seen:=s.seen++[x] }
end Go.Ab
namespace Go.Ab
open Go.RowKit Go.Proofs
set_option maxHeartbeats 8000000
set_option maxRecDepth 20000
attribute [local irreducible] WalkL Walk
structure Batch where
 good:Int
 amount:Int
 last:Int
def Batch.row (b:Batch):List DV:=[.i b.good,.i b.amount,.i b.last]
def batRows (l:List Batch):List (List DV):=l.map Batch.row
structure Dish where
 needs:List Int
def Dish.row (d:Dish):List DV:=[.sl (intRows d.needs)]
def dishRows (l:List Dish):List (List DV):=l.map Dish.row
structure Diners where
 no:Int
 count:Span
def Diners.row (d:Diners):List DV:=[.i d.no,.i d.count.lo,.i d.count.hi]
def dinRows (l:List Diners):List (List DV):=l.map Diners.row
def dayRows (l:List (List Diners)):List (List DV):=l.map fun d=>[.sl (dinRows d)]
structure Kitchen where
 allerg:List Int
 batches:List Batch
 dishes:List Dish
 days:List (List Diners)
def Kitchen.cells (k:Kitchen):List DV:=[.sl (intRows k.allerg),.sl (batRows k.batches),.sl (dishRows k.dishes),.sl (dayRows k.days)]
theorem z686 (l:List Batch):(batRows l).length=l.length:=by simp [batRows]
theorem z565 (l:List Dish):(dishRows l).length=l.length:=by simp [dishRows]
theorem z680 (l:List Diners):(dinRows l).length=l.length:=by simp [dinRows]
theorem z85 (l:List (List Diners)):(dayRows l).length=l.length:=by simp [dayRows]
theorem z243 {l:List Batch} {i:Nat} {x:Batch} (h:l[i]?=some x):(batRows l)[i]?=some x.row:=by simp [batRows,h]
theorem z142 {l:List Dish} {i:Nat} {x:Dish} (h:l[i]?=some x):(dishRows l)[i]?=some x.row:=by simp [dishRows,h]
theorem z84 {l:List Diners} {i:Nat} {x:Diners} (h:l[i]?=some x):(dinRows l)[i]?=some x.row:=by simp [dinRows,h]
theorem z73 {l:List (List Diners)} {i:Nat} {x:List Diners} (h:l[i]?=some x):(dayRows l)[i]?=some [.sl (dinRows x)]:=by simp [dayRows,h]
attribute [go_sem] z686 z565 z680 z85 z25
structure KitSmall (k:Kitchen):Prop where
 allerg:k.allerg.length<2 ^ 30
 batches:k.batches.length<2 ^ 30
 dishes:k.dishes.length<2 ^ 30
 needs:∀ d ∈ k.dishes,d.needs.length<2 ^ 30
 days:k.days.length<2 ^ 30
 groups:∀ d ∈ k.days,d.length<2 ^ 30
end Go.Ab
namespace Go.Ab
open Go.RowKit Go.Proofs Go.ChangeShapes Go.WideShapes Go.Proofs.Ytgjnckiifffneaa
set_option linter.unusedVariables false
set_option maxRecDepth 100000
def threeS:List Sh:=[iS,iS,iS]
theorem z1022 {N:Nat} {r:List DV} (h:Sh.fitsL N threeS r):∃ s:Batch,r=s.row∧True:=by
 simp only [threeS,iS,Sh.fitsL,Sh.fits] at h
 obtain ⟨_,_,rfl,⟨a,rfl,_⟩,_,_,rfl,⟨b,rfl,_⟩,_,_,rfl,⟨c,rfl,_⟩,rfl⟩:=h
 exact ⟨⟨a,b,c⟩,rfl,trivial⟩
theorem z1019 {N:Nat} {r:List DV} (h:Sh.fitsL N threeS r):∃ s:Diners,r=s.row∧True:=by
 simp only [threeS,iS,Sh.fitsL,Sh.fits] at h
 obtain ⟨_,_,rfl,⟨a,rfl,_⟩,_,_,rfl,⟨b,rfl,_⟩,_,_,rfl,⟨c,rfl,_⟩,rfl⟩:=h
 exact ⟨⟨a,⟨b,c⟩⟩,rfl,trivial⟩
theorem z996 {N:Nat} {d:DV} (h:Sh.fits N (.sl threeS) d):∃ l:List Batch,d=.sl (batRows l)∧l.length≤N:=by
 simp only [Sh.fits] at h
 obtain ⟨rows,rfl,hl,hr⟩:=h
 obtain ⟨l,rfl,_⟩:=z181 (fun r h=>z1022 (hr r h))
 exact ⟨l,rfl,by simpa using hl⟩
theorem z991 {N:Nat} {r:List DV} (h:Sh.fitsL N [.sl [iS]] r):∃ l:Dish,r=l.row∧l.needs.length≤N:=by
 rw [Sh.fitsL] at h
 obtain ⟨d,_,rfl,h,h2⟩:=h
 rw [Sh.fitsL] at h2
 subst h2
 obtain ⟨l,rfl,hl⟩:=z443 h
 exact ⟨⟨l⟩,rfl,hl⟩
theorem z873 {N:Nat} {d:DV} (h:Sh.fits N (.sl [.sl [iS]]) d):∃ l:List Dish,d=.sl (dishRows l)∧l.length≤N∧∀ x ∈ l,x.needs.length≤N:=by
 rw [Sh.fits] at h
 obtain ⟨rows,rfl,hl,hr⟩:=h
 obtain ⟨l,rfl,hq⟩:=z181 (row:=Dish.row) (fun r h=>z991 (hr r h))
 exact ⟨l,rfl,by simpa using hl,hq⟩
theorem z977 {N:Nat} {r:List DV} (h:Sh.fitsL N [.sl [iS]] r):∃ l:List Int,r=[.sl (intRows l)]∧l.length≤N:=by
 rw [Sh.fitsL] at h
 obtain ⟨d,_,rfl,h,h2⟩:=h
 rw [Sh.fitsL] at h2
 subst h2
 obtain ⟨l,rfl,hl⟩:=z443 h
 exact ⟨l,rfl,hl⟩
theorem z696 {N:Nat} {d:DV} (h:Sh.fits N (.sl [.sl [iS]]) d):∃ l:List (List Int),d=.sl (listRows l)∧l.length≤N∧∀ x ∈ l,x.length≤N:=by
 rw [Sh.fits] at h
 obtain ⟨rows,rfl,hl,hr⟩:=h
 obtain ⟨l,rfl,hq⟩:=z181 (row:=fun l:List Int=>[DV.sl (intRows l)]) (fun r h=>z977 (hr r h))
 exact ⟨l,rfl,by simpa using hl,hq⟩
theorem z992 {N:Nat} {r:List DV} (h:Sh.fitsL N [.sl threeS] r):∃ l:List Diners,r=[.sl (dinRows l)]∧l.length≤N:=by
 rw [Sh.fitsL] at h
 obtain ⟨d,_,rfl,h,h2⟩:=h
 rw [Sh.fitsL] at h2
 subst h2
 rw [Sh.fits] at h
 obtain ⟨rows,rfl,hl,hr⟩:=h
 obtain ⟨l,rfl,_⟩:=z181 (fun r h=>z1019 (hr r h))
 exact ⟨l,rfl,by simpa using hl⟩
theorem z993 {N:Nat} {d:DV} (h:Sh.fits N (.sl [.sl threeS]) d):∃ l:List (List Diners),d=.sl (dayRows l)∧l.length≤N∧∀ x ∈ l,x.length≤N:=by
 rw [Sh.fits] at h
 obtain ⟨rows,rfl,hl,hr⟩:=h
 obtain ⟨l,rfl,hq⟩:=z181 (row:=fun l:List Diners=>[DV.sl (dinRows l)]) (fun r h=>z992 (hr r h))
 exact ⟨l,rfl,by simpa using hl,hq⟩
def kitS:List Sh:=[.sl [iS],.sl threeS,.sl [.sl [iS]],.sl [.sl threeS]]
theorem z1013 {N:Nat} (hN:N<2 ^ 29) {r:List DV} (h:Sh.fitsL N kitS r):∃ k:Kitchen,r=k.cells∧KitSmall k:=by
 unfold kitS at h
 rw [Sh.fitsL] at h
 obtain ⟨x0,_,rfl,h0,h⟩:=h
 rw [Sh.fitsL] at h
 obtain ⟨x1,_,rfl,h1,h⟩:=h
 rw [Sh.fitsL] at h
 obtain ⟨x2,_,rfl,h2,h⟩:=h
 rw [Sh.fitsL] at h
 obtain ⟨x3,_,rfl,h3,h⟩:=h
 rw [Sh.fitsL] at h
 subst h
 obtain ⟨A,rfl,a1⟩:=z443 h0
 obtain ⟨B,rfl,b1⟩:=z996 h1
 obtain ⟨C,rfl,c1,c2⟩:=z873 h2
 obtain ⟨D,rfl,d1,d2⟩:=z993 h3
 refine ⟨⟨A,B,C,D⟩,rfl,⟨?_,?_,?_,fun x hx=>?_,?_,fun x hx=>?_⟩⟩
 ·show A.length<2 ^ 30
  omega
 ·show B.length<2 ^ 30
  omega
 ·show C.length<2 ^ 30
  omega
 ·have:=c2 x hx
  omega
 ·show D.length<2 ^ 30
  omega
 ·have:=d2 x hx
  omega
theorem z1046:shapes Try.prog 20 27=some kitS:=by kernel_rfl
theorem z1041:Rd 27 (fun x=>∃ k:Kitchen,x=.agg k.cells∧KitSmall k) :=
 ⟨by kernel_rfl,of_decide_eq_true (by kernel_rfl),fun H enc w base v d ps _ h hd=>by
  obtain ⟨ds,hf,hr⟩:=z714 z1046 (by decide) h hd
  obtain ⟨p,rfl,hp⟩:=z1013 (by decide) hf
  exact ⟨_,⟨p,rfl,hp⟩,hr⟩⟩
abbrev aQ:TypeId × (DV→Prop):=(27,fun x=>∃ k:Kitchen,x=.agg k.cells∧KitSmall k)
abbrev aM:TypeId × (DV→Prop):=(28,fun x=>∃ M:List (List Int),x=.sl (listRows M)∧M.length<2 ^ 30∧∀ r ∈ M,r.length<2 ^ 30)
end Go.Ab
namespace Go.Ab
open Go.RowKit Go.Proofs Go.ChangeShapes Go.WideShapes Go.Proofs.Ytgjnckiifffneaa
set_option linter.unusedVariables false
set_option maxRecDepth 100000
structure Meals where
 M:List (List Int)
 C:List (List Int)
 no:Int
def mealCells (b:Meals):List DV:=[.sl (listRows b.M),.sl (listRows b.C),.i b.no]
structure MealsSmall (b:Meals):Prop where
 m:b.M.length<2 ^ 30
 mr:∀ r ∈ b.M,r.length<2 ^ 30
 c:b.C.length<2 ^ 30
 cr:∀ r ∈ b.C,r.length<2 ^ 30
def mealsS:List Sh:=[.sl [.sl [iS]],.sl [.sl [iS]],iS]
theorem z927 {N:Nat} (hN:N<2 ^ 29) {r:List DV} (h:Sh.fitsL N mealsS r):∃ b:Meals,r=mealCells b∧MealsSmall b:=by
 unfold mealsS at h
 rw [Sh.fitsL] at h
 obtain ⟨x0,_,rfl,h0,h⟩:=h
 rw [Sh.fitsL] at h
 obtain ⟨x1,_,rfl,h1,h⟩:=h
 obtain ⟨no,rfl,_⟩:=z959 h
 obtain ⟨A,rfl,a1,a2⟩:=z696 h0
 obtain ⟨B,rfl,b1,b2⟩:=z696 h1
 refine ⟨⟨A,B,no⟩,rfl,⟨?_,fun x hx=>?_,?_,fun x hx=>?_⟩⟩
 ·show A.length<2 ^ 30
  omega
 ·have:=a2 x hx
  omega
 ·show B.length<2 ^ 30
  omega
 ·have:=b2 x hx
  omega
theorem z978:shapes Try.prog 20 43=some mealsS:=by kernel_rfl
theorem z968:Rd 43 (fun x=>∃ b:Meals,x=.agg (mealCells b)∧MealsSmall b) :=
 ⟨by kernel_rfl,of_decide_eq_true (by kernel_rfl),fun H enc w base v d ps _ h hd=>by
  obtain ⟨ds,hf,hr⟩:=z714 z978 (by decide) h hd
  obtain ⟨p,rfl,hp⟩:=z927 (by decide) hf
  exact ⟨_,⟨p,rfl,hp⟩,hr⟩⟩
abbrev aL:TypeId × (DV→Prop):=(43,fun x=>∃ b:Meals,x=.agg (mealCells b)∧MealsSmall b)
end Go.Ab
/- Memory of the call's own that is handed over whole;drawn regions whose calls stand in an order. -/
namespace Go.Ab
open Go.RowKit
theorem CallR.own {P:Program} {st:St} {dst:Option Tmp} {g:FuncId} {xs:List AV} {m0:List Blk} {pins:List Nat} {args:List AV} {r:AV} {m1:List Blk} (ns news bads rd:List Nat) (hf:FnG P g m0 pins args r m1)
  (hnd:(ns++news).Nodup) (hl0:ns.length=m0.length) (hl1:(ns++news).length=m1.length) (hm:blksG st ns ns m0) (hnew:news.all st.fresh=true) (hla:xs.length=args.length)
  (ha:∀ (i:Nat) x y,xs[i]?=some x→args[i]?=some y→argG st ns rd x y) (hrd:rd.all (fun n=>!ns.contains n)=true) (hsh:shutG st rd) (hb:(List.range ns.length).all (fun i=>pins.contains i || bads.contains (ns.getD i 0))=true)
  (hfl:rd=[]∨(r.flatA=true∧m1.all Blk.flatB=true)) :
  CallR P st dst g xs (({ (st.keep bads) with m:=putM (ns++news) (m1.map (Blk.mapN fun i=>(ns++news)[i]?)) (st.keep bads).m }:St).put dst (r.mapN fun i=>(ns++news)[i]?)) :=
 CallR.gen m0 pins args r m1 ns news rd bads hf hnd hl0 hl1 (z315 hm).2 (fun n hn=>z31 (List.all_eq_true.1 hnew n hn)) hla ha (fun n hn=>by simpa using List.all_eq_true.1 hrd n hn) hsh
  (fun i n hi hn=>by
   have hil:=(List.getElem?_eq_some_iff.1 hi).1
   have:=List.all_eq_true.1 hb i (List.mem_range.2 hil)
   rw [Bool.or_eq_true] at this
   rcases this with h | h
   ·simpa using h
   ·rw [List.getD,hi] at h
    exact absurd (by simpa using h) hn) hfl
theorem z22 (st:St):shutG st []:=fun n hn=>by cases hn
theorem z868 {e z:Nat} {rows:List (List DV)} (h:rowsFlat rows):Blk.flatB (.arr e z rows)=true:=by
 simp only [Blk.flatB,List.all_eq_true]
 intro r hr
 exact h r hr
def offM (m:Nat→Bool) (i:Nat):Nat→Bool:=fun j=>if j=i then false else m j
def depsM (m:Nat→Bool):List Edge→Prop
 | []=>True
 | e::es=>(Region.binds .any e=true→m e.on=false)∧depsM m es
theorem z211 {m:Nat→Bool}:∀ {es:List Edge},(∀ e ∈ es,Region.binds .any e=true→m e.on=false)→depsM m es
 | [],_=>trivial
 | e::es,h=>⟨h e (by simp),z211 fun e he=>h e (by simp [he])⟩
def stepsM (P:Program) (G:(Nat→Bool)→St):List Oper→Nat→Prop
 | [],_=>True
 | o::os,i=>(∀ m:Nat→Bool,m i=true→depsM m o.after.toList→dstOk o=true∧o.guard=none∧stepK P o (G m) (fun s=>s=G (offM m i)))∧stepsM P G os (i + 1)
def StepM (P:Program) (G:(Nat→Bool)→St) (o:Oper) (i:Nat):Prop:=∀ m:Nat→Bool,m i=true→depsM m o.after.toList→dstOk o=true∧o.guard=none∧stepK P o (G m) (fun s=>s=G (offM m i))
theorem z963 {ops:Array Oper} (hb:backB ops=true) {i j:Nat} (h:Anc ops i j):i<j:=by
 induction h with
 | edge ho he hbi=>exact z115 hb ho he hbi
 | step _ _ h1 h2=>omega
structure LeftC (ops:Array Oper) (G:(Nat→Bool)→St) (rs:List Nat) (s s':St):Prop where
 now:s=G fun i=>rs.contains i
 fin:s'=G fun _=>false
 nodup:rs.Nodup
 ord:rs.Pairwise fun a b=>¬ Anc ops b a
 size:∀ i ∈ rs,i<ops.size
section
variable {P:Program} {rd:Option Nat} {n:Nat} {J:Env} {ops:Array Oper} {cs:List Code} {k:Option Nat} {st:St} {Q:Exit→Option Nat→St→Prop}
end
attribute [go_sem] offM
end Go.Ab
/- A fresh slice is a deep value too. -/
namespace Go.Ab
open Go.RowKit
theorem FnS.deep {P:Program} {f:FuncId} {args:List DV} {e z:Nat} {rows:List (List DV)} (h:FnS P f args e z rows):Fn P f args (.sl rows) :=
 ⟨h.1,fun w own vs hb hh hd=>(h.2 w own vs hb hh hd).mono fun en w' hq=>by
  obtain ⟨v,μ,he,hv,hm,hbl⟩:=hq
  exact ⟨v,he,z58 hm own (fun b hb=>.inl hb) (fun _=>True) (fun n b z l c _ hμ=>(hm.base n b z l c hμ).2.2) 1 (.own 0) v _ hv rfl (fun _ _=>trivial) (.inl fun _ _ _ _ _ _=>trivial),hbl⟩⟩
theorem FnG.boxNil {P:Program} {f:FuncId} {m0:List Blk} {pins:List Nat} {args:List AV} {r:AV} {row:List AV} {rest:List Blk} (h:FnG P f m0 pins args r (.box row::rest)):FnG P f m0 pins args r (.box []::rest) :=
 ⟨h.enters,fun base w own μ0 vs h1 h2 h3 h4 h5 h6=>(h.calls base w own μ0 vs h1 h2 h3 h4 h5 h6).mono fun en w' hq=>by
  obtain ⟨v,μ1,he,hv,hm,hk,hp⟩:=hq
  refine ⟨v,μ1,he,hv,⟨fun n b hb=>?_,fun n hn=>?_,hm.inj,hm.base⟩,hk,hp⟩
  ·cases n with
   | zero =>
    have e:Blk.box []=b:=by simpa using hb
    subst e
    obtain ⟨b,cs,ty,g1,g2,_,_⟩:=hm.blk 0 (.box row) rfl
    exact ⟨b,cs,ty,g1,g2,Nat.zero_le _,fun j x v hx=>by cases hx⟩
   | succ n=>exact hm.blk (n + 1) b (by simpa using hb)
  ·obtain ⟨b,hb⟩:=hm.dom n hn
   cases n with
   | zero=>exact ⟨.box [],rfl⟩
   | succ n=>exact ⟨b,by simpa using hb⟩⟩
def closedM (m:Nat→Bool):List Oper→Nat→Prop
 | [],_=>True
 | o::os,i=>(m i=false→depsM m o.after.toList)∧closedM m os (i + 1)
theorem z241 {m:Nat→Bool}:∀ (os:List Oper) (i:Nat),(∀ r o,os[r]?=some o→m (i + r)=false→depsM m o.after.toList)→closedM m os i
 | [],_,_=>trivial
 | o::os,i,h=>⟨fun hm=>h 0 o rfl hm,z241 os (i + 1) fun r o ho hm=>h (r + 1) o (by simpa using ho) (by rw [show i + (r + 1)=i + 1 + r by omega];exact hm)⟩
def stepsC (P:Program) (all:List Oper) (G:(Nat→Bool)→St):List Oper→Nat→Prop
 | [],_=>True
 | o::os,i=>(∀ m:Nat→Bool,m i=true→depsM m o.after.toList→closedM m all 0→dstOk o=true∧o.guard=none∧stepK P o (G m) (fun s=>s=G (offM m i)))∧stepsC P all G os (i + 1)
def StepC (P:Program) (all:List Oper) (G:(Nat→Bool)→St) (o:Oper) (i:Nat):Prop:=∀ m:Nat→Bool,m i=true→depsM m o.after.toList→closedM m all 0→dstOk o=true∧o.guard=none∧stepK P o (G m) (fun s=>s=G (offM m i))
theorem z223 {P:Program} {all:List Oper} {G:(Nat→Bool)→St}:∀ (os:List Oper) (i r:Nat) (o:Oper),stepsC P all G os i→os[r]?=some o→StepC P all G o (i + r)
 | [],_,_,_,_,ho=>by simp at ho
 | p::os,i,r,o,h,ho=>by
  cases r with
  | zero =>
   have e:p=o:=by simpa using ho
   rw [← e]
   exact h.1
  | succ r =>
   have h2:=z223 os (i + 1) r o h.2 (by simpa using ho)
   have e:i + 1 + r=i + (r + 1):=by omega
   rw [e] at h2
   exact h2
structure LeftD (ops:Array Oper) (G:(Nat→Bool)→St) (rs:List Nat) (s s':St):Prop where
 left:LeftC ops G rs s s'
 done:∀ (j:Nat) (o:Oper),ops[j]?=some o→j ∉ rs→∀ e ∈ o.after,Region.binds .any e=true→e.on ∉ rs
section
variable {P:Program} {rd:Option Nat} {n:Nat} {J:Env} {ops:Array Oper} {cs:List Code} {k:Option Nat} {st:St} {Q:Exit→Option Nat→St→Prop}
theorem z583 {id:Nat} (hfol:P.follows .mixedOrders=true) (hback:backB ops=true) (G:(Nat→Bool)→St) (h0:G (fun i=>decide (i<ops.size))=st) (hs:stepsC P ops.toList G ops.toList 0) (h:Q .normal k (G fun _=>false)) :
  Walk P rd n J (.region id ops true) k st Q:=fun B base out μ tmps w ds _ hst hJ hM=>by
 refine z157 (rs:=List.range ops.size) (fun i=>i) (fun a b=>¬ Anc ops a b) (LeftD ops G) (fun s s' hc=>?_) (fun r rs s s' hc=>?_) (fun r B s s' A hA hc=>?_) hfol hback (by simp) ?_ ?_ hst fun tmps' μ' w' h5 hk hS=>.step hJ h5 hk hS hM h
 ·rw [hc.left.now,hc.left.fin]
  rfl
 ·obtain ⟨⟨h1,h2,h3,h4,h5⟩,h6⟩:=hc
  have hr:=h5 r (by simp)
  obtain ⟨o,ho⟩:∃ o,ops[r]?=some o:=⟨ops[r],by simp [hr]⟩
  rw [List.pairwise_cons] at h4
  rw [List.nodup_cons] at h3
  have hni:∀ e ∈ o.after,Region.binds .any e=true→e.on ∉ r::rs:=by
   intro e he hb hc
   have hlt:=z115 hback ho he hb
   have hanc:Anc ops e.on r:=.edge ho he hb
   rcases List.mem_cons.1 hc with hc | hc
   ·omega
   ·exact h4.1 _ hc hanc
  have hg:=z223 ops.toList 0 r o hs (by simpa using ho) (fun i=>(r::rs).contains i) (by simp) (z211 fun e he hb=>by
   simpa using hni e (by simpa using he) hb) (z241 _ _ fun j q hq hm=>z211 fun e he hb=>by
    have hj:j ∉ r::rs:=by simpa using hm
    simpa using h6 j q (by simpa using hq) hj e (by simpa using he) hb)
  obtain ⟨hd,hgu,hk⟩:=hg
  obtain ⟨s1,hs1,he⟩:=z126 hk
  refine ⟨o,s1,ho,hd,by unfold StepG;rw [hgu,h1];exact hs1,?_⟩
  refine ⟨⟨?_,h2,h3.2,h4.2,fun i hi=>h5 i (by simp [hi])⟩,fun j q hq hj e he hb hc=>?_⟩
  ·rw [he]
   congr 1
   funext j
   unfold offM
   rw [Nat.zero_add]
   by_cases hj:j=r
   ·subst hj
    rw [if_pos rfl]
    have:¬ rs.contains j=true:=by simpa using h3.1
    simpa using this
   ·rw [if_neg hj]
    simp [hj]
  ·by_cases hjr:j=r
   ·subst hjr
    rw [hq] at ho
    cases ho
    exact hni e he hb (by simp [hc])
   ·exact h6 j q hq (by simp [hjr,hj]) e he hb (by simp [hc])
 ·obtain ⟨⟨h1,h2,h3,h4,h5⟩,h6⟩:=hc
  have hsub:(A++B).Sublist (A++r::B):=List.Sublist.append_left (List.sublist_cons_self r B) A
  have hmem:∀ i,i ∈ r::(A++B)↔i ∈ A++r::B:=by
   intro i
   simp
   constructor
   ·rintro (h | h | h) <;> simp [h]
   ·rintro (h | h | h) <;> simp [h]
  refine ⟨⟨?_,h2,?_,?_,fun i hi=>h5 i ((hmem i).1 hi)⟩,fun j q hq hj e he hb hc=>h6 j q hq (fun h=>hj ((hmem j).2 h)) e he hb ((hmem _).1 hc)⟩
  ·rw [h1]
   congr 1
   funext j
   rw [Bool.eq_iff_iff]
   simp
   constructor
   ·rintro (h | h | h) <;> simp [h]
   ·rintro (h | h | h) <;> simp [h]
  ·rw [List.nodup_cons]
   refine ⟨?_,h3.sublist hsub⟩
   rw [List.nodup_append] at h3
   intro hc
   rcases List.mem_append.1 hc with hc | hc
   ·exact h3.2.2 r hc r (by simp) rfl
   ·exact (List.nodup_cons.1 h3.2.1).1 hc
  ·rw [List.pairwise_cons]
   refine ⟨fun b hb=>?_,h4.sublist hsub⟩
   rcases List.mem_append.1 hb with hb | hb
   ·exact hA b hb
   ·rw [List.pairwise_append] at h4
    exact (List.pairwise_cons.1 h4.2.1).1 b hb
 ·have hp:(List.range ops.size).Pairwise (·<·):=List.pairwise_lt_range
  exact hp.imp fun {a b} _=>Classical.em _
 ·refine ⟨⟨?_,rfl,List.nodup_range,?_,fun i hi=>List.mem_range.1 hi⟩,fun j o ho hj=>?_⟩
  ·rw [← h0]
   congr 1
   funext i
   rw [Bool.eq_iff_iff]
   simp
  ·exact List.pairwise_lt_range.imp fun {a b} hab hc=>by
    have:=z963 hback hc
    omega
  ·have:=(Array.getElem?_eq_some_iff.1 ho).1
   exact absurd (List.mem_range.2 this) hj
theorem z473 {id:Nat} (hfol:P.follows .mixedOrders=true) (hback:backB ops=true) (G:(Nat→Bool)→St) (h0:G (fun i=>decide (i<ops.size))=st) (hs:stepsC P ops.toList G ops.toList 0)
  (h:WalkL P rd n J cs k (G fun _=>false) Q):WalkL P rd n J (.region id ops true::cs) k st Q :=
 z583 hfol hback G h0 hs h
end
theorem z70 {P:Program} {rd:Option Nat} {n:Nat} {J:Env} {c:Code} {cs:List Code} {k:Option Nat} {st:St} {Q:Exit→Option Nat→St→Prop} (ds:List Nat) (hw:Weak st (st.head ds [] [])) (h:WalkL P rd n J (c::cs) k (st.head ds [] []) Q) :
  WalkL P rd n J (c::cs) k st Q:=z48 hw h
end Go.Ab
/- Iterators of a second kind: they may keep memory of their own between two elements,and hand on elements from within calls. -/
namespace Go.Ab
open Go.RowKit
def Firm (J:Env) (k:Option Nat) (b o:Own) (w:World):Prop:=∀ w',BelowU b w w'→J k b o w'
theorem Firm.next {J:Env} {k:Option Nat} {b o:Own} {w w':World} (h:Firm J k b o w) (hb:BelowU b w w'):Firm J k b o w':=fun w2 h2=>h w2 (hb.trans h2)
def GivesE (P:Program) (l:Nat) (J:Env) (items:List (List DV)):Prop :=
 ∀ (m kk:Nat) (b o X:Own) (w:World) (vals:Array Value) (row:List DV),items[kk]?=some row→(∀ x,o x→b x)→(∀ x,b x→x<w.heap.size)→Firm J (some kk) b o w →
  (∀ x,X x→¬ b x∧x<w.heap.size)→DRels w (fun x=>o x∨X x) row vals →
  YieldAt (fence none) m P l vals w fun e w'=>∃ t b' o',e=.returned (.bool t)∧(∀ x,o' x→b' x)∧(∀ x,b' x→x<w'.heap.size)∧Firm J (if t then some (kk + 1) else none) b' o' w' ∧
   Stays w o w' o'∧∀ x,X x→¬ b' x
section
variable {P:Program} {base:Own} {out:Own} {st st':St} {μ:Pl} {tmps:Array Value} {w w':World} {o:Oper} {ops:Array Oper} {rd:Option Nat} {n:Nat} {J:Env} {k:Option Nat}
theorem StRel.next (h:StRel P base out st μ tmps w) (hs:w.heap.size≤w'.heap.size) (hk:∀ x,x<w.heap.size→¬ out x→w'.heap[x]?=w.heap[x]?) {b2 o2:Own}
  (ho2:∀ x,o2 x→b2 x) (hb2:∀ x,b2 x→x<w'.heap.size) (hon:∀ x,o2 x→out x∨w.heap.size≤x) (hbn:∀ x,μ.owns x→¬ b2 x):StRel P b2 o2 st μ tmps w':=by
 have hg:Goes w (ownOf out μ) w' (ownOf o2 μ):=fun b o v h1 h2=>by
  have hlt:=z65 h2
  refine ⟨fun hc=>?_,?_⟩
  ·rcases hc with hc | hc
   ·rcases hon b hc with h3 | h3
    ·exact h1 (.inl h3)
    ·omega
   ·exact h1 (.inr hc)
  ·simp only [World.cell?] at h2 ⊢
   rw [hk b hlt (fun hc=>h1 (.inl hc))];exact h2
 refine ⟨h.size,fun i x v h1 h2=>(h.tmp i x v h1 h2).goes hg (fun _ _ _=>rfl),⟨fun m blk hm=>(h.mem.blk m blk hm).goes hg rfl (fun _ _=>rfl) (fun b z l c hb=>?_),h.mem.dom,h.mem.inj,fun m b z l c hb=>?_⟩,h.hid.goes hg,ho2,hb2⟩
 ·have:=h.mem.base m b z l c hb
  exact hk b this.2.1 this.2.2
 ·have:=h.mem.base m b z l c hb
  have hn:=hbn b ⟨m,z,l,c,hb⟩
  exact ⟨hn,Nat.lt_of_lt_of_le this.2.1 hs,fun hc=>hn (ho2 b hc)⟩
theorem StRel.own_base (h:StRel P base out st μ tmps w):∀ x,μ.owns x→¬ base x∧x<w.heap.size:=fun x ⟨m,z,l,c,hm⟩=>⟨(h.mem.base m x z l c hm).1,(h.mem.base m x z l c hm).2.1⟩
def yieldKE (l l':Nat) (items:List (List DV)) (xs:List AV) (dst:Option Tmp) (k:Option Nat) (s:St) (K:Option Nat→St→Prop):Prop :=
 l'=l∧∃ kk row,k=some kk∧reifyAll s xs=some row∧s.arrs (AV.refsAll xs)=true∧items[kk]?=some row ∧
  K (some (kk + 1)) ((releaseAll (AV.refsAll xs) s).put dst (.d (.bool true)))∧K none ((releaseAll (AV.refsAll xs) s).put dst (.d (.bool false)))
theorem z578 (h:StRel P base out st μ tmps w) {l:Nat} {xs:List AV} (hy:yieldOf o st=some (l,xs)) {items:List (List DV)} (hG:GivesE P l J items) {kk:Nat} {row:List DV}
  (hrow:reifyAll st xs=some row) (harr:st.arrs (AV.refsAll xs)=true) (hk:items[kk]?=some row) (hJ:Firm J (some kk) base out w) {ds:List Deferred} {K:Act→World→Prop} {Q:Exit→Act→World→Prop}
  (hK:∀ (t:Bool) b' o' μ' w',StRel P b' o' ((releaseAll (AV.refsAll xs) st).put o.dst (.d (.bool t))) μ' (putT tmps o.dst (.bool t)) w'→Firm J (if t then some (kk + 1) else none) b' o' w'→Stays w (ownOf out μ) w' (ownOf o' μ') →
   K { tmps:=putT tmps o.dst (.bool t),defers:=ds } w'):o.wpIn (fence rd) n P { tmps:=tmps,defers:=ds } w K Q:=by
 refine ⟨fun _ _=>trivial,?_⟩
 unfold yieldOf at hy
 split at hy
 ·rename_i f args ts ho
  split at hy
  ·rename_i l' hev
   cases hy
   have hf:=h.ev f []
   rw [hev] at hf
   have hv:val tmps f=.func (.yield l) #[] #[]:=z982 hf
   have hargs:args.map (val tmps)=(args.toList.map (val tmps)).toArray:=by apply Array.toList_inj.1;simp
   obtain ⟨μ1,h1,hless,hrels⟩:=z238 h (vs:=(args.toList.map (val tmps)).toArray) (by simp) (fun i x v hx hv=>by
    simp only [List.getElem?_map,Option.map_eq_some_iff,List.getElem?_toArray] at hx hv
    obtain ⟨a,ha,rfl⟩:=hx
    obtain ⟨b,hb,rfl⟩:=hv
    rw [ha] at hb;cases hb
    exact h.ev a []) hrow harr
   obtain ⟨fn,tmps1,assign,body,hyr,hround⟩:=hG (n - 1) kk base out μ1.owns w _ row hk h.out h.le hJ h1.own_base hrels
   have hrun:(execOp ({ tmps:=tmps,defers:=ds }:Act).eval o).run P w=.ok (.round l fn tmps1 assign body) w:=by
    unfold execOp
    rw [z36]
    simp only [val] at hv hargs
    simp only [ho,resolve,hargs,hv,Deferred.ofValue,invoke,Sem.run_bind,Sem.run_pure,Result.andThen_ok,Array.empty_append]
    exact hyr
   rw [Oper.semAt_eq _ _ _ (by rw [ho];intro c hc;cases hc),hrun]
   simp only [Oper.uponIn_round]
   have hround':RoundIn (fence rd) (n - 1) P l fn tmps1 assign body w (fun e w'=>∃ t b' o',e=.returned (.bool t)∧(∀ x,o' x→b' x)∧(∀ x,b' x→x<w'.heap.size)∧Firm J (if t then some (kk + 1) else none) b' o' w' ∧
    Stays w out w' o'∧∀ x,μ1.owns x→¬ b' x):=hround
   refine ⟨(fun hsome=>(by cases hsome)),hround'.mono ?_⟩
   rintro e w' ⟨t,b',o',rfl,q1,q2,q3,q4,q5⟩
   simp only [z121]
   have h2:StRel P b' o' (releaseAll (AV.refsAll (args.toList.map st.ev)) st) μ1 tmps w':=h1.next q4.1 (fun x hx hno=>(q4.2 x hx hno).1) q1 q2 (fun x hx=>by
    by_cases hlt:x<w.heap.size
    ·exact .inl (Classical.byContradiction fun hc=>(q4.2 x hlt hc).2 hx)
    ·exact .inr (Nat.le_of_not_lt hlt)) q5
   refine hK t b' o' μ1 w' (h2.put (.d (.bool t)) o.dst) q3 ⟨q4.1,fun x hx hno=>?_⟩
   have hno':¬ out x:=fun hc=>hno (.inl hc)
   refine ⟨(q4.2 x hx hno').1,fun hc=>?_⟩
   rcases hc with hc | hc
   ·exact (q4.2 x hx hno').2 hc
   ·exact hno (hless x (.inr hc))
  ·cases hy
 ·cases hy
theorem z105 {B:Nat} (hO:EnvOk B J) {b o:Own} (hF:Firm J k b o w) (hb:∀ x,b x→x<w.heap.size) {r:Nat} (hr:B≤r) (hno:¬ o r) (ho:Other r w w'):Firm J k b o w':=by
 by_cases hrs:r<w.heap.size
 ·exact z561 hO hF hr hno hrs ho
 ·intro w2 h2
  refine hF w2 ⟨h2.os.trans ho.wrote.os,h2.tape.trans ho.wrote.tape,h2.output.trans ho.wrote.output,by rw [← ho.wrote.size];exact h2.size,fun q hq=>?_⟩
  rw [h2.block q hq]
  exact ho.wrote.block q (fun e=>by have:=hb q hq;omega)
def lendJ (X:Own) (W:World) (J:Env):Env:=fun k b o w=>(∀ x,X x→o x)∧(∀ x,X x→w.heap[x]?=W.heap[x]?)∧(∀ x,o x→b x)∧(∀ x,b x→x<w.heap.size)∧Firm J k (fun x=>b x∧¬ X x) (fun x=>o x∧¬ X x) w
theorem z869 {X:Own} {W:World} {b o:Own} (h1:∀ x,X x→o x) (h2:∀ x,X x→w.heap[x]?=W.heap[x]?) (h3:∀ x,o x→b x) (h4:∀ x,b x→x<w.heap.size) (h5:Firm J k (fun x=>b x∧¬ X x) (fun x=>o x∧¬ X x) w) :
  Firm (lendJ X W J) k b o w:=fun w' hb =>
 ⟨h1,fun x hx=>(hb.block x (h3 x (h1 x hx))).trans (h2 x hx),h3,fun x hx=>Nat.lt_of_lt_of_le (h4 x hx) hb.size,h5.next (hb.mono fun _ h=>h.1)⟩
theorem z534 {a X:Own} (h:∀ x,X x→¬ a x):(fun x=>(a x∨X x)∧¬ X x)=a:=funext fun x=>propext ⟨fun ⟨h1,h2⟩=>h1.resolve_right h2,fun h1=>⟨.inl h1,fun hx=>h x hx h1⟩⟩
theorem z306 {X:Own} {W:World} {b o:Own} (hX:∀ x,X x→¬ b x∧x<w.heap.size) (h2:∀ x,X x→w.heap[x]?=W.heap[x]?) (h3:∀ x,o x→b x) (h4:∀ x,b x→x<w.heap.size) (h5:Firm J k b o w) :
  Firm (lendJ X W J) k (fun x=>b x∨X x) (fun x=>o x∨X x) w :=
 z869 (fun _ h=>.inr h) h2 (fun x h=>h.imp (h3 x) id) (fun x h=>h.elim (h4 x) fun h=>(hX x h).2)
  (by rw [z534 fun x hx=>(hX x hx).1,z534 fun x hx hc=>(hX x hx).1 (h3 x hc)];exact h5)
theorem z378 {B:Nat} (hO:EnvOk B J) (X:Own) (W:World):EnvOk B (lendJ X W J):=fun k b o w w' r hr hno ho ⟨h1,h2,h3,h4,h5⟩ =>
 ⟨h1,fun x hx=>(ho.wrote.block x (fun e=>hno (e ▸ h1 x hx))).trans (h2 x hx),h3,fun x hx=>by rw [ho.wrote.size];exact h4 x hx,
  z105 hO h5 (fun x hx=>h4 x hx.1) hr (fun hc=>hno hc.1) ho⟩
theorem z149 {m l:Nat} {vals:Array Value} {R R':Ending→World→Prop} (h:YieldAt (fence none) m P l vals w R) (hr:∀ e w,R e w→R' e w):YieldAt (fence none) m P l vals w R' :=
 let ⟨fn,t,a,b,h1,h2⟩:=h
 ⟨fn,t,a,b,h1,h2.mono hr⟩
theorem z949 {B B':Nat} (h:B≤B') (hO:EnvOk B J):EnvOk B' J:=fun k b o w w' r hr=>hO k b o w w' r (Nat.le_trans h hr)
theorem z787 {l:Nat} {items:List (List DV)} (hG:GivesE P l J items) (X:Own) (W:World):GivesE P l (lendJ X W J) items:=by
 intro m kk b o X' w vals row hi ho hb hF hX' hrow
 obtain ⟨h1,h2,_,_,h5⟩:=hF w (.refl _ _)
 have hXb:∀ x,X x→b x:=fun x hx=>ho x (h1 x hx)
 refine z149 (hG m kk (fun x=>b x∧¬ X x) (fun x=>o x∧¬ X x) (fun x=>X x∨X' x) w vals row hi (fun x h=>⟨ho x h.1,h.2⟩) (fun x h=>hb x h.1) h5
  (fun x h=>h.elim (fun h=>⟨fun hc=>hc.2 h,hb x (hXb x h)⟩) fun h=>⟨fun hc=>(hX' x h).1 hc.1,(hX' x h).2⟩)
  ⟨hrow.1,fun i d v q1 q2=>(hrow.2 i d v q1 q2).goes fun b o u h3 h4=>⟨fun hc=>h3 (hc.elim (fun h=>.inl h.1) fun h=>h.elim (fun h=>.inl (h1 _ h)) .inr),h4⟩⟩) ?_
 rintro e w' ⟨t,b',o',rfl,q1,q2,q3,q4,q5⟩
 have hX:∀ x,X x→¬ b' x∧x<w'.heap.size:=fun x hx=>⟨q5 x (.inl hx),Nat.lt_of_lt_of_le (hb x (hXb x hx)) q4.1⟩
 refine ⟨t,fun x=>b' x∨X x,fun x=>o' x∨X x,rfl,fun x h=>h.imp (q1 x) id,fun x h=>h.elim (q2 x) fun h=>(hX x h).2,z306 hX (fun x hx=>?_) q1 q2 q3,⟨q4.1,fun x hx hno=>?_⟩,fun x hx=>?_⟩
 ·exact (q4.2 x (hb x (hXb x hx)) (fun hc=>hc.2 hx)).1.trans (h2 x hx)
 ·obtain ⟨p1,p2⟩:=q4.2 x hx (fun hc=>hno hc.1)
  exact ⟨p1,fun hc=>hc.elim p2 fun h=>hno (h1 x h)⟩
 ·rintro (hc | hc)
  ·exact q5 x (.inr hx) hc
  ·exact (hX' x hx).1 (hXb x hc)
def YFn (P:Program) (f:FuncId) (l:Nat) (m0:List Blk) (args:List AV) (items:List (List DV)):Prop:=Enters P f ∧
 ∀ (J:Env) (ITEMS:List (List DV)) (k0:Nat) (w:World) (b own:Own) (μ0:Pl) (vs:Array Value),EnvOk w.heap.size J→GivesE P l J ITEMS→(∀ (i:Nat) row,items[i]?=some row→ITEMS[k0 + i]?=some row) →
  (∀ x,own x→b x)→(∀ x,b x→x<w.heap.size)→MemRel b own w μ0 (m0.map some)→Hid P w (ownOf own μ0)→args.length=vs.size →
  (∀ (i:Nat) x v,args[i]?=some x→vs[i]?=some v→AVRel w (ownOf own μ0) μ0 x v)→Firm J (some k0) b own w →
  Calls P f vs w fun e w'=>∃ t b' o' μ1,e=.returned (.bool t)∧(∀ x,o' x→b' x)∧(∀ x,b' x→x<w'.heap.size)∧MemRel b' o' w' μ1 (m0.map some)∧Firm J (if t then some (k0 + items.length) else none) b' o' w' ∧
   Stays w (ownOf own μ0) w' (ownOf o' μ1)∧∀ i,i<m0.length→μ1 i=μ0 i
def isArr:Blk→Bool
 | .arr .. | .arrP ..=>true
 | _=>false
def handed (st:St):List Nat→Option (List Blk)
 | []=>some []
 | n::ns=>match (st.m[n]?:Option (Option Blk)),handed st ns with
  | some (some b),some l=>if isArr b then some (b::l) else none
  | _,_=>none
theorem z376 {st:St}:∀ {ns:List Nat} {m0:List Blk},handed st ns=some m0→ns.length=m0.length∧∀ (i:Nat) b,m0[i]?=some b→∃ n,ns[i]?=some n∧st.m[n]?=some (some b)∧isArr b=true
 | [],m0,h=>by cases h;exact ⟨rfl,fun i b h=>by simp at h⟩
 | n::ns,m0,h=>by
  unfold handed at h
  split at h
  ·rename_i b l hb hl
   split at h
   ·rename_i ha
    cases h
    obtain ⟨h1,h2⟩:=z376 hl
    refine ⟨by simp [h1],fun i b' hi=>?_⟩
    cases i with
    | zero=>simp at hi;subst hi;exact ⟨n,rfl,hb,ha⟩
    | succ i=>simpa using h2 i b' (by simpa using hi)
   ·cases h
  ·cases h
theorem z373 {b:Blk} (h:isArr b=true) (f:Nat→Option Nat):b.mapN f=b:=by cases b <;> first | rfl | cases h
def callYK (P:Program) (l:Nat) (items:List (List DV)) (o:Oper) (k:Option Nat) (s:St) (K:Option Nat→St→Prop):Prop :=
 ∃ kk,k=some kk∧bindK (callOf o s) fun gx=>∃ (ns:List Nat) (m0:List Blk) (its:List (List DV)),ns.Nodup∧handed s ns=some m0∧YFn P gx.1 l m0 (gx.2.map (AV.mapN (inv ns))) its ∧
  (∀ (i:Nat) row,its[i]?=some row→items[kk + i]?=some row)∧K (some (kk + its.length)) (s.put o.dst (.d (.bool true)))∧K none (s.put o.dst (.d (.bool false)))
theorem z792 (h:StRel P base out st μ tmps w) {l:Nat} {items:List (List DV)} (hG:GivesE P l J items) {B:Nat} (hO:EnvOk B J) (hB:B≤w.heap.size) {kk:Nat} (hJ:Firm J (some kk) base out w)
  {g:FuncId} {xs:List AV} (hc:callOf o st=some (g,xs)) {ns:List Nat} {m0:List Blk} {its:List (List DV)} (hnd:ns.Nodup) (hh:handed st ns=some m0) (hf:YFn P g l m0 (xs.map (AV.mapN (inv ns))) its)
  (hi:∀ (i:Nat) row,its[i]?=some row→items[kk + i]?=some row) {ds:List Deferred} {K:Act→World→Prop} {Q:Exit→Act→World→Prop}
  (hK:∀ (t:Bool) b' o' w',StRel P b' o' (st.put o.dst (.d (.bool t))) μ (putT tmps o.dst (.bool t)) w'→Firm J (if t then some (kk + its.length) else none) b' o' w'→Stays w (ownOf out μ) w' (ownOf o' μ) →
   K { tmps:=putT tmps o.dst (.bool t),defers:=ds } w'):o.wpIn (fence rd) n P { tmps:=tmps,defers:=ds } w K Q:=by
 refine ⟨fun _ _=>trivial,?_⟩
 unfold callOf at hc
 split at hc
 ·rename_i f args ts ho
  obtain ⟨fst,caps,hv,hl,hd⟩:=z569 h hc
  obtain ⟨hln,hget⟩:=z376 hh
  obtain ⟨μ0,hμ0⟩:∃ μ0:Pl,μ0=fun i=>(ns[i]?).bind μ:=⟨_,rfl⟩
  have hμ0i:∀ i n,ns[i]?=some n→μ0 i=μ n:=fun i n hi=>by rw [hμ0];simp [hi]
  have hμ0s:∀ i L,μ0 i=some L→∃ n,ns[i]?=some n∧μ n=some L:=fun i L hi=>by
   rw [hμ0] at hi
   cases hn:ns[i]? with
   | none=>simp [hn] at hi
   | some n=>simp [hn] at hi;exact ⟨n,rfl,hi⟩
  obtain ⟨X,hX⟩:∃ X:Own,X=fun b=>∃ n z l c,n ∉ ns∧μ n=some (.at b z l c):=⟨_,rfl⟩
  have hXm:∀ x,X x→μ.owns x:=fun x hx=>by rw [hX] at hx;obtain ⟨n,z,l,c,_,h2⟩:=hx;exact ⟨n,z,l,c,h2⟩
  have hXb:∀ x,X x→¬ base x∧x<w.heap.size:=fun x hx=>h.own_base x (hXm x hx)
  have hXo:∀ x,X x→¬ out x:=fun x hx hc=>(hXb x hx).1 (h.out x hc)
  have hnb:∀ i b z l c,μ0 i=some (.at b z l c)→¬ (base b∨X b):=by
   rintro i b z l c hi (hc | hc)
   ·obtain ⟨n,_,hn⟩:=hμ0s i _ hi
    exact (h.mem.base n b z l c hn).1 hc
   ·rw [hX] at hc
    obtain ⟨k,z',l',c',h1,h2⟩:=hc
    obtain ⟨n,hn,hn2⟩:=hμ0s i _ hi
    exact h1 (h.mem.inj k n b _ _ _ _ _ _ h2 hn2 ▸ List.mem_of_getElem? hn)
  have hsub:∀ b,ownOf (fun x=>out x∨X x) μ0 b→ownOf out μ b:=by
   rintro b ((hb' | hb') | ⟨i,z,l,c,hi⟩)
   ·exact .inl hb'
   ·exact .inr (hXm b hb')
   ·obtain ⟨n,_,hn⟩:=hμ0s i _ hi;exact .inr ⟨n,z,l,c,hn⟩
  have hless:Goes w (ownOf out μ) w (ownOf (fun x=>out x∨X x) μ0):=fun b o v h1 h2=>⟨fun hc=>h1 (hsub b hc),h2⟩
  have hinv:∀ n,(μ n).isSome→∀ i,inv ns n=some i→μ0 i=μ n:=fun n _ i hi=>hμ0i i n (z76 hi)
  have hM:MemRel (fun x=>base x∨X x) (fun x=>out x∨X x) w μ0 (m0.map some):=by
   refine ⟨fun i b hb=>?_,fun i hi=>?_,fun a k b z l c z' l' c' h1 h2=>?_,fun i b z l c hi=>⟨hnb i b z l c hi,?_,fun hc=>hnb i b z l c hi (hc.imp (h.out b) id)⟩⟩
   ·simp only [List.getElem?_map,Option.map_eq_some_iff,Option.some.injEq] at hb
    obtain ⟨b0,hb0,rfl⟩:=hb
    obtain ⟨n,h1,h2,h3⟩:=hget i b0 hb0
    have:=BlkRel.mapN (n':=i) (.inl hless) (hμ0i i n h1) hinv (fun _ _ _ _ _=>rfl) (h.mem.blk n b0 h2)
    rwa [z373 h3] at this
   ·obtain ⟨L,hL⟩:=Option.isSome_iff_exists.1 hi
    obtain ⟨n,hn,_⟩:=hμ0s i L hL
    have:i<m0.length:=by rw [← hln];exact (List.getElem?_eq_some_iff.1 hn).1
    exact ⟨m0[i],by simp [this]⟩
   ·obtain ⟨n,hn,hμn⟩:=hμ0s a _ h1
    obtain ⟨n',hn',hμn'⟩:=hμ0s k _ h2
    have:=h.mem.inj n n' b _ _ _ _ _ _ hμn hμn'
    subst this
    exact z158 hnd hn hn'
   ·obtain ⟨n,_,hn⟩:=hμ0s i _ hi
    exact z50 h.mem hn
  have hA:∀ (i:Nat) y v,(xs.map (AV.mapN (inv ns)))[i]?=some y→(fst++(args.toList.map (val tmps)).toArray++caps)[i]?=some v→AVRel w (ownOf (fun x=>out x∨X x) μ0) μ0 y v:=by
   intro i y v hy hv
   simp only [List.getElem?_map,Option.map_eq_some_iff] at hy
   obtain ⟨x,hx,rfl⟩:=hy
   exact (hd i x v hx hv).mapN (.inl hless) (fun n _ hs k hk=>hinv n hs k hk)
  have hcalls:=hf.2 (lendJ X w J) items kk w (fun x=>base x∨X x) (fun x=>out x∨X x) μ0 _ (z949 hB (z378 hO X w)) (z787 hG X w) hi (fun x hx=>hx.imp (h.out x) id) (fun x hx=>hx.elim (h.le x) fun h=>(hXb x h).2)
   hM (h.hid.less hsub) (by simpa using hl) hA (z306 hXb (fun _ _=>rfl) h.out h.le hJ)
  have hrun:(execOp ({ tmps:=tmps,defers:=ds }:Act).eval o).run P w=.ok (.enter g (fst++(args.toList.map (val tmps)).toArray++caps)) w:=by
   unfold execOp
   rw [z36]
   have hargs:args.map (val tmps)=(args.toList.map (val tmps)).toArray:=by apply Array.toList_inj.1;simp
   simp only [val] at hv hargs
   simp only [ho,resolve,hargs,hv,Deferred.ofValue,invoke,Sem.run_bind,Sem.run_pure,Result.andThen_ok,Array.empty_append]
   exact hf.1 _ _
  rw [Oper.semAt_eq _ _ _ (by rw [ho];intro c hc;cases hc),hrun]
  simp only [Oper.uponIn_enter]
  refine ⟨(fun hsome=>(by cases hsome)),?_⟩
  have hci:CallsIn (fence rd) (n - 1) P g (fst++(args.toList.map (val tmps)).toArray++caps) w _:=(callsIn_wide (n:=n - 1)).2 hcalls
  refine hci.mono ?_
  rintro e w' ⟨t,b',o',μ1,rfl,q1,q2,q3,q4,q5,q6⟩
  simp only [z121]
  obtain ⟨j1,j2,_,_,j5⟩:=q4 w' (.refl _ _)
  have hpl:∀ n b z l c,μ n=some (.at b z l c)→X b∨∃ i,ns[i]?=some n∧i<m0.length∧μ1 i=some (.at b z l c):=by
   intro n b z l c hn
   by_cases hm:n ∈ ns
   ·obtain ⟨i,hi⟩:=List.mem_iff_getElem?.1 hm
    have hlt:i<m0.length:=by rw [← hln];exact (List.getElem?_eq_some_iff.1 hi).1
    exact .inr ⟨i,hi,hlt,by rw [q6 i hlt,hμ0i i n hi,hn]⟩
   ·exact .inl (by rw [hX];exact ⟨n,z,l,c,hm,hn⟩)
  have hstays:∀ x,x<w.heap.size→¬ ownOf out μ x→w'.heap[x]?=w.heap[x]?∧¬ ownOf (fun x=>o' x∧¬ X x) μ x:=fun x hx hno=>by
   obtain ⟨p1,p2⟩:=q5.2 x hx (fun hc=>hno (hsub x hc))
   exact ⟨p1,fun hc=>hc.elim (fun h=>p2 (.inl h.1)) fun h=>hno (.inr h)⟩
  have hg:Goes w (ownOf out μ) w' (ownOf (fun x=>o' x∧¬ X x) μ):=fun b o v h1 h2=>by
   obtain ⟨p1,p2⟩:=hstays b (z65 h2) h1
   refine ⟨p2,?_⟩
   simp only [World.cell?] at h2 ⊢
   rw [p1];exact h2
  have hown1:∀ x,ownOf (fun x=>o' x∧¬ X x) μ x→ownOf o' μ1 x:=by
   rintro x (hx | ⟨n,z,l,c,hn⟩)
   ·exact .inl hx.1
   ·rcases hpl n x z l c hn with hx | ⟨i,_,_,hi⟩
    ·exact .inl (j1 x hx)
    ·exact .inr ⟨i,z,l,c,hi⟩
  have hst:StRel P (fun x=>b' x∧¬ X x) (fun x=>o' x∧¬ X x) st μ tmps w':=by
   refine ⟨h.size,fun i x v h1 h2=>(h.tmp i x v h1 h2).goes hg (fun _ _ _=>rfl),⟨fun m blk hm=>?_,h.mem.dom,h.mem.inj,fun m b z l c hb=>?_⟩,h.hid.goes hg,fun x hx=>⟨q1 x hx.1,hx.2⟩,fun x hx=>q2 x hx.1⟩
   ·by_cases hmn:m ∈ ns
    ·obtain ⟨i,hi⟩:=List.mem_iff_getElem?.1 hmn
     have hlt:i<m0.length:=by rw [← hln];exact (List.getElem?_eq_some_iff.1 hi).1
     obtain ⟨n2,e1,e2,e3⟩:=hget i m0[i] (List.getElem?_eq_getElem hlt)
     rw [hi] at e1;cases e1
     rw [hm] at e2;cases e2
     have hb1:=q3.blk i m0[i] (by simp [hlt])
     have hμm:μ m=μ1 i:=by rw [q6 i hlt,hμ0i i m hi]
     have:=BlkRel.mapN (μ':=μ) (n':=m) (h:=fun _=>none) (.inl (fun b o v h1 h2=>⟨fun hc=>h1 (hown1 b hc),h2⟩:Goes w' (ownOf o' μ1) w' (ownOf (fun x=>o' x∧¬ X x) μ))) hμm (fun k _ j hj=>by cases hj) (fun _ _ _ _ _=>rfl) hb1
     rwa [z373 e3] at this
    ·refine (h.mem.blk m blk hm).goes hg rfl (fun _ _=>rfl) (fun b z l c hb=>?_)
     have hXx:X b:=by rw [hX];exact ⟨m,z,l,c,hmn,hb⟩
     exact j2 b hXx
   ·rcases hpl m b z l c hb with hx | ⟨i,_,_,hi⟩
    ·exact ⟨fun hc=>hc.2 hx,Nat.lt_of_lt_of_le (hXb b hx).2 q5.1,fun hc=>hc.2 hx⟩
    ·have:=q3.base i b z l c hi
     exact ⟨fun hc=>this.1 hc.1,this.2.1,fun hc=>this.2.2 hc.1⟩
  exact hK t _ _ w' (hst.put (.d (.bool t)) o.dst) j5 ⟨q5.1,hstays⟩
 ·cases hc
end
end Go.Ab
/- Regions that hand on elements;drawn regions that do so at their end;contracts of functions that hand on elements. -/
namespace Go.Ab
open Go.RowKit
def ysB (ys:List Nat) (dst:Option Tmp):Bool:=match dst with
 | some d=>ys.contains d
 | none=>false
theorem z889 (ys:List Nat) (d:Tmp):ysB ys (some d)=ys.contains d:=rfl
theorem z890 (ys:List Nat):ysB ys none=false:=rfl
def stepE (P:Program) (l:Nat) (items:List (List DV)) (ys:List Nat) (o:Oper) (k:Option Nat) (s:St) (K:Option Nat→St→Prop):Prop:=match yieldOf o s with
 | some lx=>yieldKE l lx.1 items lx.2 o.dst k s K
 | none=>match ysB ys o.dst with
  | true=>callYK P l items o k s K
  | false=>stepK P o s (K k)
def guardedEY (P:Program) (l:Nat) (items:List (List DV)) (ys:List Nat) (t:AV) (want:Bool) (o:Oper) (k:Option Nat) (s:St) (K:Option Nat→St→Prop):Prop:=guardK t want (stepE P l items ys o k s K) (K k (s.put o.dst .void))
def guardRunEY (P:Program) (l:Nat) (items:List (List DV)) (ys:List Nat) (t:AV) (want:Bool) (o:Oper) (k:Option Nat) (s:St) (R:Option Nat→St→Prop):Prop:=∀ K':Option Nat→St→Prop,(∀ k s,R k s→K' k s)→guardedEY P l items ys t want o k s K'
def runE (P:Program) (l:Nat) (items:List (List DV)) (ys:List Nat) (ops:Array Oper):List Oper→Option Nat→St→(Option Nat→St→Prop)→Prop
 | [],k,s,K=>K k s
 | o::os,k,s,K=>dstOk o=true∧match guardT ops o with
  | none=>False
  | some none=>stepE P l items ys o k s fun k s=>runE P l items ys ops os k s K
  | some (some (t,want))=>guardRunEY P l items ys (s.ev (.tmp t)) want o k s fun k s=>runE P l items ys ops os k s K
section
variable {P:Program} {base:Own} {out:Own} {st st':St} {μ:Pl} {tmps:Array Value} {w w':World} {o:Oper} {ops:Array Oper} {rd:Option Nat} {n:Nat} {J:Env}
theorem z227 {l:Nat} {items:List (List DV)} {ys:List Nat} {B:Nat} (hG:GivesE P l J items) (hO:EnvOk B J) {ds:List Deferred} {Qm:Exit→Act→World→Prop}:∀ (os:List Oper) (i:Nat) (k:Option Nat) (st:St) (K:Option Nat→St→Prop) (base:Own) (out:Own) (μ:Pl) (tmps:Array Value) (w:World),
  (∀ j o,os[j]?=some o→ops[i + j]?=some o)→runE P l items ys ops os k st K→StRel P base out st μ tmps w→Firm J k base out w→B≤w.heap.size →
  (∀ k' st' base' out' μ' tmps' w',StRel P base' out' st' μ' tmps' w'→Firm J k' base' out' w'→Stays w (ownOf out μ) w' (ownOf out' μ')→Same (opDsts os) tmps tmps'→K k' st'→Qm .normal { tmps:=tmps',defers:=ds } w') →
  wpOpsIn (fence rd) n P ops Qm (List.range' i os.length) { tmps:=tmps,defers:=ds } w
 | [],i,k,st,K,base,out,μ,tmps,w,_,hr,h,hJ,_,hK=>hK k st base out μ tmps w h hJ (.refl _ _) (Same.refl _ _) hr
 | o::os,i,k,st,K,base,out,μ,tmps,w,hos,hr,h,hJ,hB,hK=>by
  rw [List.length_cons,List.range'_succ,wpOpsIn_cons]
  have ho:ops[i]?=some o:=by simpa using hos 0 o (by simp)
  have hos':∀ j o',os[j]?=some o'→ops[i + 1 + j]?=some o':=fun j o' hj=>by have:=hos (j + 1) o' (by simpa using hj);rwa [show i + 1 + j=i + (j + 1) by omega]
  have plain:∀ s',StepG P ops o st s'→dstOk o=true→runE P l items ys ops os k s' K→wpOpIn (fence rd) n P ops Qm i (wpOpsIn (fence rd) n P ops Qm (List.range' (i + 1) os.length)) { tmps:=tmps,defers:=ds } w:=fun s' h1 hd h2 =>
   z99 h ho hd h1 fun tmps' μ' w1 h3 hB1 hSa=>z227 hG hO os (i + 1) k s' K base out μ' tmps' w1 hos' h2 h3 (hJ.next hB1.keep.below) (Nat.le_trans hB hB1.keep.below.size) fun k2 st2 base2 out2 μ2 tmps2 w2 h4 hJ2 hs2 hSa2 hk2 =>
    hK k2 st2 base2 out2 μ2 tmps2 w2 h4 hJ2 (Stays.trans ⟨hB1.keep.below.size,hB1.stays⟩ hs2) (hSa.cons hSa2) hk2
  have yes:Region.wanted o (yielded ops tmps)=true→dstOk o=true→o.guard=none∨(∃ j want t,o.guard=some (j,want)∧(ops[j]?).bind (·.dst)=some t∧st.ev (.tmp t)=.d (.bool want))→stepE P l items ys o k st (fun k s=>runE P l items ys ops os k s K) →
    wpOpIn (fence rd) n P ops Qm i (wpOpsIn (fence rd) n P ops Qm (List.range' (i + 1) os.length)) { tmps:=tmps,defers:=ds } w:=by
   intro hw hd hgd hstep
   unfold stepE at hstep
   split at hstep
   ·rename_i lx hy
    obtain ⟨l',xs⟩:=lx
    obtain ⟨rfl,kk,row,rfl,hrow,harr,hk,ht,hf⟩:=hstep
    unfold wpOpIn
    simp only [ho,hw,if_true]
    refine z578 h hy hG hrow harr hk hJ fun b b' o' μ' w1 h3 hJ1 hs1=>?_
    refine z227 hG hO os (i + 1) (if b then some (kk + 1) else none) _ K b' o' μ' _ w1 hos' (by cases b;exact hf;exact ht) h3 hJ1 (Nat.le_trans hB hs1.1) fun k2 st2 base2 out2 μ2 tmps2 w2 h4 hJ2 hs2 hSa2 hk2 =>
     hK k2 st2 base2 out2 μ2 tmps2 w2 h4 hJ2 (hs1.trans hs2) ((z132 tmps o.dst _).cons hSa2) hk2
   ·split at hstep
    ·obtain ⟨kk,rfl,⟨g,xs⟩,hc,ns,m0,its,hnd,hh,hf,hi,ht,hff⟩:=hstep
     unfold wpOpIn
     simp only [ho,hw,if_true]
     refine z792 h hG hO hB hJ hc hnd hh hf hi fun b b' o' w1 h3 hJ1 hs1=>?_
     refine z227 hG hO os (i + 1) (if b then some (kk + its.length) else none) _ K b' o' μ _ w1 hos' (by cases b;exact hff;exact ht) h3 hJ1 (Nat.le_trans hB hs1.1) fun k2 st2 base2 out2 μ2 tmps2 w2 h4 hJ2 hs2 hSa2 hk2 =>
      hK k2 st2 base2 out2 μ2 tmps2 w2 h4 hJ2 (hs1.trans hs2) ((z132 tmps o.dst _).cons hSa2) hk2
    ·obtain ⟨s1,h1,h2⟩:=z126 hstep
     refine plain s1 ?_ hd h2
     unfold StepG
     rcases hgd with hg | ⟨j,want,t,hg,ht,hev⟩
     ·rw [hg];exact h1
     ·rw [hg];exact ⟨t,ht,.inl ⟨hev,h1⟩⟩
  obtain ⟨hd,hr⟩:=hr
  cases hg:guardT ops o with
  | none=>rw [hg] at hr;exact hr.elim
  | some g =>
   rw [hg] at hr
   cases g with
   | none =>
    have hgp:=z162 hg
    exact yes (by simp [Region.wanted,hgp]) hd (.inl hgp) hr
   | some tw =>
    obtain ⟨t,want⟩:=tw
    obtain ⟨j,hj,ht⟩:=z138 hg
    have hr:guardedEY P l items ys (st.ev (.tmp t)) want o k st (fun k s=>runE P l items ys ops os k s K):=hr _ fun k s hs=>hs
    unfold guardedEY guardK at hr
    split at hr
    ·rename_i b hev
     by_cases hb:b=want
     ·subst hb
      refine yes ?_ hd (.inr ⟨j,b,t,hj,ht,hev⟩) (hr.1 rfl)
      obtain ⟨v,hv,hrel⟩:=z390 h hev (by simp)
      have:=z77 hrel
      subst this
      have:yielded ops tmps j=some b:=by unfold yielded;rw [ht];simp [hv]
      simp [Region.wanted,hj,this]
     ·have hb':b=!want:=by cases b <;> cases want <;> simp_all
      exact plain _ (by unfold StepG;rw [hj];exact ⟨t,ht,.inr ⟨.inl (by rw [hev,hb']),rfl⟩⟩) hd (hr.2 hb')
    ·rename_i hev
     exact plain _ (by unfold StepG;rw [hj];exact ⟨t,ht,.inr ⟨.inr hev,rfl⟩⟩) hd hr
    ·exact hr.elim
theorem z467 {l:Nat} {items:List (List DV)} (hG:GivesE P l J items) (ys:List Nat) {id:Nat} {k:Option Nat} {Q:Exit→Option Nat→St→Prop} (h:runE P l items ys ops ops.toList k st (Q .normal)) :
  Walk P rd n J (.region id ops false) k st Q:=fun B base out μ tmps w ds hO hst hJ hM=>by
 refine wpIn_region ?_
 have:=z227 (n:=n) (rd:=rd) hG hO (ds:=ds) (Qm:=Ends P J B (dsts (.region id ops false)) (ownOf out μ) tmps w Q) ops.toList 0 k st (Q .normal) base out μ tmps w (fun j o hj=>by simpa using hj) h hst hJ hM.1
  (fun k' st' base' out' μ' tmps' w' h1 hJ' hs hSa hk=>⟨k',st',base',out',μ',h1,hJ',hM.stays hs,hs,hSa,hk⟩)
 rw [List.range_eq_range']
 simpa using this
theorem z388 {l:Nat} {items:List (List DV)} (hG:GivesE P l J items) (ys:List Nat) {id:Nat} {k:Option Nat} {cs:List Code} {Q:Exit→Option Nat→St→Prop}
  (h:∀ K:Option Nat→St→Prop,(∀ k s,WalkL P rd n J cs k s Q→K k s)→runE P l items ys ops ops.toList k st K):WalkL P rd n J (.region id ops false::cs) k st Q :=
 z467 hG ys (h _ fun _ _ h=>h)
theorem z713 {Q:Exit→Act→World→Prop} {ρ:Type} (ix:ρ→Nat) (I:ρ→ρ→Prop) (C:List ρ→St→St→Prop) (hCn:∀ s s',C [] s s'→s=s')
  (hCc:∀ r rs s s',C (r::rs) s s'→∃ o s1,ops[ix r]?=some o∧dstOk o=true∧StepG P ops o s s1∧C rs s1 s') (hCb:∀ r B s s' A,(∀ a ∈ A,I a r)→C (A++r::B) s s'→C (r::(A++B)) s s')
  (hback:backB ops=true) (p:Nat) (htail:∀ i j,i<p→p≤j→j<ops.size→Anc ops i j) (f:Nat) {ds:List Deferred}:∀ (fuel:Nat) (listed:Array Bool) (rs:List ρ) (st:St) (μ:Pl) (tmps:Array Value) (w:World),
  rs.length=fuel→(rs.map ix).Pairwise (·<·)→listed.size=ops.size→(∀ i,i ∈ rs.map ix↔i<p∧listed[i]?=some false)→(∀ j,p≤j→j<ops.size→listed[j]?=some false) →
  (∀ (k:Nat) o,ops[k]?=some o→listed[k]?=some true→∀ e ∈ o.after,Region.binds .any e=true→listed[e.on]?=some true) →
  rs.Pairwise (fun a b=>Anc ops (ix a) (ix b)∨I a b)→C rs st st'→StRel P base out st μ tmps w →
  (∀ listed' tmps' μ' w',listed'.size=ops.size→(∀ i,i<p→i<ops.size→listed'[i]?=some true)→(∀ j,p≤j→j<ops.size→listed'[j]?=some false)→StRel P base out st' μ' tmps' w'→KeepO base (ownOf out μ) w (ownOf out μ') w' →
   Same (opDsts ops.toList) tmps tmps'→wpAnyIn (fence rd) n P .any ops Q f listed' { tmps:=tmps',defers:=ds } w') →
  wpAnyIn (fence rd) n P .any ops Q (f + fuel) listed { tmps:=tmps,defers:=ds } w:=by
 intro fuel
 induction fuel with
 | zero =>
  intro listed rs st μ tmps w hlen hsort hsize hmem htl hclosed hpairs hchain h hK
  have hnil:rs=[]:=List.eq_nil_of_length_eq_zero hlen
  subst hnil
  obtain rfl:=hCn _ _ hchain
  refine hK listed tmps μ w hsize (fun i hi hs=>?_) htl h (KeepO.refl _ _ _) (Same.refl _ _)
  have hl:i<listed.size:=by omega
  have:=mt (hmem i).2 (by simp)
  cases hb:listed[i] with
  | true=>simp [hl,hb]
  | false=>exact absurd ⟨hi,by simp [hl,hb]⟩ this
 | succ fuel ih =>
  intro listed rs st μ tmps w hlen hsort hsize hmem htl hclosed hpairs hchain h hK
  refine ⟨fun hready=>?_,fun i hi=>?_⟩
  ·cases rs with
   | nil=>simp at hlen
   | cons r rs =>
    exfalso
    obtain ⟨o,s1,ho,hd,hl,ht⟩:=hCc _ _ _ _ hchain
    obtain ⟨hrp,hun⟩:=(hmem (ix r)).1 (by simp)
    have:ix r ∈ Region.ready .any ops listed:=by
     refine mem_ready.2 ⟨by simp [hun],o,ho,fun e he hb=>?_⟩
     have hlt:=z115 hback ho he hb
     have hel:e.on<listed.size:=by
      rw [hsize]
      have:=(Array.getElem?_eq_some_iff.1 ho).1
      omega
     have hnot:e.on ∉ (r::rs).map ix:=by
      simp only [List.map_cons,List.mem_cons,not_or]
      refine ⟨by omega,fun hc=>?_⟩
      simp only [List.map_cons,List.pairwise_cons] at hsort
      have:=hsort.1 _ hc
      omega
     have hb':listed[e.on]≠false:=fun hc=>hnot ((hmem e.on).2 ⟨by omega,by simp [hel,hc]⟩)
     simp [hel]
     simpa using hb'
    rw [hready] at this
    cases this
  ·obtain ⟨h1,o,ho,z47⟩:=mem_ready.1 hi
   have hil:i<listed.size:=by rw [hsize];exact (Array.getElem?_eq_some_iff.1 ho).1
   have hun:listed[i]?=some false:=by
    simp [hil] at h1 ⊢
    exact h1
   have hanc0:∀ a b,Anc ops a b→listed[b]?=some true∨b=i→listed[a]?=some true:=by
    intro a b hab
    induction hab with
    | edge ho' he hb =>
     rintro (hk | rfl)
     ·exact hclosed _ _ ho' hk _ he hb
     ·rw [ho] at ho'
      cases ho'
      have:=z47 _ he hb
      simp only [Array.getD_eq_getD_getElem?] at this
      cases hk:listed[(_:Nat)]? with
      | none=>rw [hk] at this;cases this
      | some b=>rw [hk] at this;simp at this;rw [this]
    | step h1 h2 ih1 ih2=>intro hk;exact ih1 (.inl (ih2 hk))
   have hip:i<p:=by
    refine Classical.byContradiction fun hge=>?_
    cases rs with
    | nil=>simp at hlen
    | cons r rs =>
     obtain ⟨hrp,hur⟩:=(hmem (ix r)).1 (by simp)
     have:=hanc0 (ix r) i (htail (ix r) i hrp (by omega) (by omega)) (.inr rfl)
     rw [hur] at this
     cases this
   have hin:=(hmem i).2 ⟨hip,hun⟩
   simp only [List.mem_map] at hin
   obtain ⟨r,hr,rfl⟩:=hin
   obtain ⟨A,B,rfl⟩:=List.append_of_mem hr
   have hA:∀ a ∈ A,I a r:=by
    intro a ha
    rw [List.pairwise_append] at hpairs
    rcases hpairs.2.2 a ha r (by simp) with hc | hc
    ·exfalso
     have h2:=hanc0 _ _ hc (.inr rfl)
     have h3:=((hmem (ix a)).1 (by simp only [List.mem_map];exact ⟨a,by simp [ha],rfl⟩)).2
     rw [h2] at h3
     cases h3
    ·exact hc
   obtain ⟨o',s1,ho',hd,hl,ht⟩:=hCc _ _ _ _ (hCb r B st st' A hA hchain)
   rw [ho] at ho'
   cases ho'
   refine z99 h ho hd hl (fun tmps' μ' w' h2 hB hS=>?_)
   have hsub:(A++B).Sublist (A++r::B):=List.Sublist.append_left (List.sublist_cons_self r B) A
   refine ih (listed.setIfInBounds (ix r) true) (A++B) _ μ' tmps' w' (by simp at hlen ⊢;omega) (hsort.sublist (hsub.map _)) (by simp [hsize]) (fun k=>?_) (fun j hj hs=>?_) (fun k o' hk hlk e he hb=>?_) (hpairs.sublist hsub) ht h2
    (fun listed2 tmps2 μ2 w2 g1 g2 g3 h3 hB2 hS2=>hK listed2 tmps2 μ2 w2 g1 g2 g3 h3 (hB.trans hB2) (hS.within hS2 (z231 (os:=ops.toList) (by simpa using Array.mem_of_getElem? ho))))
   ·rw [Array.getElem?_setIfInBounds]
    by_cases hk:ix r=k
    ·subst hk
     simp only [if_true,hil]
     constructor
     ·intro hc
      exfalso
      rw [List.map_append,List.pairwise_append] at hsort
      simp only [List.map_append,List.mem_append] at hc
      rcases hc with hc | hc
      ·have:=hsort.2.2 _ hc (ix r) (by simp);omega
      ·have:=hsort.2.1
       simp only [List.map_cons,List.pairwise_cons] at this
       have:=this.1 _ hc;omega
     ·intro hc;cases hc.2
    ·rw [if_neg hk,← hmem k]
     simp only [List.map_append,List.map_cons,List.mem_append,List.mem_cons]
     constructor
     ·rintro (hc | hc)
      ·exact .inl hc
      ·exact .inr (.inr hc)
     ·rintro (hc | rfl | hc)
      ·exact .inl hc
      ·exact absurd rfl hk
      ·exact .inr hc
   ·rw [Array.getElem?_setIfInBounds,if_neg (by omega)]
    exact htl j hj hs
   ·have hon:listed[e.on]?=some true:=by
     rw [Array.getElem?_setIfInBounds] at hlk
     by_cases hkr:ix r=k
     ·subst hkr
      rw [ho] at hk
      cases hk
      have:=z47 e he hb
      simp only [Array.getD_eq_getD_getElem?] at this
      cases hk2:listed[e.on]? with
      | none=>rw [hk2] at this;cases this
      | some b=>rw [hk2] at this;simp at this;rw [this]
     ·rw [if_neg hkr] at hlk
      exact hclosed k o' hk hlk e he hb
    rw [Array.getElem?_setIfInBounds]
    split
    ·first | rfl | (split <;> simp_all)
    ·exact hon
theorem z184:∀ {os:List Oper} (p:Nat) {i:Nat},i ∈ opDsts (os.drop p)→i ∈ opDsts os
 | [],p,i,h=>by simpa using h
 | o::os,0,i,h=>h
 | o::os,p + 1,i,h=>by
  have:=z184 (os:=os) p (by simpa using h)
  unfold opDsts
  split
  ·exact List.mem_cons_of_mem _ this
  ·exact this
theorem z460 {Q:Exit→Act→World→Prop} (hback:backB ops=true) {p:Nat} (htail:∀ i j,i<j→p≤j→j<ops.size→Anc ops i j):∀ (r q:Nat) (listed:Array Bool) (a:Act) (w:World),q + r=ops.size→p≤q→listed.size=ops.size →
  (∀ i,i<q→listed[i]?=some true)→(∀ j,q≤j→j<ops.size→listed[j]?=some false)→wpOpsIn (fence rd) n P ops Q (List.range' q r) a w→wpAnyIn (fence rd) n P .any ops Q r listed a w
 | 0,q,listed,a,w,hq,_,hs,h1,_,h=>by
  refine ⟨List.eq_nil_iff_forall_not_mem.2 fun j hj=>?_,h⟩
  obtain ⟨g1,o,ho,_⟩:=mem_ready.1 hj
  have hlt:=(Array.getElem?_eq_some_iff.1 ho).1
  have:=h1 j (by omega)
  simp [this] at g1
 | r + 1,q,listed,a,w,hq,hp,hs,h1,h2,h=>by
  rw [List.range'_succ,wpOpsIn_cons] at h
  have hqs:q<ops.size:=by omega
  refine ⟨fun hready=>?_,fun i hi=>?_⟩
  ·exfalso
   have:q ∈ Region.ready .any ops listed:=by
    refine mem_ready.2 ⟨by simp [h2 q (Nat.le_refl _) hqs],ops[q],by simp [hqs],fun e he hb=>?_⟩
    have hlt:=z115 hback (by simp [hqs]:ops[q]?=some ops[q]) he hb
    simp [h1 e.on hlt]
   rw [hready] at this
   cases this
  ·obtain ⟨g1,o,ho,z47⟩:=mem_ready.1 hi
   have his:i<ops.size:=(Array.getElem?_eq_some_iff.1 ho).1
   have hiq:q≤i:=by
    refine Classical.byContradiction fun hc=>?_
    have:=h1 i (by omega)
    simp [this] at g1
   have hei:i=q:=by
    refine Classical.byContradiction fun hc=>?_
    have hanc0:∀ a b,Anc ops a b→listed[b]?=some true∨b=i→listed[a]?=some true:=by
     intro a b hab
     induction hab with
     | edge ho' he hb =>
      rintro (hk | rfl)
      ·have hlt:=z115 hback ho' he hb
       refine h1 _ ?_
       refine Nat.lt_of_lt_of_le hlt (Nat.le_of_not_lt fun hc=>?_)
       have:=h2 _ (Nat.le_of_lt hc) (Array.getElem?_eq_some_iff.1 ho').1
       rw [this] at hk
       cases hk
      ·rw [ho] at ho'
       cases ho'
       have:=z47 _ he hb
       simp only [Array.getD_eq_getD_getElem?] at this
       cases hk:listed[(_:Nat)]? with
       | none=>rw [hk] at this;cases this
       | some b=>rw [hk] at this;simp at this;rw [this]
     | step h1 h2 ih1 ih2=>intro hk;exact ih1 (.inl (ih2 hk))
    have:=hanc0 q i (htail q i (by omega) (by omega) his) (.inr rfl)
    rw [h2 q (Nat.le_refl _) hqs] at this
    cases this
   subst hei
   refine wpOpIn_mono (fun a w hk=>?_) h
   refine z460 hback htail r (i + 1) _ a w (by omega) (by omega) (by simp [hs]) (fun j hj=>?_) (fun j hj hjs=>?_) hk
   ·rw [Array.getElem?_setIfInBounds]
    by_cases hji:i=j
    ·subst hji;simp [hs,his]
    ·rw [if_neg hji];exact h1 j (by omega)
   ·rw [Array.getElem?_setIfInBounds,if_neg (by omega)]
    exact h2 j (by omega) hjs
def ancAll (mk:List Nat) (j:Nat):Nat→Bool
 | 0=>true
 | i + 1=>(mk.getD j 0).testBit i && ancAll mk j i
theorem z320 {mk:List Nat} {j:Nat}:∀ {m i:Nat},ancAll mk j m=true→i<m→(mk.getD j 0).testBit i=true
 | 0,i,_,h=>by omega
 | m + 1,i,h,hi=>by
  rw [ancAll,Bool.and_eq_true] at h
  by_cases he:i=m
  ·subst he;exact h.1
  ·exact z320 h.2 (by omega)
def tailB (ops:Array Oper) (p:Nat):Bool:=(List.range ops.size).all fun j=>decide (j<p) || ancAll (masks ops.toList []) j j
theorem z165 {p:Nat} (h:tailB ops p=true):∀ i j,i<j→p≤j→j<ops.size→Anc ops i j:=fun i j hij hp hj=>by
 simp only [tailB,List.all_eq_true,List.mem_range] at h
 have:=h j hj
 simp only [Bool.or_eq_true,decide_eq_true_eq] at this
 exact z128 ops.toList [] (fun k i hk=>by simp at hk) (fun k o hk=>by simpa using hk) j i (z320 (this.resolve_left (by omega)) hij)
theorem z582 {l:Nat} {items:List (List DV)} (hG:GivesE P l J items) (ys:List Nat) (p:Nat) {id:Nat} {k:Option Nat} {Q:Exit→Option Nat→St→Prop} (hfol:P.follows .mixedOrders=true) (hback:backB ops=true) (hp:tailB ops p=true) (hps:p≤ops.size)
  (h:runD P ops (ops.toList.take p) 0 [] st fun s=>runE P l items ys ops (ops.toList.drop p) k s (Q .normal)):Walk P rd n J (.region id ops true) k st Q:=fun B base out μ tmps w ds hO hst hJ hM=>by
 obtain ⟨rs,s1,hch,hrs,hpr,hrest⟩:=z169 (ops.toList.take p) 0 [] st _ (fun j o hj=>by
  rw [List.getElem?_take] at hj
  split at hj
  ·simpa using hj
  ·cases hj) h
 have hrl:rs.map (·.i)=List.range p:=by rw [hrs,List.range_eq_range'];simp [hps]
 have hlen:rs.length=p:=by have:=congrArg List.length hrl;simpa using this
 refine wpIn_region_any hfol ?_
 have hB0:Below w.heap.size w { w with drawn:=w.drawn + 1 }:=(Below.refl _ w).drew
 have hsz:ops.size=(ops.size - p) + p:=by omega
 conv=>arg 7;rw [hsz]
 have hpairs:=z229 (fun k i=>z128 ops.toList [] (fun k i hk=>by simp at hk) (fun k o hk=>by simpa using hk) k i) (by simpa using hpr:pairsB ops (masks ops.toList []) (rs.map Rec.key)=true)
 refine z713 (·.i) (fun a b=>indepB ops a.key b.key=true) (Chain P ops) (fun _ _ h=>by cases h;rfl) (fun r rs s s' h=>by cases h with | cons ho hd hl ht=>exact ⟨_,_,ho,hd,hl.1.step,ht⟩) (fun r B s s' A hA h=>z878 A s hA h)
  hback p (fun i j hi hj hs=>z165 hp i j (by omega) hj hs) (ops.size - p) p _ rs st μ tmps _ hlen (by rw [hrl];exact List.pairwise_lt_range) (by simp) (fun i=>?_) (fun j hj hs=>by simp [hs]) (fun k o ho hk=>?_) hpairs hch (hst.below hB0) (fun listed' tmps' μ' w' g1 g2 g3 h1 hB hS=>?_)
 ·rw [hrl]
  simp only [List.mem_range,Array.getElem?_replicate]
  constructor
  ·intro hi;exact ⟨hi,by rw [if_pos (by omega)]⟩
  ·intro hi;exact hi.1
 ·simp only [Array.getElem?_replicate] at hk
  split at hk <;> simp at hk
 ·have hB1:=(KeepO.below (own:=ownOf out μ) hB0 hst.le).trans hB
  refine z460 hback (z165 hp) (ops.size - p) p listed' _ w' (by omega) (Nat.le_refl _) g1 (fun i hi=>g2 i hi (by omega)) g3 ?_
  have hst1:Stays w (ownOf out μ) w' (ownOf out μ'):=⟨hB1.keep.below.size,hB1.stays⟩
  have:=z227 (n:=n) (rd:=rd) hG hO (ds:=ds) (Qm:=Ends P J B (dsts (.region id ops true)) (ownOf out μ) tmps w Q) (ops.toList.drop p) p k s1 (Q .normal) base out μ' tmps' w' (fun j o hj=>by simpa [List.getElem?_drop] using hj) hrest h1 (Firm.next hJ hB1.keep.below) (Nat.le_trans hM.1 hst1.1)
   (fun k' st' base' out' μ2 tmps2 w2 h2 hJ' hs hSa hk=>⟨k',st',base',out',μ2,h2,hJ',hM.stays (hst1.trans hs),hst1.trans hs,hS.trans (hSa.mono fun i hi=>?_),hk⟩)
  ·simpa using this
  ·exact z184 p hi
theorem z246 {l:Nat} {items:List (List DV)} (hG:GivesE P l J items) (ys:List Nat) (p:Nat) {id:Nat} {k:Option Nat} {cs:List Code} {Q:Exit→Option Nat→St→Prop} (hfol:P.follows .mixedOrders=true) (hback:backB ops=true) (hp:tailB ops p=true) (hps:p≤ops.size)
  (h:∀ K:Option Nat→St→Prop,(∀ k s,WalkL P rd n J cs k s Q→K k s)→runD P ops (ops.toList.take p) 0 [] st fun s=>runE P l items ys ops (ops.toList.drop p) k s K):WalkL P rd n J (.region id ops true::cs) k st Q :=
 z582 hG ys p hfol hback hp hps (h _ fun _ _ h=>h)
end
end Go.Ab
/- Contracts of iterators of the second kind,and of functions that hand on elements;the range over such an iterator. -/
namespace Go.Ab
open Go.RowKit
section
variable {P:Program} {base:Own} {out:Own} {st st':St} {μ:Pl} {tmps:Array Value} {w w':World} {J:Env} {k:Option Nat} {B:Nat}
theorem z558 {b o:Own} (h:Firm J k b o w):Firm (Firm J) k b o w:=fun _ hb=>h.next hb
theorem z987 {b o:Own} (h:Firm (Firm J) k b o w):Firm J k b o w:=h w (.refl _ _)
theorem z379 (hO:EnvOk B J):EnvOk B (Firm J):=fun k b o w w' r hr hno ho hF=>by
 by_cases hrs:r<w.heap.size
 ·exact z561 hO hF hr hno hrs ho
 ·intro w2 h2
  refine hF w2 ⟨h2.os.trans ho.wrote.os,h2.tape.trans ho.wrote.tape,h2.output.trans ho.wrote.output,by rw [← ho.wrote.size];exact h2.size,fun q hq=>?_⟩
  rw [h2.block q hq]
  by_cases he:q=r
  ·subst he
   rw [Array.getElem?_eq_none (Nat.le_of_not_lt hrs),Array.getElem?_eq_none (by rw [ho.wrote.size];exact Nat.le_of_not_lt hrs)]
  ·exact ho.wrote.block q he
theorem z788 {l:Nat} {items:List (List DV)} (hG:GivesE P l J items):GivesE P l (Firm J) items:=by
 intro m kk b o X w vals row hi ho hb hF hX hrow
 refine z149 (hG m kk b o X w vals row hi ho hb (z987 hF) hX hrow) ?_
 rintro e w' ⟨t,b',o',rfl,q1,q2,q3,q4,q5⟩
 exact ⟨t,b',o',rfl,q1,q2,z558 q3,q4,q5⟩
def IterE (P:Program) (f:FuncId) (m0:List Blk) (args:Nat→List AV) (items:List (List DV)):Prop:=Enters P f ∧
 ∀ (l:Nat) (J:Env) (w:World) (b own:Own) (μ0:Pl) (vs:Array Value),EnvOk w.heap.size J→GivesE P l J items→(∀ x,own x→b x)→(∀ x,b x→x<w.heap.size)→MemRel b own w μ0 (m0.map some)→Hid P w (ownOf own μ0)→(args l).length=vs.size →
  (∀ (i:Nat) x v,(args l)[i]?=some x→vs[i]?=some v→AVRel w (ownOf own μ0) μ0 x v)→Firm J (some 0) b own w →
  Calls P f vs w fun e w'=>∃ v b' o',e=.returned v∧(∀ x,o' x→b' x)∧(∀ x,b' x→x<w'.heap.size)∧(Firm J (some items.length) b' o' w'∨Firm J none b' o' w')
theorem z783 {f:FuncId} {fn:Func} {c:Code} {m0:List Blk} {args:Nat→List AV} {items:List (List DV)} (M:Nat) (he:∀ args w,(callFunc f args).run P w=.ok (.enter f args) w) (hf:P.funcs[f]?=some fn) (hb:fn.body=some c) (h4:fn.results=#[])
  (hw:∀ l J,GivesE P l J items→WalkL P none 0 J [c] (some 0) (St.startG m0 (args l) fn.ntmps M) (fun e k _=>endsOk e∧(k=some items.length∨k=none))):IterE P f m0 args items:=by
 refine ⟨he,fun l J w b own μ0 vs hO hG hown hle hM hh hl ha hJ=>?_⟩
 have hst0:=z225 (nt:=fn.ntmps) M hown hle hM hh hl ha
 refine z79 hf hb (by rw [h4];simp) hst0 (z55 (hw l (Firm J) (z788 hG))) (z379 hO) (z558 hJ) fun e k s hq=>?_
 refine ⟨hq.1,.tup [],by simp [resultsA,h4,allSome,retA],fun base' out' μ tmps v w' hst _ hj _ _=>⟨v,base',out',rfl,hst.out,hst.le,?_⟩⟩
 rcases hq.2 with rfl | rfl
 ·exact .inl hj
 ·exact .inr hj
def nameV:AV→Option Nat
 | .vh n _ | .vc n _=>some n
 | _=>none
theorem z528 {own:Own} {x:AV} {n:Nat} {v:Value} (h:nameV x=some n) (hx:AVRel w own μ x v):∃ b z c len,μ n=some (.at b z c c)∧v=.slice (some ⟨b,0,none⟩) len c:=by
 cases hx with
 | vh len h1 _=>cases h;exact ⟨_,_,_,_,h1,rfl⟩
 | vc len h1 _=>cases h;exact ⟨_,_,_,_,h1,rfl⟩
 | _=>cases h
def pinsY (m0:List Blk) (args:List AV) (M:Nat) (s:St):List Nat→Nat→Prop
 | [],_=>True
 | p::ps,i=>(match args[p]?,(s.t[p]?:Option AV),m0[i]?,(s.m[M + i]?:Option (Option Blk)) with
  | some x,some y,some (.arrP e z rows),some (some (.arrP e' z' rows'))=>nameV x=some i∧nameV y=some (M + i)∧e=e'∧z=z'∧rows=rows'
  | _,_,_,_=>False)∧pinsY m0 args M s ps (i + 1)
theorem z513 {m0:List Blk} {args:List AV} {M:Nat} {s:St}:∀ {ps:List Nat} {i0:Nat},pinsY m0 args M s ps i0→∀ (j p:Nat),ps[j]?=some p →
  ∃ x y e z rows,args[p]?=some x∧s.t[p]?=some y∧m0[i0 + j]?=some (.arrP e z rows)∧s.m[M + (i0 + j)]?=some (some (.arrP e z rows))∧nameV x=some (i0 + j)∧nameV y=some (M + (i0 + j))
 | [],_,_,j,p,h=>by simp at h
 | q::ps,i0,h,j,p,hj=>by
  obtain ⟨h1,h2⟩:=h
  cases j with
  | zero =>
   simp at hj;subst hj
   split at h1
   ·rename_i e1 e2 e3 e4
    obtain ⟨a1,a2,rfl,rfl,rfl⟩:=h1
    exact ⟨_,_,_,_,_,e1,e2,e3,e4,a1,a2⟩
   ·exact h1.elim
  | succ j =>
   have:=z513 h2 j p (by simpa using hj)
   rwa [show i0 + 1 + j=i0 + (j + 1) by omega] at this
def retY (P:Program) (rs:Array ResultVar) (m0:List Blk) (args:List AV) (M:Nat) (ps:List Nat) (items:List (List DV)) (ex:Exit) (k:Option Nat) (s:St):Prop :=
 endsOk ex∧bindK (resultsA P s rs) fun x=>match x with
  | .d (.bool t)=>(k=if t then some items.length else none)∧pinsY m0 args M s ps 0
  | _=>False
theorem z262 {f:FuncId} {fn:Func} {c:Code} {l:Nat} {m0:List Blk} {args:List AV} {items:List (List DV)} (M:Nat) (he:∀ args w,(callFunc f args).run P w=.ok (.enter f args) w) (hf:P.funcs[f]?=some fn) (hb:fn.body=some c) (h4:fn.results.size≤4)
  (ps:List Nat) (hps:ps.length=m0.length) (hD:ps.all (fun q=>!(dsts c).contains q)=true)
  (hw:∀ J ITEMS,GivesE P l J ITEMS→(∀ (i:Nat) row,items[i]?=some row→ITEMS[i]?=some row)→WalkL P none 0 J [c] (some 0) (St.startG m0 args fn.ntmps M) (retY P fn.results m0 args M ps items)):YFn P f l m0 args items:=by
 refine ⟨he,fun J ITEMS k0 w b own μ0 vs hO hG hit hown hle hM hh hl ha hJ=>?_⟩
 have hst0:=z225 (nt:=fn.ntmps) M hown hle hM hh hl ha
 obtain ⟨μs,hμs⟩:∃ μs:Pl,μs=fun k=>if M≤k then μ0 (k - M) else none:=⟨_,rfl⟩
 rw [← hμs] at hst0
 have hs0:∀ x,ownOf own μs x↔ownOf own μ0 x:=by
  intro x
  rw [hμs]
  constructor
  ·rintro (h | ⟨n,z,l,c,h⟩)
   ·exact .inl h
   ·dsimp only at h;split at h
    ·exact .inr ⟨_,z,l,c,h⟩
    ·cases h
  ·rintro (h | ⟨n,z,l,c,h⟩)
   ·exact .inl h
   ·exact .inr ⟨M + n,z,l,c,by simp [h]⟩
 -- phases from none on
 obtain ⟨J',hJ'⟩:∃ J':Env,J'=fun k b o w=>Firm J (k.map (· + k0)) b o w:=⟨_,rfl⟩
 have hff:∀ k b o w,Firm J' k b o w↔Firm J (k.map (· + k0)) b o w:=fun k b o w=>by
  rw [hJ']
  exact ⟨fun h=>h w (.refl _ _),fun h _ hb=>h.next hb⟩
 have hG':GivesE P l J' (ITEMS.drop k0):=by
  intro m kk b o X w vals row hi ho hb hF hX hrow
  rw [List.getElem?_drop] at hi
  have:=hG m (kk + k0) b o X w vals row (by rw [Nat.add_comm];exact hi) ho hb ((hff _ _ _ _).1 hF) hX hrow
  refine z149 this ?_
  rintro e w' ⟨t,b',o',rfl,q1,q2,q3,q4,q5⟩
  refine ⟨t,b',o',rfl,q1,q2,(hff _ _ _ _).2 ?_,q4,q5⟩
  cases t
  ·exact q3
  ·simpa [Nat.add_right_comm] using q3
 have hO':EnvOk w.heap.size J':=by
  rw [hJ']
  exact fun k b o w w' r hr hno ho hF=>z379 hO _ b o w w' r hr hno ho hF
 refine z79 hf hb h4 hst0 (z55 (hw J' (ITEMS.drop k0) hG' (fun i row hi=>by rw [List.getElem?_drop];exact hit i row hi))) hO' ((hff _ _ _ _).2 (by simpa using hJ)) fun e k s hq=>?_
 obtain ⟨hend,x,hx,hq⟩:=hq
 refine ⟨hend,x,hx,?_⟩
 intro b' o' μ tmps v w' hst hv hj hstay hsame
 split at hq
 ·rename_i t
  obtain ⟨rfl,hpin⟩:=hq
  have hvb:v=.bool t:=z77 hv
  have hpl:∀ i,i<m0.length→μ (M + i)=μ0 i∧m0[i]?=(s.m[M + i]?).join∧∃ e z rows,m0[i]?=some (.arrP e z rows):=by
   intro i hi
   obtain ⟨p,hp⟩:∃ p,ps[i]?=some p:=⟨_,List.getElem?_eq_getElem (by omega)⟩
   obtain ⟨x,y,e,z,rows,h1,h2,h3,h4',h5,h6⟩:=z513 hpin i p hp
   rw [Nat.zero_add] at h3 h4' h5 h6
   have hpd:p ∉ dsts c:=by
    have:=List.all_eq_true.1 hD p (List.mem_of_getElem? hp)
    simpa using this
   have hpl:p<args.length:=(List.getElem?_eq_some_iff.1 h1).1
   have hpv:p<vs.size:=by omega
   have hv0:(vs++Array.replicate (fn.ntmps - vs.size) undef)[p]?=some vs[p]:=by rw [Array.getElem?_append_left hpv];simp [hpv]
   have hv1:=hsame.2 p hpd
   rw [hv0] at hv1
   have r1:=ha p x vs[p] h1 (by simp [hpv])
   have r2:=hst.tmp p y vs[p] h2 hv1
   obtain ⟨b1,z1,c1,len1,e1,e2⟩:=z528 h5 r1
   obtain ⟨b2,z2,c2,len2,e3,e4⟩:=z528 h6 r2
   rw [e2] at e4
   simp only [Value.slice.injEq,Option.some.injEq,Addr.mk.injEq] at e4
   obtain ⟨⟨eb,_,_⟩,_,ec⟩:=e4
   subst eb;subst ec
   have k1:=hM.arrP (n:=i) (by rw [List.getElem?_map,h3];rfl)
   have k2:=hst.mem.arrP h4'
   obtain ⟨b3,c3,cs3,g1,_⟩:=k1
   obtain ⟨b4,c4,cs4,g2,_⟩:=k2
   rw [e1] at g1;cases g1
   rw [e3] at g2;cases g2
   exact ⟨by rw [e1,e3],by rw [h3,h4'];rfl,e,z,rows,h3⟩
  obtain ⟨μ1,hμ1⟩:∃ μ1:Pl,μ1=fun i=>if i<m0.length then μ (M + i) else none:=⟨_,rfl⟩
  have h1s:∀ i L,μ1 i=some L→i<m0.length∧μ (M + i)=some L:=fun i L hi=>by
   rw [hμ1] at hi
   dsimp only at hi
   split at hi
   ·exact ⟨by assumption,hi⟩
   ·cases hi
  have h1i:∀ i,i<m0.length→μ1 i=μ (M + i):=fun i hi=>by rw [hμ1];simp [hi]
  have hsub:∀ q,ownOf o' μ1 q→ownOf o' μ q:=by
   rintro q (h | ⟨i,z,l,c,h⟩)
   ·exact .inl h
   ·exact .inr ⟨M + i,z,l,c,(h1s i _ h).2⟩
  have hg:Goes w' (ownOf o' μ) w' (ownOf o' μ1):=fun q o u h1 h2=>⟨fun hc=>h1 (hsub q hc),h2⟩
  refine ⟨t,b',o',μ1,by rw [hvb],hst.out,hst.le,⟨fun i b1 hi=>?_,fun i hi=>?_,fun a k q z l c z' l' c' q1 q2=>?_,fun i q z l c hi=>?_⟩,?_,⟨hstay.1,fun q hq hno=>?_⟩,fun i hi=>by rw [h1i i hi];exact (hpl i hi).1⟩
  ·simp only [List.getElem?_map,Option.map_eq_some_iff,Option.some.injEq] at hi
   obtain ⟨b2,hi,rfl⟩:=hi
   have hil:i<m0.length:=(List.getElem?_eq_some_iff.1 hi).1
   obtain ⟨_,g2,e,z,rows,g3⟩:=hpl i hil
   rw [hi] at g2 g3
   cases g3
   cases hsm:s.m[M + i]? with
   | none=>rw [hsm] at g2;cases g2
   | some ob =>
    rw [hsm] at g2
    simp at g2
    subst g2
    have:=BlkRel.mapN (μ':=μ1) (n':=i) (h:=fun _=>none) (.inl hg) (h1i i hil) (fun k _ j hj=>by cases hj) (fun _ _ _ _ _=>rfl) (hst.mem.blk (M + i) _ hsm)
    exact this
  ·obtain ⟨L,hL⟩:=Option.isSome_iff_exists.1 hi
   have:=(h1s i L hL).1
   exact ⟨m0[i],by simp [this]⟩
  ·have:=hst.mem.inj _ _ q _ _ _ _ _ _ (h1s a _ q1).2 (h1s k _ q2).2
   omega
  ·exact hst.mem.base _ q z l c (h1s i _ hi).2
  ·have:=(hff _ _ _ _).1 (fun w2 hb=>by rw [hJ'] at hj ⊢;exact hj.next hb)
   cases t
   ·exact this
   ·simpa [Nat.add_comm] using this
  ·obtain ⟨p1,p2⟩:=hstay.2 q hq (fun hc=>hno ((hs0 q).1 hc))
   exact ⟨p1,fun hc=>p2 (hsub q hc)⟩
 ·exact hq.elim
end
end Go.Ab
/- A range over an iterator of the second kind. -/
namespace Go.Ab
open Go.RowKit
def rangeOf (st:St) (g:Operand):Option (FuncId × List AV × List AV):=match st.ev g with
 | .d (.fn f caps)=>some (f,[],caps.map .d)
 | .fn f caps=>some (f,[],caps)
 | .d (.bnd f first)=>some (f,first.map .d,[])
 | _=>none
def ceded (st:St) (all:List Nat):List Nat→Option (List Blk)
 | []=>some []
 | n::ns=>match (st.m[n]?:Option (Option Blk)),ceded st all ns with
  | some (some b),some l=>some (b.mapN (inv all)::l)
  | _,_=>none
def cedeM (ns:List Nat):List (Option Blk)→Nat→List (Option Blk)
 | [],_=>[]
 | b::l,i=>(if ns.contains i then none else b.map (Blk.mapN (kp ns)))::cedeM ns l (i + 1)
def St.cede (ns:List Nat) (st:St):St:=match ns with
 | []=>st
 | ns=>{ t:=st.t.map (AV.mapN (kp ns)),m:=cedeM ns st.m 0 }
section
variable {P:Program} {base:Own} {out:Own} {st st':St} {μ:Pl} {tmps:Array Value} {w w':World} {J:Env} {k:Option Nat} {B:Nat}
theorem z568 {all:List Nat}:∀ {ns:List Nat} {m0:List Blk},ceded st all ns=some m0→ns.length=m0.length∧∀ (i:Nat) b,m0[i]?=some b→∃ (n:Nat) (b':Blk),ns[i]?=some n∧st.m[n]?=some (some b')∧b=b'.mapN (inv all)
 | [],m0,h=>by cases h;exact ⟨rfl,fun i b h=>by simp at h⟩
 | n::ns,m0,h=>by
  unfold ceded at h
  split at h
  ·rename_i b l hb hl
   cases h
   obtain ⟨h1,h2⟩:=z568 hl
   refine ⟨by simp [h1],fun i b' hi=>?_⟩
   cases i with
   | zero=>simp at hi;subst hi;exact ⟨n,b,rfl,hb,rfl⟩
   | succ i=>simpa using h2 i b' (by simpa using hi)
  ·cases h
theorem z314 {ns:List Nat}:∀ {m:List (Option Blk)} {i j:Nat},(cedeM ns m i)[j]?=(m[j]?).map fun b=>if ns.contains (i + j) then none else b.map (Blk.mapN (kp ns))
 | [],i,j=>by simp [cedeM]
 | b::l,i,0=>by simp [cedeM]
 | b::l,i,j + 1=>by
  have:=z314 (ns:=ns) (m:=l) (i:=i + 1) (j:=j)
  simp only [cedeM,List.getElem?_cons_succ]
  rw [this,show i + 1 + j=i + (j + 1) by omega]
theorem z981 {ns:List Nat} {n k:Nat} (h:kp ns n=some k):k=n∧n ∉ ns:=by
 unfold kp at h
 split at h
 ·cases h
 ·rename_i hn
  cases h
  exact ⟨rfl,by simpa using hn⟩
def ownsOf (μ:Pl) (ns:List Nat):Own:=fun b=>∃ n z l c,n ∈ ns∧μ n=some (.at b z l c)
theorem z950 (h:StRel P base out st μ tmps w) (ns:List Nat):∃ μk:Pl,StRel P (fun x=>base x∨ownsOf μ ns x) (fun x=>out x∨ownsOf μ ns x) (st.cede ns) μk tmps w∧(∀ n,n ∉ ns→μk n=μ n)∧(∀ n,n ∈ ns→μk n=none):=by
 obtain ⟨μk,hμk⟩:∃ μk:Pl,μk=fun n=>if ns.contains n then none else μ n:=⟨_,rfl⟩
 have h1:∀ n,n ∉ ns→μk n=μ n:=fun n hn=>by rw [hμk];simp [hn]
 have h2:∀ n,n ∈ ns→μk n=none:=fun n hn=>by rw [hμk];simp [hn]
 have hk:∀ n L,μk n=some L→n ∉ ns∧μ n=some L:=fun n L hn=>by
  by_cases hm:n ∈ ns
  ·rw [h2 n hm] at hn;cases hn
  ·exact ⟨hm,by rw [← h1 n hm];exact hn⟩
 have hown:∀ x,ownOf (fun x=>out x∨ownsOf μ ns x) μk x→ownOf out μ x:=by
  rintro x ((hx | ⟨n,z,l,c,_,hn⟩) | ⟨n,z,l,c,hn⟩)
  ·exact .inl hx
  ·exact .inr ⟨n,z,l,c,hn⟩
  ·exact .inr ⟨n,z,l,c,(hk n _ hn).2⟩
 have hg:Goes w (ownOf out μ) w (ownOf (fun x=>out x∨ownsOf μ ns x) μk):=fun b o v q1 q2=>⟨fun hc=>q1 (hown b hc),q2⟩
 have hnb:∀ n b z l c,μk n=some (.at b z l c)→¬ (base b∨ownsOf μ ns b):=by
  rintro n b z l c hn (hc | ⟨n',z',l',c',hm,hn'⟩)
  ·exact (h.mem.base n b z l c (hk n _ hn).2).1 hc
  ·have:=h.mem.inj n n' b _ _ _ _ _ _ (hk n _ hn).2 hn'
   exact (hk n _ hn).1 (this ▸ hm)
 have hout:∀ x,(out x∨ownsOf μ ns x)→base x∨ownsOf μ ns x:=fun x hx=>hx.imp (h.out x) id
 have hle:∀ x,(base x∨ownsOf μ ns x)→x<w.heap.size:=fun x hx=>hx.elim (h.le x) fun ⟨n,z,l,c,_,hn⟩=>z50 h.mem hn
 refine ⟨μk,?_,h1,h2⟩
 cases ns with
 | nil =>
  have e:μk=μ:=funext fun n=>h1 n (by simp)
  subst e
  exact ⟨h.size,fun i x v q1 q2=>(h.tmp i x v q1 q2).goes hg (fun _ _ _=>rfl),⟨fun m blk hm=>(h.mem.blk m blk hm).goes hg rfl (fun _ _=>rfl) (fun _ _ _ _ _=>rfl),h.mem.dom,h.mem.inj,fun m b z l c hb=>⟨hnb m b z l c hb,(h.mem.base m b z l c hb).2.1,fun hc=>hnb m b z l c hb (hout b hc)⟩⟩,h.hid.goes hg,hout,hle⟩
 | cons n0 ns0 =>
  obtain ⟨ns,hns⟩:∃ ns,ns=n0::ns0:=⟨_,rfl⟩
  rw [← hns] at h1 h2 hk hown hg hnb hout hle ⊢
  have hst:st.cede ns={ t:=st.t.map (AV.mapN (kp ns)),m:=cedeM ns st.m 0 }:=by rw [hns];rfl
  rw [hst]
  have hkp:∀ n,(μ n).isSome→∀ k,kp ns n=some k→μk k=μ n:=fun n _ k hk'=>by obtain ⟨rfl,hn⟩:=z981 hk';exact h1 _ hn
  refine ⟨by rw [h.size];simp,fun i x v q1 q2=>?_,⟨fun m blk hm=>?_,fun m hm=>?_,fun a k b z l c z' l' c' q1 q2=>h.mem.inj a k b _ _ _ _ _ _ (hk a _ q1).2 (hk k _ q2).2,fun m b z l c hb=>⟨hnb m b z l c hb,(h.mem.base m b z l c (hk m _ hb).2).2.1,fun hc=>hnb m b z l c hb (hout b hc)⟩⟩,h.hid.goes hg,hout,hle⟩
  ·simp only [List.getElem?_map,Option.map_eq_some_iff] at q1
   obtain ⟨y,q1,rfl⟩:=q1
   exact (h.tmp i y v q1 q2).mapN (.inl hg) (fun n _ hs k hk'=>hkp n hs k hk')
  ·rw [z314] at hm
   simp only [Nat.zero_add,Option.map_eq_some_iff] at hm
   obtain ⟨ob,hob,hb⟩:=hm
   split at hb
   ·cases hb
   ·rename_i hn
    simp only [Option.map_eq_some_iff] at hb
    obtain ⟨b0,rfl,rfl⟩:=hb
    exact BlkRel.mapN (.inl hg) (h1 m (by simpa using hn)) hkp (fun _ _ _ _ _=>rfl) (h.mem.blk m b0 hob)
  ·obtain ⟨L,hL⟩:=Option.isSome_iff_exists.1 hm
   obtain ⟨hn,hL'⟩:=hk m L hL
   obtain ⟨b,hb⟩:=h.mem.dom m (by rw [hL'];rfl)
   exact ⟨b.mapN (kp ns),by rw [z314,hb];simp [hn]⟩
theorem z770 (h:StRel P base out st μ tmps w) {g:Operand} {f:FuncId} {pre post:List AV} (hc:rangeOf st g=some (f,pre,post)) :
  ∃ fst caps:Array Value,val tmps g=.func (.func f) fst caps∧pre.length=fst.size∧post.length=caps.size∧(∀ (i:Nat) x v,pre[i]?=some x→fst[i]?=some v→AVRel w (ownOf out μ) μ x v) ∧
   ∀ (i:Nat) x v,post[i]?=some x→caps[i]?=some v→AVRel w (ownOf out μ) μ x v:=by
 have hf:=h.ev g []
 unfold rangeOf at hc
 split at hc
 ·rename_i f' caps hev
  cases hc
  rw [hev] at hf
  obtain ⟨vs,hv,hl,hd⟩:=z669 hf
  exact ⟨#[],vs,hv,rfl,by simpa using hl,fun i x v q=>by simp at q,fun i x v q1 q2=>by
   simp only [List.getElem?_map,Option.map_eq_some_iff] at q1
   obtain ⟨d,q1,rfl⟩:=q1
   exact .d (hd i d v q1 q2)⟩
 ·rename_i f' caps hev
  cases hc
  rw [hev] at hf
  obtain ⟨vs,hv,hl,hd⟩:=z702 hf
  exact ⟨#[],vs,hv,rfl,hl,fun i x v q=>by simp at q,hd⟩
 ·rename_i f' ds hev
  cases hc
  rw [hev] at hf
  obtain ⟨vs,hv,hl,hd⟩:=z859 hf
  exact ⟨vs,#[],hv,by simpa using hl,rfl,fun i x v q1 q2=>by
   simp only [List.getElem?_map,Option.map_eq_some_iff] at q1
   obtain ⟨d,q1,rfl⟩:=q1
   exact .d (hd i d v q1 q2),fun i x v q=>by simp at q⟩
 ·cases hc
theorem z383 {own:Own} {xs ys:List AV} {us vs:Array Value} (hl:xs.length=us.size) (h1:∀ (i:Nat) x v,xs[i]?=some x→us[i]?=some v→AVRel w own μ x v) (h2:∀ (i:Nat) x v,ys[i]?=some x→vs[i]?=some v→AVRel w own μ x v) :
  ∀ (i:Nat) x v,(xs++ys)[i]?=some x→(us++vs)[i]?=some v→AVRel w own μ x v:=fun i x v hx hv=>by
 by_cases hi:i<xs.length
 ·rw [List.getElem?_append_left hi] at hx
  rw [Array.getElem?_append_left (by omega)] at hv
  exact h1 i x v hx hv
 ·rw [List.getElem?_append_right (by omega)] at hx
  rw [Array.getElem?_append_right (by omega),← hl] at hv
  exact h2 _ x v hx hv
set_option maxHeartbeats 4000000 in
theorem z471 {n:Nat} {α:Type} {cs:List Code} {Q:Exit→Option Nat→St→Prop} {g:Operand} {ps:Array Tmp} {assign body:Code} {f:FuncId} {pre post:List AV} {items:List (List DV)} (ns:List Nat) {m0:List Blk}
  (hg:rangeOf st g=some (f,pre,post)) (hnd:ns.Nodup) (hm0:ceded st ns ns=some m0) (hit:IterE P f m0 (fun l=>(pre++.d (.yld l)::post).map (AV.mapN (inv ns))) items) (hps:∀ row ∈ items,row.length=ps.size)
  (fs:α→St) (I:Option Nat→Nat→α→Prop) (Ix:Exit→Option Nat→α→Prop) (a0:α) (hw:Weak (st.cede ns) (fs a0)) (h0:I k 0 a0)
  (hround:∀ X W k' i a row,items[i]?=some row→I k' i a→∀ l m,WalkL P (some l) m (lendJ X W J) [assign] k' { t:=setPs ps.toList row (fs a).t,m:=(fs a).m }
   (thenA (fun k2 s=>WalkL P (some l) m (lendJ X W J) [body] k2 s fun e k3 s3=>match e with
    | .normal=>∃ a',Weak (s3.wipe (dsts (.rangeFunc g ps assign body))) (fs a')∧I k3 (i + 1) a'
    | e=>(jumpCode e).isSome∧∃ a',Weak (s3.wipe (dsts (.rangeFunc g ps assign body))) (fs a')∧Ix e k3 a') (fun _ _ _=>False)))
  (hdone:∀ k' a,I k' items.length a→WalkL P none n J cs k' (fs a) Q) (hstop:∀ e k' a,Ix e k' a→(jumpCode e).isSome→Q e k' (fs a)) :
  WalkL P none n J (.rangeFunc g ps assign body::cs) k st Q:=by
 intro B base out μ tmps w ds hO hA hJ hM
 obtain ⟨fst,caps,hgv,hpl,hql,hpre,hpost⟩:=z770 hA hg
 obtain ⟨μk,hAk,hk1,hk2⟩:=z950 hA ns
 obtain ⟨X0,hX0⟩:∃ X0:Own,X0=ownsOf μ ns:=⟨_,rfl⟩
 rw [← hX0] at hAk
 have hX0w:∀ x,X0 x→ownOf out μ x∧¬ base x∧x<w.heap.size:=fun x hx=>by
  rw [hX0] at hx
  obtain ⟨m,z,l,c,_,hm⟩:=hx
  exact ⟨.inr ⟨m,z,l,c,hm⟩,(hA.mem.base m x z l c hm).1,(hA.mem.base m x z l c hm).2.1⟩
 obtain ⟨μ0,hA0,hsub0⟩:=hw P _ _ μk tmps w hAk
 have hkown:∀ x,ownOf (fun x=>out x∨X0 x) μk x→ownOf out μ x:=by
  rintro x ((hx | hx) | ⟨m,z,l,c,hm⟩)
  ·exact .inl hx
  ·exact (hX0w x hx).1
  ·by_cases hmn:m ∈ ns
   ·rw [hk2 m hmn] at hm;cases hm
   ·exact .inr ⟨m,z,l,c,by rw [← hk1 m hmn];exact hm⟩
 have hsub1:∀ x,ownOf out μ0 x→ownOf out μ x:=fun x hx=>hkown x (hsub0 x (hx.imp .inl id))
 have hX0n:∀ x,X0 x→¬ ownOf out μ0 x:=by
  rintro x hx (hc | hc)
  ·exact (hX0w x hx).2.1 (hA.out x hc)
  ·exact (hA0.own_base x hc).1 (.inr hx)
 refine wpIn_rangeFunc ?_
 intro fn hfn
 obtain ⟨rec,hrec⟩:∃ rec:LoopState→Option Code→Loop,rec=fun st pe=>{ state:=st,pending:=pe,fn,tmps:=tmps,params:=ps,assign,body,defers:=w.heap.size }:=⟨_,rfl⟩
 obtain ⟨W1,hW1⟩:∃ W1,(w.alloc (.deferred (some []))).alloc (.loop (rec .ready none))=W1:=⟨_,rfl⟩
 have hL1:W1.heap[w.heap.size + 1]?=some (.loop (rec .ready none)):=by
  rw [← hW1];have:=World.alloc_heap_new (w.alloc (.deferred (some []))) (.loop (rec .ready none));rwa [World.size_alloc] at this
 have hK1:W1.heap[w.heap.size]?=some (.deferred (some [])):=by
  rw [← hW1];exact (Below.heap_alloc _ _ _ (by simp)).trans (World.alloc_heap_new w _)
 have hB1:Below w.heap.size w W1:=by
  rw [← hW1];exact ((Below.refl _ w).alloc (Nat.le_refl _) _).alloc (by simp) _
 have hz1:W1.heap.size=w.heap.size + 2:=by rw [← hW1];simp
 obtain ⟨JJ,hJJ⟩:∃ JJ:Env,JJ=fun ki bs os W=>∃ (e:Exit) (kk:Option Nat) (a:α) (b' o':Own) (μ':Pl) (X:Own),
   (∀ x,os x↔ownOf o' μ' x∨x=w.heap.size + 1)∧(∀ x,x<W.heap.size→bs x∨X x) ∧
   (∀ x,X x→x<W.heap.size∧¬ b' x∧¬ ownOf o' μ' x∧x≠w.heap.size∧x≠w.heap.size + 1∧(ownOf out μ x∨w.heap.size + 1<x))∧(∀ x,o' x→b' x) ∧
   StRel P (fun x=>b' x∨X x) (fun x=>o' x∨X x) (fs a) μ' tmps W∧Firm J kk b' o' W∧Stays w (ownOf out μ) W (ownOf o' μ')∧¬ ownOf o' μ' w.heap.size∧¬ ownOf o' μ' (w.heap.size + 1) ∧
   W.heap[w.heap.size]?=some (.deferred (some [])) ∧
   match ki with
   | some i=>I kk i a∧W.heap[w.heap.size + 1]?=some (.loop (rec .ready none))
   | none=>Ix e kk a∧(jumpCode e).isSome∧W.heap[w.heap.size + 1]?=some (.loop (rec .done (jumpCode e))):=⟨_,rfl⟩
 have hBw:B≤w.heap.size:=hM.1
 -- JJ abides
 have hclose:∀ ki bs os W W',JJ ki bs os W→BelowU bs W W'→JJ ki bs os W':=by
  rw [hJJ]
  rintro ki bs os W W' ⟨e,kk,a,b',o',μ',X,g1,g2,g3,g4,g5,g6,g7,g8,g9,g10,g11⟩ hB
  have hr0:w.heap.size<W.heap.size:=(Array.getElem?_eq_some_iff.1 g10).1
  have hr1:w.heap.size + 1<W.heap.size:=by
   cases ki with
   | some i=>exact (Array.getElem?_eq_some_iff.1 g11.2).1
   | none=>exact (Array.getElem?_eq_some_iff.1 g11.2.2).1
  have hlt:∀ x,(b' x∨X x)→x<W.heap.size:=g5.le
  have holt:∀ x,ownOf o' μ' x→x<W.heap.size:=fun x hx=>z75 g5 x (hx.imp .inl id)
  have hin:∀ x,x<W.heap.size→¬ X x→W'.heap[x]?=W.heap[x]?:=fun x hx hno=>hB.block x ((g2 x hx).resolve_right hno)
  have hl0:W'.heap[w.heap.size]?=some (.deferred (some [])):=by rw [hin _ hr0 (fun hc=>(g3 _ hc).2.2.2.1 rfl)];exact g10
  have hl1:W'.heap[w.heap.size + 1]?=W.heap[w.heap.size + 1]?:=hin _ hr1 (fun hc=>(g3 _ hc).2.2.2.2.1 rfl)
  refine ⟨e,kk,a,b',o',μ',fun x=>X x∨(W.heap.size≤x∧x<W'.heap.size),g1,fun x hx=>?_,fun x hx=>?_,g4,?_,g6.next (hB.mono fun x hx=>(g2 x (hlt x (.inl hx))).resolve_right fun hc=>(g3 x hc).2.1 hx),⟨Nat.le_trans g7.1 hB.size,fun x hx ho=>?_⟩,g8,g9,hl0,?_⟩
  ·by_cases hlt':x<W.heap.size
   ·exact (g2 x hlt').imp id .inl
   ·exact .inr (.inr ⟨by omega,hx⟩)
  ·rcases hx with hx | hx
   ·obtain ⟨q1,q2⟩:=g3 x hx
    exact ⟨Nat.lt_of_lt_of_le q1 hB.size,q2⟩
   ·exact ⟨hx.2,fun hc=>by have:=hlt x (.inl hc);omega,fun hc=>by have:=holt x hc;omega,by omega,by omega,.inr (by omega)⟩
  ·refine g5.next hB.size (fun x hx hno=>hin x hx fun hc=>hno (.inr hc)) (fun x hx=>hx.imp (g4 x) id) (fun x hx=>?_) (fun x hx=>?_) (fun x hx=>?_)
   ·rcases hx with hx | hx | hx
    ·exact Nat.lt_of_lt_of_le (hlt x (.inl hx)) hB.size
    ·exact Nat.lt_of_lt_of_le (hlt x (.inr hx)) hB.size
    ·exact hx.2
   ·rcases hx with hx | hx | hx
    ·exact .inl (.inl hx)
    ·exact .inl (.inr hx)
    ·exact .inr hx.1
   ·have:=g5.own_base x hx
    rintro (hc | hc | hc)
    ·exact this.1 (.inl hc)
    ·exact this.1 (.inr hc)
    ·omega
  ·obtain ⟨p1,p2⟩:=g7.2 x hx ho
   have hxW:x<W.heap.size:=by omega
   exact ⟨(hin x hxW fun hc=>by rcases (g3 x hc).2.2.2.2.2 with h | h;exact ho h;omega).trans p1,p2⟩
  ·cases ki with
   | some i=>exact ⟨g11.1,by rw [hl1];exact g11.2⟩
   | none=>exact ⟨g11.1,g11.2.1,by rw [hl1];exact g11.2.2⟩
 have hfirm:∀ ki bs os W,JJ ki bs os W→Firm JJ ki bs os W:=fun ki bs os W h W' hB=>hclose ki bs os W W' h hB
 have hOJ:EnvOk W1.heap.size JJ:=by
  rw [hJJ]
  rintro ki bs os W W' r hr hno ho ⟨e,kk,a,b',o',μ',X,g1,g2,g3,g4,g5,g6,g7,g8,g9,g10,g11⟩
  have hr1:r≠w.heap.size:=by omega
  have hr2:r≠w.heap.size + 1:=by omega
  have hnr:¬ o' r:=fun hc=>hno ((g1 r).2 (.inl (.inl hc)))
  refine ⟨e,kk,a,b',o',μ',X,g1,by rw [ho.wrote.size];exact g2,by rw [ho.wrote.size];exact g3,g4,g5.other ho,z105 hO g6 (fun x hx=>g5.le x (.inl hx)) (by omega) hnr ho,⟨by rw [ho.wrote.size];exact g7.1,fun x hx hob=>?_⟩,g8,g9,
   by rw [ho.wrote.block _ (Ne.symm hr1)];exact g10,?_⟩
  ·rw [ho.wrote.block x (by omega)];exact g7.2 x hx hob
  ·cases ki with
   | some i=>exact ⟨g11.1,by rw [ho.wrote.block _ (Ne.symm hr2)];exact g11.2⟩
   | none=>exact ⟨g11.1,g11.2.1,by rw [ho.wrote.block _ (Ne.symm hr2)];exact g11.2.2⟩
 have hG:GivesE P (w.heap.size + 1) JJ items:=by
  intro m i bs os Xi W vals row hi hob hbs hF hXi hrow
  have hj:=hF W (.refl _ _)
  rw [hJJ] at hj
  obtain ⟨_,kk,a,b',o',μ',X,g1,g2,g3,g4,g5,g6,g7,g8,g9,g10,h7,h8⟩:=hj
  have hXX:∀ x,Xi x→X x:=fun x hx=>(g2 x (hXi x hx).2).resolve_left (hXi x hx).1
  have hrl:=hps row (List.mem_of_getElem? hi)
  have hlt:w.heap.size + 1<W.heap.size:=(Array.getElem?_eq_some_iff.1 h8).1
  have hy:=run_yield (P:=P) (args:=vals) h8 (by rw [hrec];simp only;rw [← hrow.1,hrl])
  rw [hrec] at hy
  refine ⟨fn,_,assign,body,hy,roundIn_of_wpIn trivial ?_⟩
  have hb0:StRel P (fun x=>b' x∨Xi x) (fun x=>o' x∨Xi x) (fs a) μ' tmps W:=by
   refine g5.next (Nat.le_refl _) (fun _ _ _=>rfl) (fun x hx=>hx.imp (g4 x) id) (fun x hx=>g5.le x (hx.imp id (hXX x))) (fun x hx=>.inl (hx.imp id (hXX x))) (fun x hx=>?_)
   have:=(g5.own_base x hx).1
   exact fun hc=>this (hc.imp id (hXX x))
  have hz:StRel P (fun x=>b' x∨Xi x) (fun x=>o' x∨Xi x) { t:=setPs ps.toList row (fs a).t,m:=(fs a).m } μ' ((ps.zip vals).foldl (fun t (p,v)=>t.setIfInBounds p v) tmps) W:=by
   have:=z799 ps.toList row vals.toList (fs a) tmps (by simpa using hrow.1) (fun i d v hd hv=>(hrow.2 i d v hd (by simpa using hv)).goes fun b o v h1 h2=>⟨fun hc=>h1 (by
    rcases hc with (hc | hc) | hc
    ·exact .inl ((g1 b).2 (.inl (.inl hc)))
    ·exact .inr hc
    ·exact .inl ((g1 b).2 (.inl (.inr hc)))),h2⟩) hb0
   rwa [← Array.toList_zip,← Array.foldl_toList] at *
  have hzs:Same ps.toList tmps ((ps.zip vals).foldl (fun t (p,v)=>t.setIfInBounds p v) tmps):=by
   have:=z386 ps.toList vals.toList tmps
   rwa [← Array.toList_zip,Array.foldl_toList] at this
  have hXb:∀ x,Xi x→¬ b' x∧x<W.heap.size:=fun x hx=>⟨(g3 x (hXX x hx)).2.1,(hXi x hx).2⟩
  have hO1:=z378 hO Xi W
  have hJ0:Firm (lendJ Xi W J) kk (fun x=>b' x∨Xi x) (fun x=>o' x∨Xi x) W:=z306 hXb (fun _ _=>rfl) g4 (fun x hx=>g5.le x (.inl hx)) g6
  have hnR1:¬ ownOf (fun x=>o' x∨Xi x) μ' (w.heap.size + 1):=by
   rintro ((hc | hc) | hc)
   ·exact g9 (.inl hc)
   ·exact (g3 _ (hXX _ hc)).2.2.2.2.1 rfl
   ·exact g9 (.inr hc)
  have hnR0:¬ ownOf (fun x=>o' x∨Xi x) μ' w.heap.size:=by
   rintro ((hc | hc) | hc)
   ·exact g8 (.inl hc)
   ·exact (g3 _ (hXX _ hc)).2.2.2.1 rfl
   ·exact g8 (.inr hc)
  have hr0:=z55 (hround Xi W kk i a row hi h7 (w.heap.size + 1) m) B _ _ μ' _ W [] hO1 hz hJ0 (.nil (by omega))
  refine wpIn_mono hr0 ?_
  rintro e a1 w1 ⟨k1,s1,b1,o1,μ1,hA1,hJ1,hM1,hst1,hsa1,hq1⟩
  cases e with
  | normal =>
   have hl1:w1.heap[w.heap.size + 1]?=some (.loop (rec .ready none)):=by rw [(hst1.2 _ hlt hnR1).1];exact h8
   have hno1:¬ ownOf o1 μ1 (w.heap.size + 1):=(hst1.2 _ hlt hnR1).2
   have hd1:w1.heap[w.heap.size]?=some (.deferred (some [])):=by rw [(hst1.2 _ (by omega) hnR0).1];exact g10
   have hnd1:¬ ownOf o1 μ1 w.heap.size:=(hst1.2 _ (by omega) hnR0).2
   have ho1:Other (w.heap.size + 1) w1 (w1.putObj (w.heap.size + 1) (.loop { rec .ready none with state:=.busy })):=z199 hl1 (fun _ _ _ e=>by cases e) (fun _ _ e=>by cases e)
   refine ⟨_,run_beginRound hl1 (by rw [hrec]),?_⟩
   have hlt1:w.heap.size + 1<w1.heap.size:=(Array.getElem?_eq_some_iff.1 hl1).1
   have hM2:Marked B (ownOf o1 μ1) a1.defers (w1.putObj (w.heap.size + 1) (.loop { rec .ready none with state:=.busy })):=by
    obtain ⟨q0,rs,q1,q2,q3⟩:=hM1
    refine ⟨by simpa using q0,rs,q1,q2,fun r hr=>⟨(q3 r hr).1,(q3 r hr).2.1,?_⟩⟩
    rw [World.putObj_heap_other (fun e=>by subst e;have:=(q3 _ hr).2.2;rw [hl1] at this;cases this)]
    exact (q3 r hr).2.2
   have hbd:=z55 hq1 B b1 o1 μ1 a1.tmps _ a1.defers hO1 (hA1.other ho1) (z105 hO1 hJ1 hA1.le (by omega) (fun hc=>hno1 (.inl hc)) ho1) hM2
   refine wpIn_mono hbd ?_
   rintro e2 a2 w2 ⟨k2,s2,b2,o2,μ2,hA2,hJ2,hM3,hst2,hsa2,hq2⟩
   have hz2:(w1.putObj (w.heap.size + 1) (.loop { rec .ready none with state:=.busy })).heap.size=w1.heap.size:=by simp
   have hl2:w2.heap[w.heap.size + 1]?=some (.loop { rec .ready none with state:=.busy }):=by
    rw [(hst2.2 _ (by rw [hz2];exact hlt1) hno1).1];exact World.putObj_heap_same hlt1
   have hno2:¬ ownOf o2 μ2 (w.heap.size + 1):=(hst2.2 _ (by rw [hz2];exact hlt1) hno1).2
   have hd2:w2.heap[w.heap.size]?=some (.deferred (some [])):=by
    rw [(hst2.2 _ (by rw [hz2];omega) hnd1).1,World.putObj_heap_other (by omega)];exact hd1
   have hnd2:¬ ownOf o2 μ2 w.heap.size:=(hst2.2 _ (by rw [hz2];omega) hnd1).2
   obtain ⟨j1,j2,j3,j4,j5⟩:=hJ2 w2 (.refl _ _)
   have hsame:Same (dsts (.rangeFunc g ps assign body)) tmps a2.tmps :=
    ((hzs.mono fun i hi=>by simp only [dsts,List.mem_append];exact .inl hi).trans (hsa1.mono fun i hi=>by simp only [dsts,List.mem_append];exact .inr (.inl hi))).trans (hsa2.mono fun i hi=>by simp only [dsts,List.mem_append];exact .inr (.inr hi))
   have z47:∀ (b:Nat),b<W.heap.size→b≠w.heap.size + 1→¬ ownOf (fun x=>o' x∨Xi x) μ' b→w2.heap[b]?=W.heap[b]?∧¬ ownOf o2 μ2 b:=by
    intro b hb hne ho
    obtain ⟨p1,p2⟩:=hst1.2 b hb ho
    obtain ⟨p3,p4⟩:=hst2.2 b (by rw [hz2];exact Nat.lt_of_lt_of_le hb hst1.1) p2
    exact ⟨p3.trans ((World.putObj_heap_other hne).trans p1),p4⟩
   have hsz:W.heap.size≤w2.heap.size:=Nat.le_trans hst1.1 (by rw [← hz2];exact hst2.1)
   have hlt2:w.heap.size + 1<w2.heap.size:=(Array.getElem?_eq_some_iff.1 hl2).1
   have fin:∀ (pe:Option Code) (stt:LoopState) (a':α) (ki:Option Nat) (e':Exit),Weak (s2.wipe (dsts (.rangeFunc g ps assign body))) (fs a')→∀ W5,W5=w2.putObj (w.heap.size + 1) (.loop (rec stt pe)) →
     (match ki with
      | some i=>I k2 i a'∧stt=.ready∧pe=none
      | none=>Ix e' k2 a'∧(jumpCode e').isSome∧stt=.done∧pe=jumpCode e') →
     ∃ b3 o3,(∀ x,o3 x→b3 x)∧(∀ x,b3 x→x<W5.heap.size)∧Firm JJ ki b3 o3 W5∧Stays W os W5 o3∧∀ x,Xi x→¬ b3 x:=by
    rintro pe stt a' ki e' hwk W5 rfl hki
    have ho2:Other (w.heap.size + 1) w2 (w2.putObj (w.heap.size + 1) (.loop (rec stt pe))):=z199 hl2 (fun _ _ _ e=>by cases e) (fun _ _ e=>by cases e)
    obtain ⟨μ5,h51,h52⟩:=hwk P b2 o2 μ2 tmps _ (z891 (hA2.other ho2) hsame)
    have hXi2:∀ x,Xi x→b2 x:=fun x hx=>j3 x (j1 x hx)
    have h5n:∀ x,Xi x→¬ μ5.owns x:=fun x hx hc=>(h51.own_base x hc).1 (hXi2 x hx)
    have hold:∀ x,ownOf (fun x=>o2 x∧¬ Xi x) μ5 x→ownOf o2 μ2 x:=fun x hx=>h52 x (hx.imp (·.1) id)
    have hWW:∀ x,x<W.heap.size→x≠w.heap.size + 1→¬ ownOf o' μ' x→(w2.putObj (w.heap.size + 1) (.loop (rec stt pe))).heap[x]?=W.heap[x]?∧¬ ownOf (fun x=>o2 x∧¬ Xi x) μ5 x:=fun x hx hne ho=>by
     rw [World.putObj_heap_other hne]
     by_cases hxi:Xi x
     ·exact ⟨j2 x hxi,fun hc=>hc.elim (fun h=>h.2 hxi) (h5n x hxi)⟩
     ·obtain ⟨p1,p2⟩:=z47 x hx hne (fun hc=>hc.elim (fun h=>h.elim (fun h=>ho (.inl h)) hxi) fun h=>ho (.inr h))
      exact ⟨p1,fun hc=>p2 (hold x hc)⟩
    have hsz5:(w2.putObj (w.heap.size + 1) (.loop (rec stt pe))).heap.size=w2.heap.size:=by simp
    have hXR:∀ x,Xi x→x≠w.heap.size + 1:=fun x hx=>(g3 x (hXX x hx)).2.2.2.2.1
    refine ⟨fun x=>x<(w2.putObj (w.heap.size + 1) (.loop (rec stt pe))).heap.size∧¬ Xi x,fun x=>ownOf (fun x=>o2 x∧¬ Xi x) μ5 x∨x=w.heap.size + 1,?_,fun x hx=>hx.1,hfirm _ _ _ _ ?_,⟨by rw [hsz5];exact hsz,fun x hx hno=>?_⟩,fun x hx hc=>hc.2 hx⟩
    ·rintro x (hx | rfl)
     ·exact ⟨z75 h51 x (hx.imp (·.1) id),fun hxi=>hx.elim (fun h=>h.2 hxi) (h5n x hxi)⟩
     ·exact ⟨by rw [hsz5];exact hlt2,fun hxi=>hXR _ hxi rfl⟩
    ·rw [hJJ]
     refine ⟨e',k2,a',fun x=>b2 x∧¬ Xi x,fun x=>o2 x∧¬ Xi x,μ5,Xi,fun x=>Iff.rfl,fun x hx=>?_,fun x hx=>⟨?_,fun hc=>hc.2 hx,fun hc=>hc.elim (fun h=>h.2 hx) (h5n x hx),(g3 x (hXX x hx)).2.2.2.1,hXR x hx,(g3 x (hXX x hx)).2.2.2.2.2⟩,fun x hx=>⟨j3 x hx.1,hx.2⟩,?_,z105 hO j5 (fun x hx=>j4 x hx.1) (by omega) (fun hc=>hno2 (.inl hc.1)) ho2,⟨?_,fun x hx ho=>?_⟩,fun hc=>hnd2 (hold _ hc),fun hc=>hno2 (hold _ hc),?_,?_⟩
     ·by_cases hxi:Xi x
      ·exact .inr hxi
      ·exact .inl ⟨hx,hxi⟩
     ·rw [hsz5];exact Nat.lt_of_lt_of_le (hXi x hx).2 hsz
     ·refine h51.next (Nat.le_refl _) (fun _ _ _=>rfl) (fun x hx=>?_) (fun x hx=>h51.le x (hx.elim (·.1) (hXi2 x))) (fun x hx=>.inl (hx.elim (·.1) (j1 x))) (fun x hx=>?_)
      ·exact hx.imp (fun h=>⟨j3 x h.1,h.2⟩) id
      ·have:=(h51.own_base x hx).1
       exact fun hc=>this (hc.elim (·.1) (hXi2 x))
     ·rw [hsz5];exact Nat.le_trans g7.1 hsz
     ·obtain ⟨p1,p2⟩:=g7.2 x hx ho
      obtain ⟨p3,p4⟩:=hWW x (Nat.lt_of_lt_of_le hx g7.1) (by omega) p2
      exact ⟨p3.trans p1,p4⟩
     ·rw [World.putObj_heap_other (by omega)];exact hd2
     ·cases ki with
      | some i =>
       obtain ⟨q1,rfl,rfl⟩:=hki
       exact ⟨q1,World.putObj_heap_same hlt2⟩
      | none =>
       obtain ⟨q1,q2,rfl,rfl⟩:=hki
       exact ⟨q1,q2,World.putObj_heap_same hlt2⟩
    ·have hno':¬ ownOf o' μ' x∧x≠w.heap.size + 1:=⟨fun hc=>hno ((g1 x).2 (.inl hc)),fun hc=>hno ((g1 x).2 (.inr hc))⟩
     obtain ⟨p1,p2⟩:=hWW x hx hno'.2 hno'.1
     exact ⟨p1,fun hc=>hc.elim p2 hno'.2⟩
   have out_:∀ e3,(jumpCode e3).isSome→(∃ a',Weak (s2.wipe (dsts (.rangeFunc g ps assign body))) (fs a')∧Ix e3 k2 a')→∃ v w',(Instr.endRound (w.heap.size + 1) (jumpCode e3)).run P w2=.ok v w' ∧
     ∃ t b3 o3,Ending.returned v=.returned (.bool t)∧(∀ x,o3 x→b3 x)∧(∀ x,b3 x→x<w'.heap.size)∧Firm JJ (if t then some (i + 1) else none) b3 o3 w'∧Stays W os w' o3∧∀ x,Xi x→¬ b3 x:=by
    rintro e3 hjs ⟨a',hwk,hix⟩
    obtain ⟨b3,o3,q1,q2,q3,q4,q5⟩:=fin (jumpCode e3) .done a' none e3 hwk _ rfl ⟨hix,hjs,rfl,rfl⟩
    have hen:=run_endRound (P:=P) (jumpCode e3) hl2
    have hjn:(jumpCode e3).isNone=false:=by cases hj:jumpCode e3 <;> simp_all
    rw [hjn] at hen
    refine ⟨_,_,hen,false,b3,o3,rfl,q1,?_,?_,?_,q5⟩
    ·rw [hrec] at q2 ⊢;exact q2
    ·rw [hrec] at q3 ⊢;exact q3
    ·rw [hrec] at q4 ⊢;exact q4
   cases e2 with
   | normal =>
    obtain ⟨a',hwk,hI'⟩:=hq2
    obtain ⟨b3,o3,q1,q2,q3,q4,q5⟩:=fin none .ready a' (some (i + 1)) .normal hwk _ rfl ⟨hI',rfl,rfl⟩
    have hen:=run_endRound (P:=P) none hl2
    refine ⟨_,_,hen,true,b3,o3,rfl,q1,?_,?_,?_,q5⟩
    ·rw [hrec] at q2 ⊢;exact q2
    ·rw [hrec] at q3 ⊢;exact q3
    ·rw [hrec] at q4 ⊢;exact q4
   | ret=>exact out_ .ret hq2.1 hq2.2
   | exit id=>exact out_ (.exit id) hq2.1 hq2.2
   | goto t=>exact out_ (.goto t) hq2.1 hq2.2
   | panic c=>exact absurd hq2.1 (by simp [jumpCode])
   | outgrown=>exact absurd hq2.1 (by simp [jumpCode])
  | _=>exact hq1.elim
 -- what the iterator is handed
 obtain ⟨μi,hμi⟩:∃ μi:Pl,μi=fun i=>(ns[i]?).bind μ:=⟨_,rfl⟩
 have hμii:∀ i n,ns[i]?=some n→μi i=μ n:=fun i n hi=>by rw [hμi];simp [hi]
 have hμis:∀ i L,μi i=some L→∃ n,ns[i]?=some n∧μ n=some L:=fun i L hi=>by
  rw [hμi] at hi
  cases hn:ns[i]? with
  | none=>simp [hn] at hi
  | some n=>simp [hn] at hi;exact ⟨n,rfl,hi⟩
 have hμX:∀ x,μi.owns x→X0 x:=by
  rintro x ⟨i,z,l,c,hi⟩
  obtain ⟨m,hm,hμm⟩:=hμis i _ hi
  rw [hX0];exact ⟨m,z,l,c,List.mem_of_getElem? hm,hμm⟩
 obtain ⟨bs0,hbs0⟩:∃ bs0:Own,bs0=fun x=>x<W1.heap.size∧¬ X0 x:=⟨_,rfl⟩
 obtain ⟨os0,hos0⟩:∃ os0:Own,os0=fun x=>ownOf out μ0 x∨x=w.heap.size + 1:=⟨_,rfl⟩
 have hlow:∀ x,ownOf out μ0 x→x<w.heap.size:=fun x hx=>z75 hA0 x (hx.imp .inl id)
 have hgi:Goes w (ownOf out μ) W1 (ownOf os0 μi):=fun b o u p1 p2=>⟨fun hc=>by
  rw [hos0] at hc
  rcases hc with (hc | rfl) | hc
  ·exact p1 (hsub1 b hc)
  ·exact absurd (z65 p2) (by omega)
  ·exact p1 (hX0w b (hμX b hc)).1,by
   simp only [World.cell?] at p2 ⊢;rw [hB1.block b (z65 (w:=w) (o:=o) (v:=u) (by simpa [World.cell?] using p2))];exact p2⟩
 have hinv:∀ n,(μ n).isSome→∀ i,inv ns n=some i→μi i=μ n:=fun n _ i hi=>hμii i n (z76 hi)
 obtain ⟨hnl,hget⟩:=z568 hm0
 have hMi:MemRel bs0 os0 W1 μi (m0.map some):=by
  refine ⟨fun i b hi=>?_,fun i hi=>?_,fun a k b z l c z' l' c' h1 h2=>?_,fun i b z l c hi=>?_⟩
  ·simp only [List.getElem?_map,Option.map_eq_some_iff,Option.some.injEq] at hi
   obtain ⟨b0,hi,rfl⟩:=hi
   obtain ⟨m,b',h1,h2,rfl⟩:=hget i b0 hi
   refine BlkRel.mapN (.inl hgi) (hμii i m h1) hinv (fun b z l c hb=>?_) (hA.mem.blk m b' h2)
   exact hB1.block b (z50 hA.mem hb)
  ·obtain ⟨L,hL⟩:=Option.isSome_iff_exists.1 hi
   obtain ⟨m,hm,_⟩:=hμis i L hL
   have:i<m0.length:=by rw [← hnl];exact (List.getElem?_eq_some_iff.1 hm).1
   exact ⟨m0[i],by simp [this]⟩
  ·obtain ⟨m,hm,e1⟩:=hμis a _ h1
   obtain ⟨m',hm',e2⟩:=hμis k _ h2
   have:=hA.mem.inj m m' b _ _ _ _ _ _ e1 e2
   subst this
   exact z158 hnd hm hm'
  ·have hx:X0 b:=hμX b ⟨i,z,l,c,hi⟩
   have hx2:=(hX0w b hx).2.2
   refine ⟨by rw [hbs0];exact fun hc=>hc.2 hx,by omega,by rw [hos0];exact fun hc=>hc.elim (hX0n b hx) (by omega)⟩
 have hJ0:JJ (some 0) bs0 os0 W1:=by
  rw [hJJ]
  refine ⟨.normal,k,a0,base,out,μ0,X0,fun x=>by rw [hos0],fun x hx=>?_,fun x hx=>?_,hA.out,?_,fun w'' hb=>hJ w'' ((BelowU.of hB1 hA.le).trans hb),⟨hB1.size,fun b hb ho=>⟨hB1.block b hb,fun hc=>ho (hsub1 b hc)⟩⟩,fun hc=>by have:=hlow _ hc;omega,fun hc=>by have:=hlow _ hc;omega,hK1,h0,hL1⟩
  ·by_cases hx0:X0 x
   ·exact .inr hx0
   ·exact .inl (by rw [hbs0];exact ⟨hx,hx0⟩)
  ·obtain ⟨q1,q2,q3⟩:=hX0w x hx
   exact ⟨by omega,q2,hX0n x hx,by omega,by omega,.inl q1⟩
  ·exact hA0.next hB1.size (fun x hx _=>hB1.block x hx) hA0.out (fun x hx=>Nat.lt_of_lt_of_le (hA0.le x hx) hB1.size) (fun x hx=>.inl hx) (fun x hx=>(hA0.own_base x hx).1)
 have hvals:∀ (i:Nat) x v,((pre++.d (.yld (w.heap.size + 1))::post).map (AV.mapN (inv ns)))[i]?=some x→(fst++(#[.func (.yield (w.heap.size + 1)) #[] #[]]++caps))[i]?=some v→AVRel W1 (ownOf os0 μi) μi x v:=by
  intro i x v hx hv
  simp only [List.getElem?_map,Option.map_eq_some_iff] at hx
  obtain ⟨y,hx,rfl⟩:=hx
  have:=z383 (μ:=μ) (w:=w) (own:=ownOf out μ) hpl hpre (ys:=[AV.d (.yld (w.heap.size + 1))]++post) (vs:=(#[Value.func (.yield (w.heap.size + 1)) #[] #[]]:Array Value)++caps)
   (z383 (xs:=[AV.d (.yld (w.heap.size + 1))]) (us:=(#[Value.func (.yield (w.heap.size + 1)) #[] #[]]:Array Value)) rfl (fun i x v q1 q2=>by
    cases i with
    | zero=>simp at q1 q2;subst q1;subst q2;exact .d (.yld _)
    | succ i=>simp at q1) hpost) i y v hx hv
  exact this.mapN (.inl hgi) (fun n _ hs k hk=>hinv n hs k hk)
 have hcalls:=hit.2 (w.heap.size + 1) JJ W1 bs0 os0 μi (fst++(#[.func (.yield (w.heap.size + 1)) #[] #[]]++caps)) hOJ hG (fun x hx=>by
   rw [hos0] at hx
   rw [hbs0]
   rcases hx with hx | rfl
   ·exact ⟨by have:=hlow x hx;omega,fun hc=>hX0n x hc hx⟩
   ·exact ⟨by omega,fun hc=>by have:=(hX0w _ hc).2.2;omega⟩)
  (fun x hx=>by rw [hbs0] at hx;exact hx.1) hMi (hA.hid.goes hgi) (by simp [hpl,hql];omega) hvals (hfirm _ _ _ _ hJ0)
 refine ⟨w.heap.size + 1,[{ target:=.collected w.heap.size,args:=#[] }],W1,{ target:=.fn (.func f) caps,args:=fst++#[.func (.yield (w.heap.size + 1)) #[] #[]] },W1,f,
  fst++(#[.func (.yield (w.heap.size + 1)) #[] #[]]++caps),W1,?_,?_,fun _ _=>trivial,?_,fun h=>(by cases h),?_⟩
 ·rw [← hW1,hrec];exact run_enterLoop_outer _ _ _ _ _
 ·simp only [resolve]
  have hgv':({ tmps:=tmps,defers:=ds }:Act).eval g=.func (.func f) fst caps:=hgv
  simp only [hgv']
  simp [Deferred.ofValue,go_sem]
 ·simp [invoke];exact hit.1 _ _
 ·refine (callsIn_wide (n:=n - 1)).2 (hcalls.mono ?_)
  rintro e W2 ⟨v,bF,oF,rfl,_,_,hj⟩
  have hMk:∀ (o':Own) (μ':Pl) (W4:World),Stays w (ownOf out μ) W4 (ownOf o' μ')→¬ ownOf o' μ' w.heap.size→W4.heap[w.heap.size]?=some (.deferred (some [])) →
    Marked B (ownOf o' μ') ([{ target:=.collected w.heap.size,args:=#[] }]++ds) W4:=by
   intro o' μ' W4 hs hno hd
   obtain ⟨q0,rs,q1,q2,q3⟩:=hM
   refine ⟨Nat.le_trans q0 hs.1,w.heap.size::rs,by rw [q1];rfl,?_,fun r hr=>?_⟩
   ·rw [List.nodup_cons]
    refine ⟨fun hc=>?_,q2⟩
    have:=(Array.getElem?_eq_some_iff.1 (q3 _ hc).2.2).1
    omega
   ·rcases List.mem_cons.1 hr with rfl | hr
    ·exact ⟨q0,hno,hd⟩
    ·obtain ⟨p1,p2,p3⟩:=q3 r hr
     obtain ⟨p4,p5⟩:=hs.2 r (Array.getElem?_eq_some_iff.1 p3).1 p2
     exact ⟨p1,p5,p4.trans p3⟩
  rcases hj with hj | hj
  ·have hj:=hj W2 (.refl _ _)
   rw [hJJ] at hj
   obtain ⟨_,kk,a,b',o',μ',X,g1,g2,g3,g4,g5,g6,g7,g8,g9,g10,h7,h8⟩:=hj
   have hel:∃ o4,(Instr.endLoop (w.heap.size + 1)).run P W2=.ok (none) (W2.putObj (w.heap.size + 1) o4):=⟨_,by
    have hel:=run_endLoop (P:=P) h8 (by rw [hrec];simp)
    have hpn:(rec .ready none).pending=none:=by rw [hrec]
    rw [hpn] at hel
    exact hel⟩
   obtain ⟨o4,hel⟩:=hel
   have ho2:Other (w.heap.size + 1) W2 (W2.putObj (w.heap.size + 1) o4):=z199 h8 (fun _ _ _ e=>by cases e) (fun _ _ e=>by cases e)
   refine ⟨none,_,hel,?_⟩
   have hs4:Stays w (ownOf out μ) (W2.putObj (w.heap.size + 1) o4) (ownOf o' μ') :=
    ⟨by rw [World.putObj_size];exact g7.1,fun b hb ho=>⟨(World.putObj_heap_other (by omega)).trans (g7.2 b hb ho).1,(g7.2 b hb ho).2⟩⟩
   have g5':=(g5.other ho2).next (Nat.le_refl _) (fun _ _ _=>rfl) g4 (fun x hx=>(g5.other ho2).le x (.inl hx)) (fun x hx=>.inl (.inl hx)) (fun x hx hc=>(g5.own_base x hx).1 (.inl hc))
   exact ⟨kk,fs a,b',o',μ',g5',z105 hO g6 (fun x hx=>g5.le x (.inl hx)) (by omega) (fun hc=>g9 (.inl hc)) ho2,hMk o' μ' _ hs4 g8 (by rw [World.putObj_heap_other (by omega)];exact g10),hs4,Same.refl _ _,hdone kk a h7⟩
  ·have hj:=hj W2 (.refl _ _)
   rw [hJJ] at hj
   obtain ⟨e,kk,a,b',o',μ',X,g1,g2,g3,g4,g5,g6,g7,g8,g9,g10,h7,hjs,h8⟩:=hj
   have hel:∃ o4,(Instr.endLoop (w.heap.size + 1)).run P W2=.ok (jumpCode e) (W2.putObj (w.heap.size + 1) o4):=⟨_,by
    have hel:=run_endLoop (P:=P) h8 (by rw [hrec];simp)
    have hpn:(rec .done (jumpCode e)).pending=jumpCode e:=by rw [hrec]
    rw [hpn] at hel
    exact hel⟩
   obtain ⟨o4,hel⟩:=hel
   have ho2:Other (w.heap.size + 1) W2 (W2.putObj (w.heap.size + 1) o4):=z199 h8 (fun _ _ _ e=>by cases e) (fun _ _ e=>by cases e)
   refine ⟨jumpCode e,_,hel,?_⟩
   have hs4:Stays w (ownOf out μ) (W2.putObj (w.heap.size + 1) o4) (ownOf o' μ') :=
    ⟨by rw [World.putObj_size];exact g7.1,fun b hb ho=>⟨(World.putObj_heap_other (by omega)).trans (g7.2 b hb ho).1,(g7.2 b hb ho).2⟩⟩
   have g5':=(g5.other ho2).next (Nat.le_refl _) (fun _ _ _=>rfl) g4 (fun x hx=>(g5.other ho2).le x (.inl hx)) (fun x hx=>.inl (.inl hx)) (fun x hx hc=>(g5.own_base x hx).1 (.inl hc))
   have hend:∀ Q',Q' e kk (fs a)→Ends P J B (dsts (.rangeFunc g ps assign body)) (ownOf out μ) tmps w Q' e { tmps:=tmps,defers:=[{ target:=.collected w.heap.size,args:=#[] }]++ds } (W2.putObj (w.heap.size + 1) o4):=fun Q' hq =>
    ⟨kk,fs a,b',o',μ',g5',z105 hO g6 (fun x hx=>g5.le x (.inl hx)) (by omega) (fun hc=>g9 (.inl hc)) ho2,hMk o' μ' _ hs4 g8 (by rw [World.putObj_heap_other (by omega)];exact g10),hs4,Same.refl _ _,hq⟩
   have hq:=hstop e kk a h7 hjs
   cases e with
   | ret=>exact wpIn_ret (hend _ hq)
   | exit id=>exact wpIn_exit (hend _ hq)
   | goto t=>exact wpIn_goto (hend _ hq)
   | _=>simp [jumpCode] at hjs
end
end Go.Ab
/- More on functions that hand on elements: drawn regions told by what is still to come,arrays handed down with their room,functions that name themselves;the simp set. -/
namespace Go.Ab
open Go.RowKit
def viaVh (len:Nat):AV→AV
 | .own n=>.vh n len
 | .vh n l=>.vh n l
 | _=>.undef
def St.asVh (n:Nat) (st:St):St:=match (st.m[n]?:Option (Option Blk)) with
 | some (some (.arr e z rows))=>{ t:=st.t.map (AV.sub n (viaVh rows.length)),m:=(subMem n (viaVh rows.length) st.m).set n (some (.arrP e z rows)) }
 | _=>st
def St.fewer (n k:Nat) (st:St):St:=match (st.m[n]?:Option (Option Blk)) with
 | some (some (.arrP e z rows))=>{ t:=st.t,m:=st.m.set n (some (.arrP e z (rows.take k))) }
 | _=>st
def vcOf (len:Nat):AV→AV
 | .vh n l=>if l=len then .vc n l else .undef
 | .vc n l=>.vc n l
 | _=>.undef
def St.vRoom (n:Nat) (st:St):St:=match (st.m[n]?:Option (Option Blk)) with
 | some (some (.arrP e z rows))=>{ t:=st.t.map (AV.sub n (vcOf rows.length)),m:=(subMem n (vcOf rows.length) st.m).set n (some (.arrP e z rows)) }
 | _=>st
def St.vFull (n:Nat) (st:St):St:=match (st.m[n]?:Option (Option Blk)) with
 | some (some (.arrP e z rows))=>{ t:=st.t,m:=st.m.set n (some (.arr e z rows)) }
 | _=>st
section
variable {P:Program} {base:Own} {out:Own} {st st':St} {μ:Pl} {tmps:Array Value} {w w':World} {J:Env} {k:Option Nat} {B:Nat}
theorem z193 (n:Nat) (st:St) (hne:∀ e z,st.m[n]?≠some (some (.arr e z []))):Weak st (st.asVh n):=by
 intro P base out μ tmps w h
 unfold St.asVh
 split
 ·rename_i e z rows hn
  have hrn:rows≠[]:=fun e'=>hne e z (by rw [hn,e'])
  rcases h.mem.arr hn with ⟨_,h0⟩ | ⟨b,cap,cs,hμ,hh,hle,hcm,hcs,hz,hd⟩
  ·exact absurd h0 hrn
  have hlt:n<st.m.length:=(List.getElem?_eq_some_iff.1 hn).1
  have hsub:=z969 (out:=out) (l':=cap) (c':=cap) hμ
  have hg:Goes w (ownOf out μ) w (ownOf out (μ.upd n (some (.at b z cap cap)))):=fun q o v h1 h2=>⟨fun hc=>h1 (hsub q hc),h2⟩
  refine ⟨μ.upd n (some (.at b z cap cap)),?_,hsub⟩
  refine h.turn (n:=n) (f:=viaVh rows.length) hg (fun k hk=>Pl.upd_ne μ _ hk) (fun y u hy hr=>?_) (fun _ _ _ _ _ _ _=>rfl) (Nat.le_refl _)
   (fun k hk=>by rw [List.getElem?_set_ne (Ne.symm hk),z30]) (fun b' hb'=>?_) (fun _=>⟨.arrP e z rows,by rw [List.getElem?_set_self (by rw [z98];exact hlt)]⟩) (fun b' z' l c hb'=>?_)
  ·cases y <;> simp only [AV.name?,Option.some.injEq,reduceCtorEq] at hy <;> subst hy <;> simp only [viaVh] <;> try exact .undef _
   ·rcases z44 hr with ⟨h1,_⟩ | ⟨b2,z2,l2,c2,h1,rfl⟩
    ·rw [hμ] at h1;cases h1
    ·rw [hμ] at h1;cases h1
     exact .vh _ (Pl.upd_same μ _ _) hle
   ·cases hr with
    | vh _ h1 hle2 =>
     rw [hμ] at h1;cases h1
     exact .vh _ (Pl.upd_same μ _ _) hle2
  ·rw [List.getElem?_set_self (by rw [z98];exact hlt)] at hb'
   cases hb'
   exact ⟨b,cap,cs,Pl.upd_same μ n _,hh,hle,hcm,hcs,hz,fun i r j d h1 h2=>let ⟨v,p,q,r⟩:=hd i r j d h1 h2;⟨v,p,q,r.goes hg⟩⟩
  ·rw [Pl.upd_same] at hb';cases hb'
   exact ⟨h.mem.base n b _ _ _ hμ,fun k z' l' c' hk hc=>hk (h.mem.inj k n b _ _ _ _ _ _ hc hμ)⟩
 ·exact ⟨μ,h,fun _ hb=>hb⟩
theorem z249 {m:List (Option Blk)} {n:Nat} {b b':Blk} (hM:MemRel base out w μ m) (hn:m[n]?=some (some b)) (hb:BlkRel w (ownOf out μ) μ n b'):MemRel base out w μ (m.set n (some b')):=by
 have hlt:n<m.length:=(List.getElem?_eq_some_iff.1 hn).1
 refine ⟨fun k bk hk=>?_,fun k hk=>?_,hM.inj,hM.base⟩
 ·by_cases hkn:n=k
  ·subst hkn
   rw [List.getElem?_set_self hlt] at hk
   cases hk
   exact hb
  ·rw [List.getElem?_set_ne hkn] at hk
   exact hM.blk k bk hk
 ·by_cases hkn:n=k
  ·subst hkn
   exact ⟨b',List.getElem?_set_self hlt⟩
  ·rw [List.getElem?_set_ne hkn]
   exact hM.dom k hk
theorem z354 (n k:Nat) (st:St):Weak st (st.fewer n k):=by
 intro P base out μ tmps w h
 unfold St.fewer
 split
 ·rename_i e z rows hn
  obtain ⟨b,cap,cs,hμ,hh,hle,hcm,hcs,hz,hd⟩:=h.mem.arrP hn
  refine ⟨μ,⟨h.size,h.tmp,z249 h.mem hn ⟨b,cap,cs,hμ,hh,by rw [List.length_take];omega,hcm,hcs,fun r hr=>hz r (List.mem_of_mem_take hr),fun i r j d h1 h2=>?_⟩,h.hid,h.out,h.le⟩,fun _ hb=>hb⟩
  rw [List.getElem?_take] at h1
  split at h1
  ·exact hd i r j d h1 h2
  ·cases h1
 ·exact ⟨μ,h,fun _ hb=>hb⟩
theorem z898 (h:StRel P base out st μ tmps w) {n:Nat} {e:TypeId} {z:Nat} {rows:List (List DV)} (hn:st.m[n]?=some (some (.arrP e z rows))) :
  StRel P base out (st.vFull n) μ tmps w∨StRel P base out (st.vRoom n) μ tmps w:=by
 obtain ⟨b,cap,cs,hμ,hh,hle,hcm,hcs,hz,hd⟩:=h.mem.arrP hn
 by_cases hc:rows.length=cap
 ·left
  unfold St.vFull
  simp only [hn]
  exact ⟨h.size,h.tmp,z249 h.mem hn (.inr ⟨b,cap,cs,by rw [hc];exact hμ,hh,hle,hcm,hcs,hz,hd⟩),h.hid,h.out,h.le⟩
 ·right
  have hlt:n<st.m.length:=(List.getElem?_eq_some_iff.1 hn).1
  unfold St.vRoom
  simp only [hn]
  have hg:=Goes.refl w (ownOf out μ)
  refine h.turn (n:=n) (f:=vcOf rows.length) hg (fun _ _=>rfl) (fun y u hy hr=>?_) (fun _ _ _ _ _ _ _=>rfl) (Nat.le_refl _)
   (fun k hk=>by rw [List.getElem?_set_ne (Ne.symm hk),z30]) (fun b' hb'=>?_) (fun _=>⟨.arrP e z rows,by rw [List.getElem?_set_self (by rw [z98];exact hlt)]⟩) (fun b' z' l c hb'=>?_)
  ·cases y <;> simp only [AV.name?,Option.some.injEq,reduceCtorEq] at hy <;> subst hy <;> simp only [vcOf] <;> try exact .undef _
   ·split
    ·rename_i hl
     subst hl
     cases hr with
     | vh _ h1 hle2 =>
      rw [hμ] at h1;cases h1
      exact .vc _ hμ (by omega)
    ·exact .undef _
   ·exact hr
  ·rw [List.getElem?_set_self (by rw [z98];exact hlt)] at hb'
   cases hb'
   exact ⟨b,cap,cs,hμ,hh,hle,hcm,hcs,hz,hd⟩
  ·exact ⟨h.mem.base n b' _ _ _ hb',fun k z' l' c' hk hc=>hk (h.mem.inj k n b' _ _ _ _ _ _ hc hb')⟩
theorem z585 {rd:Option Nat} {n:Nat} {c:Code} {cs:List Code} {Q:Exit→Option Nat→St→Prop} (a:Nat) {e:TypeId} {z:Nat} {rows:List (List DV)} (hn:st.m[a]?=some (some (.arrP e z rows)))
  (h1:WalkL P rd n J (c::cs) k (st.vFull a) Q) (h2:WalkL P rd n J (c::cs) k (st.vRoom a) Q):WalkL P rd n J (c::cs) k st Q:=fun B base out μ tmps w ds hO hA hJ hM=>by
 rcases z898 hA hn with hA' | hA'
 ·exact h1 B base out μ tmps w ds hO hA' hJ hM
 ·exact h2 B base out μ tmps w ds hO hA' hJ hM
def cycD (f:FuncId) (caps:List (Option DV)):Nat→DV
 | 0=>.any
 | i + 1=>.ptr [.fn f (caps.map fun c=>c.getD (cycD f caps i))] 0
def cycCaps (n:Nat):List AV→Option (List (Option DV))
 | []=>some []
 | .d d::l=>(cycCaps n l).map (some d::·)
 | .box k o::l=>if k=n∧o=0 then (cycCaps n l).map (none::·) else none
 | _::_=>none
theorem z190 {n:Nat}:∀ {xs:List AV} {caps:List (Option DV)},cycCaps n xs=some caps→xs.length=caps.length∧∀ (i:Nat) c,caps[i]?=some c→(c=none∧xs[i]?=some (.box n 0))∨∃ d,c=some d∧xs[i]?=some (.d d)
 | [],caps,h=>by cases h;exact ⟨rfl,fun i c h=>by simp at h⟩
 | .d d::l,caps,h=>by
  rw [cycCaps,Option.map_eq_some_iff] at h
  obtain ⟨l',hl,rfl⟩:=h
  obtain ⟨h1,h2⟩:=z190 hl
  refine ⟨by simp [h1],fun i c hi=>?_⟩
  cases i with
  | zero=>simp at hi;subst hi;exact .inr ⟨d,rfl,rfl⟩
  | succ i=>simpa using h2 i c (by simpa using hi)
 | .box k o::l,caps,h=>by
  rw [cycCaps] at h
  split at h
  ·rename_i hk
   obtain ⟨rfl,rfl⟩:=hk
   rw [Option.map_eq_some_iff] at h
   obtain ⟨l',hl,rfl⟩:=h
   obtain ⟨h1,h2⟩:=z190 hl
   refine ⟨by simp [h1],fun i c hi=>?_⟩
   cases i with
   | zero=>simp at hi;subst hi;exact .inl ⟨rfl,rfl⟩
   | succ i=>simpa using h2 i c (by simpa using hi)
  ·cases h
 | .undef::_,_,h | .void::_,_,h | .nil::_,_,h | .elem ..::_,_,h | .own _::_,_,h | .view ..::_,_,h | .bsl ..::_,_,h | .mp _::_,_,h | .vh ..::_,_,h | .vc ..::_,_,h | .dfull _::_,_,h | .agg _::_,_,h
 | .tup _::_,_,h | .fn ..::_,_,h=>by cases h
def cycLeaf (d:DV):AV→AV
 | .box _ 0=>.d d
 | _=>.undef
def St.cyc (n depth:Nat) (st:St):St:=match (st.m[n]?:Option (Option Blk)) with
 | some (some (.box [.fn f xs]))=>match cycCaps n xs with
  | some caps=>{ t:=st.t.map (AV.sub n (cycLeaf (cycD f caps depth))),m:=subMem n (cycLeaf (cycD f caps depth)) (st.m.set n none) }
  | none=>st
 | _=>st
theorem z893 (n depth:Nat) (st:St):Weak st (st.cyc n depth):=by
 intro P base out μ tmps w h
 unfold St.cyc
 split
 ·rename_i f xs hn
  split
  ·rename_i caps hcaps
   obtain ⟨b,cs,ty,hμ,hh,hle,hcell⟩:=h.mem.box hn
   have hlt:n<st.m.length:=(List.getElem?_eq_some_iff.1 hn).1
   have hown:∀ k,ownOf out (μ.upd n none) k→ownOf out μ k:=by
    rintro k (hk | ⟨a,z,l,c,ha⟩)
    ·exact .inl hk
    ·by_cases han:a=n
     ·subst han;rw [Pl.upd_same] at ha;cases ha
     ·rw [Pl.upd_ne μ _ han] at ha;exact .inr ⟨a,z,l,c,ha⟩
   have hnb:¬ ownOf out (μ.upd n none) b:=by
    rintro (hc | ⟨a,z,l,c,ha⟩)
    ·exact (h.mem.base n b _ _ _ hμ).2.2 hc
    ·by_cases han:a=n
     ·subst han;rw [Pl.upd_same] at ha;cases ha
     ·rw [Pl.upd_ne μ _ han] at ha;exact han (h.mem.inj a n b _ _ _ _ _ _ ha hμ)
   have hg:Goes w (ownOf out μ) w (ownOf out (μ.upd n none)):=fun k o v h1 h2=>⟨fun hc=>h1 (hown k hc),h2⟩
   have hcs1:0<cs.size:=hle
   obtain ⟨v0,hv0⟩:∃ v,cs[0]?=some v:=⟨cs[0],by simp [hcs1]⟩
   obtain ⟨hone,hrel⟩:=hcell 0 (.fn f xs) v0 rfl hv0
   obtain ⟨vs,rfl,hvl,hvd⟩:=z702 hrel
   obtain ⟨hcl,hcg⟩:=z190 hcaps
   have hcell0:w.cell? ⟨b,0,none⟩=some (.func (.func f) #[] vs):=by rw [z46 hh];exact hv0
   have key:∀ i,DRel w (ownOf out (μ.upd n none)) (cycD f caps i) (.pointer (some ⟨b,0,none⟩)):=by
    intro i
    induction i with
    | zero=>exact .any _ rfl
    | succ i ih =>
     have hfn:DRel w (ownOf out (μ.upd n none)) (.fn f (caps.map fun c=>c.getD (cycD f caps i))) (.func (.func f) #[] vs):=by
      refine .fn f _ vs (by rw [List.length_map,← hcl,hvl]) (fun j d u h1 h2=>?_)
      simp only [List.getElem?_map,Option.map_eq_some_iff] at h1
      obtain ⟨c,h1,rfl⟩:=h1
      rcases hcg j c h1 with ⟨rfl,h3⟩ | ⟨d,rfl,h3⟩
      ·obtain ⟨b2,z2,l2,c2,h4,rfl⟩:=z94 (hvd j _ u h3 h2)
       rw [hμ] at h4;cases h4
       exact ih
      ·exact (hvd j _ u h3 h2).d_inv.goes hg
     have:=DRel.ptr (w:=w) (own:=ownOf out (μ.upd n none)) [.fn f (caps.map fun c=>c.getD (cycD f caps i))] 0 b 0 (fun _=>.func (.func f) #[] vs)
      (fun j d hj=>by
       have hj0:j=0:=by have:=(List.getElem?_eq_some_iff.1 hj).1;simpa using this
       subst hj0
       exact ⟨hnb,hcell0,hone⟩)
      (fun j d hj=>by
       have hj0:j=0:=by have:=(List.getElem?_eq_some_iff.1 hj).1;simpa using this
       subst hj0
       simp at hj
       subst hj
       exact hfn)
     exact this
   refine ⟨μ.upd n none,?_,hown⟩
   refine h.turn (n:=n) (f:=cycLeaf (cycD f caps depth)) hg (fun k hk=>Pl.upd_ne μ _ hk) (fun y u hy hr=>?_) (fun _ _ _ _ _ _ _=>rfl) (Nat.le_refl _)
    (fun k hk=>by rw [z30,List.getElem?_set_ne (Ne.symm hk)]) (fun b' hb'=>by rw [z30] at hb';simp [hlt] at hb') (fun hs=>by rw [Pl.upd_same] at hs;cases hs)
    (fun b z l c hc=>by rw [Pl.upd_same] at hc;cases hc)
   unfold cycLeaf
   split
   ·rename_i k
    simp only [AV.name?,Option.some.injEq] at hy
    subst hy
    obtain ⟨b2,z2,l2,c2,h4,rfl⟩:=z94 hr
    rw [hμ] at h4;cases h4
    exact .d (key depth)
   ·exact .undef _
  ·exact ⟨μ,h,fun _ hb=>hb⟩
 ·exact ⟨μ,h,fun _ hb=>hb⟩
theorem z581 {rd:Option Nat} {n:Nat} {ops:Array Oper} {l:Nat} {items:List (List DV)} (hG:GivesE P l J items) (ys:List Nat) (p:Nat) {id:Nat} {Q:Exit→Option Nat→St→Prop} (hfol:P.follows .mixedOrders=true) (hback:backB ops=true) (hp:tailB ops p=true) (hps:p≤ops.size)
  (G:(Nat→Bool)→St) (h0:G (fun i=>decide (i<p))=st) (hs:stepsC P (ops.toList.take p) G (ops.toList.take p) 0) {s1:St} (hw:Weak (G fun _=>false) s1) (h:runE P l items ys ops (ops.toList.drop p) k s1 (Q .normal)) :
  Walk P rd n J (.region id ops true) k st Q:=fun B base out μ tmps w ds hO hst hJ hM=>by
 refine wpIn_region_any hfol ?_
 have hB0:Below w.heap.size w { w with drawn:=w.drawn + 1 }:=(Below.refl _ w).drew
 have hsz:ops.size=(ops.size - p) + p:=by omega
 conv=>arg 7;rw [hsz]
 have htk:∀ (j:Nat) (o:Oper),ops[j]?=some o→j<p→(ops.toList.take p)[j]?=some o:=fun j o ho hj=>by rw [List.getElem?_take,if_pos hj];simpa using ho
 refine z713 (st':=G fun _=>false) (fun i=>i) (fun a b=>¬ Anc ops a b) (fun rs s s'=>LeftC ops G rs s s'∧(∀ i ∈ rs,i<p)∧∀ (j:Nat) (o:Oper),j<p→ops[j]?=some o→j ∉ rs→∀ e ∈ o.after,Region.binds .any e=true→e.on ∉ rs)
  (fun s s' hc=>by rw [hc.1.now,hc.1.fin];rfl) (fun r rs s s' hc=>?_) (fun r B s s' A hA hc=>?_)
  hback p (fun i j hi hj hs=>z165 hp i j (by omega) hj hs) (ops.size - p) p _ (List.range p) st μ tmps _ (by simp) (by simpa using List.pairwise_lt_range) (by simp) (fun i=>?_) (fun j hj hs=>by simp [hs]) (fun k o ho hk=>?_) ?_ ?_ (hst.below hB0) (fun listed' tmps' μ' w' g1 g2 g3 h1 hB hS=>?_)
 ·obtain ⟨⟨h1,h2,h3,h4,h5⟩,h7,h6⟩:=hc
  have hr:=h5 r (by simp)
  have hrp:=h7 r (by simp)
  obtain ⟨o,ho⟩:∃ o,ops[r]?=some o:=⟨ops[r],by simp [hr]⟩
  rw [List.pairwise_cons] at h4
  rw [List.nodup_cons] at h3
  have hni:∀ e ∈ o.after,Region.binds .any e=true→e.on ∉ r::rs:=by
   intro e he hb hc
   have hlt:=z115 hback ho he hb
   have hanc:Anc ops e.on r:=.edge ho he hb
   rcases List.mem_cons.1 hc with hc | hc
   ·omega
   ·exact h4.1 _ hc hanc
  have hg:=z223 (ops.toList.take p) 0 r o hs (htk r o ho hrp) (fun i=>(r::rs).contains i) (by simp) (z211 fun e he hb=>by
   simpa using hni e (by simpa using he) hb) (z241 _ _ fun j q hq hm=>z211 fun e he hb=>by
    have hj:j ∉ r::rs:=by simpa using hm
    rw [List.getElem?_take] at hq
    split at hq
    ·rename_i hjp
     simpa using h6 j q hjp (by simpa using hq) hj e (by simpa using he) hb
    ·cases hq)
  obtain ⟨hd,hgu,hk⟩:=hg
  obtain ⟨s1,hs1,he⟩:=z126 hk
  refine ⟨o,s1,ho,hd,by unfold StepG;rw [hgu,h1];exact hs1,?_⟩
  refine ⟨⟨?_,h2,h3.2,h4.2,fun i hi=>h5 i (by simp [hi])⟩,fun i hi=>h7 i (by simp [hi]),fun j q hjp hq hj e he hb hc=>?_⟩
  ·rw [he]
   congr 1
   funext j
   unfold offM
   rw [Nat.zero_add]
   by_cases hj:j=r
   ·subst hj
    rw [if_pos rfl]
    have:¬ rs.contains j=true:=by simpa using h3.1
    simpa using this
   ·rw [if_neg hj]
    simp [hj]
  ·by_cases hjr:j=r
   ·subst hjr
    rw [hq] at ho
    cases ho
    exact hni e he hb (by simp [hc])
   ·exact h6 j q hjp hq (by simp [hjr,hj]) e he hb (by simp [hc])
 ·obtain ⟨⟨h1,h2,h3,h4,h5⟩,h7,h6⟩:=hc
  have hsub:(A++B).Sublist (A++r::B):=List.Sublist.append_left (List.sublist_cons_self r B) A
  have hmem:∀ i,i ∈ r::(A++B)↔i ∈ A++r::B:=by
   intro i
   simp
   constructor
   ·rintro (h | h | h) <;> simp [h]
   ·rintro (h | h | h) <;> simp [h]
  refine ⟨⟨?_,h2,?_,?_,fun i hi=>h5 i ((hmem i).1 hi)⟩,fun i hi=>h7 i ((hmem i).1 hi),fun j q hjp hq hj e he hb hc=>h6 j q hjp hq (fun h=>hj ((hmem j).2 h)) e he hb ((hmem _).1 hc)⟩
  ·rw [h1]
   congr 1
   funext j
   rw [Bool.eq_iff_iff]
   simp
   constructor
   ·rintro (h | h | h) <;> simp [h]
   ·rintro (h | h | h) <;> simp [h]
  ·rw [List.nodup_cons]
   refine ⟨?_,h3.sublist hsub⟩
   rw [List.nodup_append] at h3
   intro hc
   rcases List.mem_append.1 hc with hc | hc
   ·exact h3.2.2 r hc r (by simp) rfl
   ·exact (List.nodup_cons.1 h3.2.1).1 hc
  ·rw [List.pairwise_cons]
   refine ⟨fun b hb=>?_,h4.sublist hsub⟩
   rcases List.mem_append.1 hb with hb | hb
   ·exact hA b hb
   ·rw [List.pairwise_append] at h4
    exact (List.pairwise_cons.1 h4.2.1).1 b hb
 ·simp only [List.map_id',List.mem_range,Array.getElem?_replicate]
  constructor
  ·intro hi;exact ⟨hi,by rw [if_pos (by omega)]⟩
  ·intro hi;exact hi.1
 ·simp only [Array.getElem?_replicate] at hk
  split at hk <;> simp at hk
 ·have hpr:(List.range p).Pairwise (·<·):=List.pairwise_lt_range
  exact hpr.imp fun {a b} _=>Classical.em _
 ·refine ⟨⟨?_,rfl,List.nodup_range,?_,fun i hi=>by have:=List.mem_range.1 hi;omega⟩,fun i hi=>List.mem_range.1 hi,fun j o hjp ho hj=>absurd (List.mem_range.2 hjp) hj⟩
  ·rw [← h0]
   congr 1
   funext i
   rw [Bool.eq_iff_iff]
   simp
  ·exact List.pairwise_lt_range.imp fun {a b} hab hc=>by
    have:=z963 hback hc
    omega
 ·have hB1:=(KeepO.below (own:=ownOf out μ) hB0 hst.le).trans hB
  refine z460 hback (z165 hp) (ops.size - p) p listed' _ w' (by omega) (Nat.le_refl _) g1 (fun i hi=>g2 i hi (by omega)) g3 ?_
  have hst1:Stays w (ownOf out μ) w' (ownOf out μ'):=⟨hB1.keep.below.size,hB1.stays⟩
  obtain ⟨μ3,h3,hsub⟩:=hw P base out μ' tmps' w' h1
  have hst2:Stays w (ownOf out μ) w' (ownOf out μ3):=hst1.trans (.less hsub)
  have:=z227 (n:=n) (rd:=rd) hG hO (ds:=ds) (Qm:=Ends P J B (dsts (.region id ops true)) (ownOf out μ) tmps w Q) (ops.toList.drop p) p k s1 (Q .normal) base out μ3 tmps' w' (fun j o hj=>by simpa [List.getElem?_drop] using hj) h h3 (Firm.next hJ hB1.keep.below) (Nat.le_trans hM.1 hst1.1)
   (fun k' st' base' out' μ2 tmps2 w2 h2 hJ' hs hSa hk=>⟨k',st',base',out',μ2,h2,hJ',hM.stays (hst2.trans hs),hst2.trans hs,hS.trans (hSa.mono fun i hi=>z184 p hi),hk⟩)
  simpa using this
theorem z116 {rd:Option Nat} {n:Nat} {ops:Array Oper} {l:Nat} {items:List (List DV)} (hG:GivesE P l J items) (ys:List Nat) (p:Nat) {id:Nat} {cs:List Code} {Q:Exit→Option Nat→St→Prop} (hfol:P.follows .mixedOrders=true) (hback:backB ops=true) (hp:tailB ops p=true) (hps:p≤ops.size)
  (G:(Nat→Bool)→St) (h0:G (fun i=>decide (i<p))=st) (hs:stepsC P (ops.toList.take p) G (ops.toList.take p) 0) {s1:St} (hw:Weak (G fun _=>false) s1)
  (h:∀ K:Option Nat→St→Prop,(∀ k s,WalkL P rd n J cs k s Q→K k s)→runE P l items ys ops (ops.toList.drop p) k s1 K):WalkL P rd n J (.region id ops true::cs) k st Q :=
 z581 hG ys p hfol hback hp hps G h0 hs hw (h _ fun _ _ h=>h)
theorem z470 {n:Nat} {α:Type} {cs:List Code} {Q:Exit→Option Nat→St→Prop} {g:Operand} {ps:Array Tmp} {assign body:Code} {f:FuncId} {pre post:List AV} {items:List (List DV)} (ns:List Nat) {m0:List Blk}
  (hg:rangeOf st g=some (f,pre,post)) (hnd:ns.Nodup) (hm0:ceded st ns ns=some m0) (hit:IterE P f m0 (fun l=>(pre++.d (.yld l)::post).map (AV.mapN (inv ns))) items) (hps:∀ row ∈ items,row.length=ps.size)
  (ts:α→List (Nat × AV)) (ms:α→List (Nat × Option Blk)) (I:Nat→α→Prop) (Ix:Exit→α→Prop) (a0:α) (hw:Weak (st.cede ns) ((st.cede ns).head (dsts (.rangeFunc g ps assign body)) (ts a0) (ms a0))) (h0:I 0 a0)
  (hround:∀ X W i a row,items[i]?=some row→I i a→∀ l m,WalkL P (some l) m (lendJ X W J) [assign] k { t:=setPs ps.toList row ((st.cede ns).head (dsts (.rangeFunc g ps assign body)) (ts a) (ms a)).t,m:=((st.cede ns).head (dsts (.rangeFunc g ps assign body)) (ts a) (ms a)).m }
   (thenA (fun k2 s=>WalkL P (some l) m (lendJ X W J) [body] k2 s fun e k3 s3=>k3=k∧match e with
    | .normal=>∃ a',Weak (s3.wipe (dsts (.rangeFunc g ps assign body))) ((st.cede ns).head (dsts (.rangeFunc g ps assign body)) (ts a') (ms a'))∧I (i + 1) a'
    | e=>(jumpCode e).isSome∧∃ a',Weak (s3.wipe (dsts (.rangeFunc g ps assign body))) ((st.cede ns).head (dsts (.rangeFunc g ps assign body)) (ts a') (ms a'))∧Ix e a') (fun _ _ _=>False)))
  (hdone:∀ a,I items.length a→WalkL P none n J cs k ((st.cede ns).head (dsts (.rangeFunc g ps assign body)) (ts a) (ms a)) Q) (hstop:∀ e a,Ix e a→(jumpCode e).isSome→Q e k ((st.cede ns).head (dsts (.rangeFunc g ps assign body)) (ts a) (ms a))) :
  WalkL P none n J (.rangeFunc g ps assign body::cs) k st Q:=by
 refine z471 ns hg hnd hm0 hit hps (fun a=>(st.cede ns).head (dsts (.rangeFunc g ps assign body)) (ts a) (ms a)) (fun k' i a=>k'=k∧I i a) (fun e k' a=>k'=k∧Ix e a) a0 hw ⟨rfl,h0⟩ ?_ ?_ ?_
 ·rintro X W k' i a row hi ⟨rfl,hI⟩ l m
  refine z106 (hround X W i a row hi hI l m) fun e k2 s hq=>?_
  cases e with
  | normal =>
   refine z106 (z55 hq) fun e k3 s3 hq3=>?_
   obtain ⟨rfl,h⟩:=hq3
   cases e with
   | normal=>obtain ⟨a',h1,h2⟩:=h;exact ⟨a',h1,rfl,h2⟩
   | _=>obtain ⟨hj,a',h1,h2⟩:=h;exact ⟨hj,a',h1,rfl,h2⟩
  | _=>exact hq
 ·rintro k' a ⟨rfl,hI⟩;exact hdone a hI
 ·rintro e k' a ⟨rfl,hI⟩ hj;exact hstop e a hI hj
end
theorem z683 {P:Program} {l:Nat} {items:List (List DV)} {o:Oper} {k:Option Nat} {s:St} {K K':Option Nat→St→Prop} (h:callYK P l items o k s K) (hK:∀ k s,K k s→K' k s):callYK P l items o k s K':=by
 obtain ⟨kk,h1,gx,h2,ns,m0,its,a1,a2,a3,a4,a5,a6⟩:=h
 exact ⟨kk,h1,gx,h2,ns,m0,its,a1,a2,a3,a4,hK _ _ a5,hK _ _ a6⟩
theorem z361 {P:Program} {l:Nat} {items:List (List DV)} {ys:List Nat} {o:Oper} {k:Option Nat} {s:St} {K K':Option Nat→St→Prop} (h:stepE P l items ys o k s K) (hK:∀ k s,K k s→K' k s):stepE P l items ys o k s K':=by
 unfold stepE at h ⊢
 split
 ·rename_i hy
  rw [hy] at h
  obtain ⟨h1,kk,row,h2,h3,h4,h5,h6,h7⟩:=h
  exact ⟨h1,kk,row,h2,h3,h4,h5,hK _ _ h6,hK _ _ h7⟩
 ·rename_i hy
  rw [hy] at h
  dsimp only at h ⊢
  split at h
  ·exact z683 h hK
  ·exact z224 h fun s=>hK k s
theorem z447 (P:Program) (l:Nat) (items:List (List DV)) (ys:List Nat) (o:Oper) (k:Option Nat) (s:St) (R:Option Nat→St→Prop):guardRunEY P l items ys (.d (.bool true)) true o k s R=stepE P l items ys o k s R:=by
 apply propext
 exact ⟨fun h=>(h R (fun _ _ h=>h)).1 rfl,fun h K' hK=>⟨fun _=>z361 h hK,fun e=>(by cases e)⟩⟩
theorem z450 (P:Program) (l:Nat) (items:List (List DV)) (ys:List Nat) (o:Oper) (k:Option Nat) (s:St) (R:Option Nat→St→Prop):guardRunEY P l items ys (.d (.bool false)) false o k s R=stepE P l items ys o k s R:=by
 apply propext
 exact ⟨fun h=>(h R (fun _ _ h=>h)).1 rfl,fun h K' hK=>⟨fun _=>z361 h hK,fun e=>(by cases e)⟩⟩
theorem z448 (P:Program) (l:Nat) (items:List (List DV)) (ys:List Nat) (o:Oper) (k:Option Nat) (s:St) (R:Option Nat→St→Prop):guardRunEY P l items ys (.d (.bool true)) false o k s R=R k (s.put o.dst .void):=by
 apply propext
 exact ⟨fun h=>(h R (fun _ _ h=>h)).2 rfl,fun h K' hK=>⟨fun e=>(by cases e),fun _=>hK _ _ h⟩⟩
theorem z449 (P:Program) (l:Nat) (items:List (List DV)) (ys:List Nat) (o:Oper) (k:Option Nat) (s:St) (R:Option Nat→St→Prop):guardRunEY P l items ys (.d (.bool false)) true o k s R=R k (s.put o.dst .void):=by
 apply propext
 exact ⟨fun h=>(h R (fun _ _ h=>h)).2 rfl,fun h K' hK=>⟨fun e=>(by cases e),fun _=>hK _ _ h⟩⟩
theorem z304 (P:Program) (l:Nat) (items:List (List DV)) (ys:List Nat) (want:Bool) (o:Oper) (k:Option Nat) (s:St) (R:Option Nat→St→Prop):guardRunEY P l items ys .void want o k s R=R k (s.put o.dst .void):=by
 apply propext
 exact ⟨fun h=>h R (fun _ _ h=>h),fun h K' hK=>hK _ _ h⟩
theorem z906 (P:Program) (l:Nat) (items:List (List DV)) (ys:List Nat) (ops:Array Oper) (k:Option Nat) (s:St) (K:Option Nat→St→Prop):runE P l items ys ops [] k s K=K k s:=rfl
theorem z828 (P:Program) (l:Nat) (items:List (List DV)) (ys:List Nat) (ops:Array Oper) (o:Oper) (os:List Oper) (k:Option Nat) (x:AV) (t:List AV) (m:List (Option Blk)) (K:Option Nat→St→Prop):runE P l items ys ops (o::os) k ⟨x::t,m⟩ K=(dstOk o=true∧match guardT ops o with
  | none=>False
  | some none=>stepE P l items ys o k ⟨x::t,m⟩ fun k s=>runE P l items ys ops os k s K
  | some (some (t',want))=>guardRunEY P l items ys ((⟨x::t,m⟩:St).ev (.tmp t')) want o k ⟨x::t,m⟩ fun k s=>runE P l items ys ops os k s K):=rfl
attribute [go_sem] stepE yieldOf z447 z450 z448 z449 z304 z906 z828 z889 z890 rangeOf St.cede cedeM retY pinsY nameV viaVh St.asVh St.fewer vcOf St.vRoom St.vFull St.cyc cycCaps cycLeaf opSliceA opCopyA opCopyB List.take_succ_cons List.take_zero List.take_nil List.drop_succ_cons List.drop_zero List.drop_nil
end Go.Ab
/- Another name for a block;drawn regions of which what is told is what differs. -/
namespace Go.Ab
open Go.RowKit
def St.rename (a b:Nat) (st:St):St:=match (st.m[a]?:Option (Option Blk)),(st.m[b]?:Option (Option Blk)) with
 | some (some x),some none=>{ t:=st.t.map (AV.mapN (mv a b)),m:=(((st.m.map (Option.map (Blk.mapN (mv a b)))).set a none).set b (some (x.mapN (mv a b)))) }
 | _,_=>st
section
variable {P:Program} {base:Own} {out:Own} {st st':St} {μ:Pl} {tmps:Array Value} {w w':World}
theorem z579 (a L:Nat) (st:St):Weak st (st.rename a L):=by
 intro P base out μ tmps w h
 unfold St.rename
 split
 ·rename_i b hb hL
  have hab:a≠L:=fun e=>by subst e;rw [hb] at hL;cases hL
  have hno:∀ k,(μ k).isSome→k≠L:=fun k hk e=>by
   obtain ⟨b,hb⟩:=h.mem.dom k hk
   subst e;rw [hL] at hb;cases hb
  obtain ⟨μ',hμ'⟩:∃ μ':Pl,μ'=fun k=>if k=L then μ a else if k=a then none else μ k:=⟨_,rfl⟩
  have hs:∀ k L',μ' k=some L'→(k=L∧μ a=some L')∨(k≠L∧k≠a∧μ k=some L'):=by
   intro k L' hk
   rw [hμ'] at hk
   dsimp only at hk
   split at hk
   ·rename_i e;exact .inl ⟨e,hk⟩
   ·split at hk
    ·cases hk
    ·rename_i e1 e2;exact .inr ⟨e1,e2,hk⟩
  have hsub:∀ b,ownOf out μ' b→ownOf out μ b:=by
   rintro b (h | ⟨n,z,l,c,h⟩)
   ·exact .inl h
   ·rcases hs n _ h with ⟨_,h⟩ | ⟨_,_,h⟩
    ·exact .inr ⟨a,z,l,c,h⟩
    ·exact .inr ⟨n,z,l,c,h⟩
  have hg:Goes w (ownOf out μ) w (ownOf out μ'):=fun b o v h1 h2=>⟨fun hc=>h1 (hsub b hc),h2⟩
  have hmv:∀ n,(μ n).isSome→∀ k,mv a L n=some k→μ' k=μ n:=by
   intro n hn k hk
   have:=hno n hn
   unfold mv at hk
   rw [hμ']
   split at hk
   ·rename_i e;cases hk;subst e;simp
   ·rename_i e
    cases hk
    simp only
    rw [if_neg this,if_neg e]
  have hLl:L<st.m.length:=(List.getElem?_eq_some_iff.1 hL).1
  refine ⟨μ',⟨by rw [h.size];simp,fun i x v hx hv=>?_,⟨fun k b' hk=>?_,fun k hk=>?_,fun k1 k2 b' z l c z' l' c' h1 h2=>?_,fun k b' z l c hk=>?_⟩,h.hid.less hsub,h.out,h.le⟩,hsub⟩
  ·simp only [List.getElem?_map,Option.map_eq_some_iff] at hx
   obtain ⟨y,hx,rfl⟩:=hx
   exact (h.tmp i y v hx hv).mapN (.inl hg) (fun n _ hn k hk=>hmv n hn k hk)
  ·dsimp only at hk
   rw [List.getElem?_set] at hk
   split at hk
   ·rename_i e
    subst e
    split at hk
    ·have hk:=(Option.some.inj (Option.some.inj hk))
     subst hk
     exact BlkRel.mapN (n:=a) (.inl hg) (by rw [hμ'];simp) hmv (fun _ _ _ _ _=>rfl) (h.mem.blk a b hb)
    ·cases hk
   ·rename_i hkL
    rw [List.getElem?_set] at hk
    split at hk
    ·split at hk <;> cases hk
    ·rename_i hka
     simp only [List.getElem?_map,Option.map_eq_some_iff] at hk
     obtain ⟨ob,hob,b0,rfl,rfl⟩:=hk
     exact BlkRel.mapN (.inl hg) (by rw [hμ'];simp only;rw [if_neg (Ne.symm hkL),if_neg (Ne.symm hka)]) hmv (fun _ _ _ _ _=>rfl) (h.mem.blk k b0 hob)
  ·obtain ⟨L',hL'⟩:=Option.isSome_iff_exists.1 hk
   rcases hs k L' hL' with ⟨rfl,_⟩ | ⟨hkl,hka,hk'⟩
   ·exact ⟨b.mapN (mv a k),by rw [List.getElem?_set_self (by simp;exact hLl)]⟩
   ·obtain ⟨b',hb'⟩:=h.mem.dom k (by simp [hk'])
    refine ⟨b'.mapN (mv a L),?_⟩
    rw [List.getElem?_set_ne (Ne.symm hkl),List.getElem?_set_ne (Ne.symm hka)]
    simp [hb']
  ·rcases hs k1 _ h1 with ⟨rfl,e1⟩ | ⟨e1,e1a,e1b⟩
   ·rcases hs k2 _ h2 with ⟨rfl,_⟩ | ⟨_,e2a,e2b⟩
    ·rfl
    ·exact absurd (h.mem.inj a k2 b' _ _ _ _ _ _ e1 e2b).symm e2a
   ·rcases hs k2 _ h2 with ⟨rfl,e2⟩ | ⟨_,e2a,e2b⟩
    ·exact absurd (h.mem.inj k1 a b' _ _ _ _ _ _ e1b e2) e1a
    ·exact h.mem.inj k1 k2 b' _ _ _ _ _ _ e1b e2b
  ·rcases hs k _ hk with ⟨_,e⟩ | ⟨_,_,e⟩
   ·exact h.mem.base a b' z l c e
   ·exact h.mem.base k b' z l c e
 ·exact ⟨μ,h,fun _ hb=>hb⟩
end
theorem z469 {P:Program} {rd:Option Nat} {n:Nat} {J:Env} {c:Code} {cs:List Code} {k:Option Nat} {st:St} {Q:Exit→Option Nat→St→Prop} (a b:Nat) (h:WalkL P rd n J (c::cs) k (st.rename a b) Q):WalkL P rd n J (c::cs) k st Q :=
 z48 (z579 a b st) h
attribute [go_sem] St.rename
theorem z216 {P:Program} {rd:Option Nat} {n:Nat} {J:Env} {c:Code} {cs:List Code} {k:Option Nat} {st:St} {Q:Exit→Option Nat→St→Prop} (ds:List Nat) (ts:List (Nat × AV)) (ms:List (Nat × Option Blk)) (hw:Weak st (st.head ds ts ms)) (h:WalkL P rd n J (c::cs) k (st.head ds ts ms) Q) :
  WalkL P rd n J (c::cs) k st Q:=z48 hw h
theorem z150 {P:Program} {rd:Option Nat} {n:Nat} {J:Env} {cs:List Code} {k:Option Nat} {st:St} {Q:Exit→Option Nat→St→Prop} {id:Nat} {ops:Array Oper} (ts:(Nat→Bool)→List (Nat × AV)) (ms:(Nat→Bool)→List (Nat × Option Blk)) (p:Nat) (hfol:P.follows .mixedOrders=true) (hback:backB ops=true)
  (hp:tailB ops p=true) (hps:p≤ops.size) (h0:st.head [] (ts fun i=>decide (i<p)) (ms fun i=>decide (i<p))=st) (hs:stepsC P (ops.toList.take p) (fun m=>st.head [] (ts m) (ms m)) (ops.toList.take p) 0)
  {s1:St} (hw:Weak (st.head [] (ts fun _=>false) (ms fun _=>false)) s1) (h:∀ K:Option Nat→St→Prop,(∀ k s,WalkL P rd n J cs k s Q→K k s)→runE P 0 [] [] ops (ops.toList.drop p) k s1 K):WalkL P rd n J (.region id ops true::cs) k st Q :=
 z116 (l:=0) (items:=[]) (fun _ _ _ _ _ _ _ _ h=>by simp at h) [] p hfol hback hp hps (fun m=>st.head [] (ts m) (ms m)) h0 hs hw h
inductive SeqW (P:Program) (ops:Array Oper):List Oper→St→St→Prop where
 | nil (s:St):SeqW P ops [] s s
 | cons {o:Oper} {os:List Oper} {s s1 s':St} (hd:dstOk o=true) (h:StepG P ops o s s1) (ht:SeqW P ops os s1 s'):SeqW P ops (o::os) s s'
 | weak {os:List Oper} {s s1 s':St} (hw:Weak s s1) (ht:SeqW P ops os s1 s'):SeqW P ops os s s'
theorem SeqW.of {P:Program} {ops:Array Oper} {os:List Oper} {s s':St} (h:Seq P ops os s s'):SeqW P ops os s s':=by
 induction h with
 | nil s=>exact .nil s
 | cons hd h _ ih=>exact .cons hd h ih
theorem SeqW.append {P:Program} {ops:Array Oper} {os os2:List Oper} {s s1 s2:St} (h:SeqW P ops os s s1) (h2:SeqW P ops os2 s1 s2):SeqW P ops (os++os2) s s2:=by
 induction h with
 | nil s=>exact h2
 | cons hd h _ ih=>exact .cons hd h (ih h2)
 | weak hw _ ih=>exact .weak hw (ih h2)
section
variable {P:Program} {base:Own} {out:Own} {st st':St} {ops:Array Oper} {rd:Option Nat} {n:Nat} {Q:Exit→Act→World→Prop}
theorem z966 {os:List Oper} {st st':St} (hs:SeqW P ops os st st'):∀ (k:Nat) (μ:Pl) (tmps:Array Value) (w:World),(∀ i o,os[i]?=some o→ops[k + i]?=some o)→StRel P base out st μ tmps w→∀ {ds:List Deferred},
  (∀ tmps' μ' w',StRel P base out st' μ' tmps' w'→KeepO base (ownOf out μ) w (ownOf out μ') w'→Same (opDsts os) tmps tmps'→Q .normal { tmps:=tmps',defers:=ds } w') →
  wpOpsIn (fence rd) n P ops Q (List.range' k os.length) { tmps:=tmps,defers:=ds } w:=by
 induction hs with
 | nil s=>exact fun k μ tmps w _ h ds hK=>hK _ μ w h (KeepO.refl _ _ _) (Same.refl _ _)
 | @cons o os s s1 s' hd h1 ht ih =>
  intro k μ tmps w hos h ds hK
  rw [List.length_cons,List.range'_succ,wpOpsIn_cons]
  refine z99 h (by simpa using hos 0 o (by simp)) hd h1 (fun tmps' μ' w' h2 hB hS=>?_)
  exact ih (k + 1) μ' tmps' w' (fun i o' hi=>by have:=hos (i + 1) o' (by simpa using hi);rwa [show k + 1 + i=k + (i + 1) by omega]) h2
   (fun tmps2 μ2 w2 h3 hB2 hS2=>hK tmps2 μ2 w2 h3 (hB.trans hB2) (hS.cons hS2))
 | weak hw ht ih =>
  intro k μ tmps w hos h ds hK
  obtain ⟨μ3,h3,hsub⟩:=hw P base out μ tmps w h
  exact ih k μ3 tmps w hos h3 fun tmps2 μ2 w2 h4 hB2 hS2=>hK tmps2 μ2 w2 h4 ((KeepO.less hsub).trans hB2) hS2
end
theorem z466 {P:Program} {rd:Option Nat} {n:Nat} {J:Env} {k:Option Nat} {st s3:St} {Q:Exit→Option Nat→St→Prop} {id:Nat} {ops:Array Oper} (hs:SeqW P ops ops.toList st s3) (hq:Q .normal k s3):Walk P rd n J (.region id ops false) k st Q:=fun B base out μ tmps w ds _ hst hJ hM=>by
 refine wpIn_region ?_
 have:=z966 (n:=n) (rd:=rd) (Q:=Ends P J B (dsts (.region id ops false)) (ownOf out μ) tmps w Q) hs 0 μ tmps w (fun i o hi=>by simpa using hi) hst (ds:=ds) (fun tmps' μ' w' h3 hk hS=>.step hJ h3 hk hS hM hq)
 rw [List.range_eq_range']
 simpa using this
theorem z194 {P:Program} {rd:Option Nat} {n:Nat} {J:Env} {cs:List Code} {k:Option Nat} {st:St} {Q:Exit→Option Nat→St→Prop} {id:Nat} {ops:Array Oper} (p:Nat)
  (h:∀ K:St→Prop,(∀ s,WalkL P rd n J cs k s Q→K s)→runK P ops (ops.toList.take p) st fun s=>∃ s1,Weak s s1∧runK P ops (ops.toList.drop p) s1 K):WalkL P rd n J (.region id ops false::cs) k st Q:=by
 obtain ⟨s1,h1,s2,hw,h2⟩:=z133 _ _ _ (h _ fun _ h=>h)
 obtain ⟨s3,h3,h4⟩:=z133 _ _ _ h2
 have hs:SeqW P ops ops.toList st s3:=by
  have:=(SeqW.of h1).append (.weak hw (.of h3))
  rwa [List.take_append_drop] at this
 exact z466 hs h4
end Go.Ab
/- What a function makes of its own,told as a deep value. -/
namespace Go.Ab
open Go.RowKit
theorem FnG.deep {P:Program} {f:FuncId} {args:List DV} {r:AV} {m1:List Blk} {d:DV} (h:FnG P f [] [] (args.map AV.d) r m1) (hr:reify (m1.map some) Ab.deep r=some d):Fn P f args d :=
 ⟨h.enters,fun w own vs hb hh hd=>(h.calls (ltU w.heap.size) w own (fun _=>none) vs hb (fun _ h=>h)
   ⟨fun n b h=>by simp at h,fun n h=>by simp at h,fun n k b z l c z' l' c' h=>by simp at h,fun n b z l c h=>by simp at h⟩
   (hh.less fun b hb=>hb.elim id fun ⟨_,_,_,_,h⟩=>by simp at h) (by simpa using hd.1) (fun i x v hx hv=>by
    simp only [List.getElem?_map,Option.map_eq_some_iff] at hx
    obtain ⟨y,hy,rfl⟩:=hx
    refine .d ((hd.2 i y v hy hv).goes fun b o u h1 h2=>⟨fun hc=>h1 (hc.elim id fun ⟨_,_,_,_,h⟩=>by simp at h),h2⟩))).mono fun en w' hq=>by
  obtain ⟨v,μ1,he,hv,hm,hk,_⟩:=hq
  exact ⟨v,he,z58 hm own (fun b hb=>.inl hb) (fun _=>True) (fun n b z l c _ hμ=>(hm.base n b z l c hμ).2.2) Ab.deep r v d hv hr (fun _ _=>trivial) (.inl fun _ _ _ _ _ _=>trivial),hk.keep.below.to⟩⟩
end Go.Ab
/- Arrays whose cells name memory of the call's own: slice literals that keep the names,appends of such arrays. -/
namespace Go.Ab
open Go.RowKit
def rowsA (z:Nat):List AV→Option (List (List AV))
 | []=>some []
 | x::xs=>match x.cells,rowsA z xs with
  | some cs,some rs=>if cs.length=z then some (cs::rs) else none
  | _,_=>none
def opBuildSliceA (P:Program) (t:TypeId) (len:Nat) (parts:List (Nat × AV)):Option Blk:=match tslice P t with
 | some e=>match tsz P e with
  | some z=>if parts.map (·.1)=List.range len∧len≤2 ^ 24∧len * z≤2 ^ 24∧(len * z=0∨((tzero P e).map (·.cells.size))=some z) then
    (rowsA z (parts.map (·.2))).map (.arrA e z)
   else none
  | none=>none
 | none=>none
def headA (z:Nat):List (List AV)→Bool
 | []=>false
 | r::_=>r.length == z
def killN (n:Nat) (rows:List (List AV)):List (List AV):=rows.map fun r=>r.map (AV.sub n fun _=>.undef)
def opAppendA (P:Program) (st:St) (dst:Option Tmp) (t t':TypeId) (s x:AV):Option St:=if t'=t then match dst,tslice P t,x with
 | some d,some e,.own m=>match tsz P e,tbytes P e,(tzero P e).map (·.cells.size),st.m[m]? with
  | some z,some by_,some zl,some (some (.arrA _ _ xs))=>if zl=z∧0<z∧0<by_∧by_≤2 ^ 7∧headA z xs=true then (match s with
    | .nil=>match st.fresh d with
     | true=>if xs.length≤2 ^ 39 then some (st.addBlk d (.own d) (.arrA e z xs)) else none
     | _=>none
    | .own n=>match st.m[n]? with
     | some (some (.arrA e' z' rows))=>if e'=e∧z'=z∧rows.length + xs.length≤2 ^ 39 then
       some ({ (st.kill n) with m:=(st.kill n).m.set n (some (.arrA e z (killN n (rows++xs)))) }.put dst (.own n))
      else none
     | _=>none
    | _=>none) else none
  | _,_,_,_=>none
 | _,_,_=>none else none
section
variable {P:Program} {base:Own} {out:Own} {st st':St} {μ:Pl} {tmps:Array Value} {w:World} {o:Oper}
theorem z364 {z:Nat}:∀ {xs:List AV} {rows:List (List AV)},rowsA z xs=some rows→xs.length=rows.length∧∀ (i:Nat) r,rows[i]?=some r→r.length=z∧∃ x,xs[i]?=some x∧x.cells=some r
 | [],rows,h=>by simp [rowsA] at h;subst h;simp
 | x::xs,rows,h=>by
  simp only [rowsA] at h
  split at h
  ·rename_i r rs h1 h2
   split at h
   ·rename_i hz
    cases h
    obtain ⟨h3,h4⟩:=z364 h2
    refine ⟨by simp [h3],fun i r' hi=>?_⟩
    cases i with
    | zero =>
     simp at hi
     subst hi
     exact ⟨hz,x,by simp,h1⟩
    | succ i=>simpa using h4 i r' (by simpa using hi)
   ·cases h
  ·cases h
theorem z715 (h1:StRel P base out st μ tmps w) {d:Nat} (hd:st.m[d]?=some none) {e z:Nat} {rows:List (List AV)} {cs:Array Value} {cap:Nat} {w':World}
  (hw:∃ w0,Below w.heap.size w w0∧w0.heap=w.heap∧w'=w0.alloc (.cells cs e)) (hle:rows.length≤cap) (hcm:cap≤maxLen) (hsz:cs.size=cap * z) (hz:∀ r ∈ rows,r.length=z)
  (hc:∀ (i:Nat) r (j:Nat) x,rows[i]?=some r→r[j]?=some x→∃ v,cs[i * z + j]?=some v∧v.oneCell'=true∧AVRel w (ownOf out μ) μ x v) :
  ∃ μ',StRel P base out (st.addBlk d (.own d) (.arrA e z rows)) μ' (tmps.setIfInBounds d (.slice (some ⟨w.heap.size,0,none⟩) rows.length cap)) w'∧KeepO base (ownOf out μ) w (ownOf out μ') w':=by
 obtain ⟨w0,hB0,hh0,rfl⟩:=hw
 have hsz0:w0.heap.size=w.heap.size:=by rw [hh0]
 have hB:Below w.heap.size w (w0.alloc (.cells cs e)):=hB0.alloc (by omega) _
 have hnp:=z111 h1.mem hd
 have hg:Goes w (ownOf out μ) (w0.alloc (.cells cs e)) (ownOf out (μ.upd d (some (.at w.heap.size z rows.length cap)))):=fun b o v hb hc=>by
  have hlt:=z65 hc
  refine ⟨?_,(z83 (ownOf out μ) hB b o v hb hc).2⟩
  rintro (h2 | ⟨n,z,l,c,h2⟩)
  ·exact hb (.inl h2)
  ·by_cases hn:n=d
   ·subst hn;rw [Pl.upd_same] at h2;cases h2;omega
   ·rw [Pl.upd_ne μ _ hn] at h2;exact hb (.inr ⟨n,z,l,c,h2⟩)
 refine ⟨_,h1.add hB hd (.at w.heap.size z rows.length cap) (fun b z l c e=>by cases e;simp;omega) ?_ (.own (Pl.upd_same μ d _)),h1.keep_add hB hd _ (fun b z l c e=>by cases e;simp;omega)⟩
 refine .inr ⟨w.heap.size,cap,cs,Pl.upd_same μ d _,by rw [← hsz0];exact heap_alloc_new w0 _,hle,hcm,hsz,hz,fun i r j x hi hj=>?_⟩
 obtain ⟨v,p1,p2,p3⟩:=hc i r j x hi hj
 exact ⟨v,p1,p2,p3.goes hg fun n _ hn=>Pl.upd_ne μ _ (fun e=>by subst e;rw [hnp] at hn;cases hn)⟩
theorem z347 (h:StRel P base out st μ tmps w) {t:TypeId} {len:Nat} {parts:Array (Nat × Operand)} (ho:o.op=.buildSlice t len parts) {d:Nat} (hd:o.dst=some d) (hf:st.fresh d=true) {b:Blk}
  (hs:opBuildSliceA P t len (parts.toList.map fun p=>(p.1,st.ev p.2))=some b):OpOK P base out μ o (st.addBlk d (.own d) b) tmps w:=by
 unfold opBuildSliceA at hs
 split at hs
 rotate_left
 ·cases hs
 rename_i e ht
 split at hs
 rotate_left
 ·cases hs
 rename_i z hz
 split at hs
 rotate_left
 ·cases hs
 rename_i hcond
 obtain ⟨hidx,hlim0,hlim,hzero⟩:=hcond
 rw [Option.map_eq_some_iff] at hs
 obtain ⟨rows,hrows,rfl⟩:=hs
 have hidx':parts.toList.map (·.1)=List.range len:=by simpa [List.map_map,Function.comp_def] using hidx
 have hrows':rowsA z (parts.toList.map fun p=>st.ev p.2)=some rows:=by simpa [List.map_map,Function.comp_def] using hrows
 have hlen:parts.size=len:=by have:=congrArg List.length hidx';simpa using this
 obtain ⟨hrl,hrs⟩:=z364 hrows'
 have hrlen:rows.length=len:=by rw [← hrl];simpa using hlen
 have hval:∀ (j:Nat) a v,(parts.toList.map fun p=>(p.1,val tmps p.2))[j]?=some (a,v)→a=0 + j∧v.cells.size=z∧∃ x,(parts.toList.map fun p=>st.ev p.2)[j]?=some x∧AVRel w (ownOf out μ) μ x v:=by
  intro j a v hj
  simp only [List.getElem?_map,Option.map_eq_some_iff,Prod.mk.injEq] at hj
  obtain ⟨p,hp,rfl,rfl⟩:=hj
  have hjl:j<len:=by rw [← hlen];have:=(List.getElem?_eq_some_iff.1 hp).1;simpa using this
  have h2:=congrArg (fun l:List Nat=>l[j]?) hidx'
  simp only [List.getElem?_map,hp,Option.map_some,List.getElem?_range hjl,Option.some.injEq] at h2
  have hjr:j<rows.length:=by omega
  obtain ⟨hr1,x,hx,hcs⟩:=hrs j rows[j] (by simp [hjr])
  simp only [List.getElem?_map,hp,Option.map_some,Option.some.injEq] at hx
  subst hx
  have hev:=h.ev p.2 []
  obtain ⟨c1,_,_⟩:=z41 hev hcs
  refine ⟨by omega,?_,_,by simp only [List.getElem?_map,hp,Option.map_some],hev⟩
  rw [c1,hr1]
 obtain ⟨zz,hzz⟩:∃ zz:Array Value,(len * z=0∧zz=#[])∨(¬ len * z=0∧∃ zv,tzero P e=some zv∧zz=zv.cells):=by
  by_cases h0:len * z=0
  ·exact ⟨#[],.inl ⟨h0,rfl⟩⟩
  ·rcases hzero with h1 | h1
   ·exact absurd h1 h0
   ·rw [Option.map_eq_some_iff] at h1
    obtain ⟨zv,hzv,_⟩:=h1
    exact ⟨zv.cells,.inr ⟨h0,zv,hzv,rfl⟩⟩
 obtain ⟨C,hC1,hC2,_,hC4⟩:=z451 z (parts.toList.map fun p=>(p.1,val tmps p.2)) 0 ((Array.range (len * z)).map (zz[· % zz.size]!))
  (fun j a v hj=>⟨(hval j a v hj).1,(hval j a v hj).2.1⟩) (by simp [hlen])
 have hCs:C.size=len * z:=by rw [hC2];simp
 obtain ⟨μ',hst,hB⟩:=z715 h (z31 hf) (e:=e) (z:=z) (rows:=rows) (cs:=C) (cap:=len) (w':=w.alloc (.cells C e)) ⟨w,Below.refl _ _,rfl,rfl⟩ (by omega)
  (by simp only [maxLen];omega) hCs
  (fun r hr=>by obtain ⟨i,hi⟩:=List.mem_iff_getElem?.1 hr;exact (hrs i r hi).1)
  (fun i r j x hi hj=>by
   obtain ⟨hr1,y,hy,hcs⟩:=hrs i r hi
   have hil:i<parts.size:=by rw [hlen,← hrlen];exact (List.getElem?_eq_some_iff.1 hi).1
   have hp:(parts.toList.map fun p=>(p.1,val tmps p.2))[i]?=some (parts[i].1,val tmps parts[i].2):=by simp [hil]
   obtain ⟨_,hvs,y',hy',hrel⟩:=hval i _ _ hp
   rw [hy] at hy';cases hy'
   obtain ⟨c1,c2,c3⟩:=z41 hrel hcs
   have hjz:j<z:=by rw [← hr1];exact (List.getElem?_eq_some_iff.1 hj).1
   have hcell:=hC4 i _ _ j hp hjz
   rw [Nat.zero_add] at hcell
   have hlt:j<(val tmps parts[i].2).cells.size:=by omega
   have hu:=c2 j x (val tmps parts[i].2).cells[j] hj (by simp [hlt])
   exact ⟨_,by rw [hcell];simp [hlt],hu.oneCell (c3 x (List.mem_of_getElem? hj)),hu⟩)
 rw [hrlen] at hst
 refine ⟨.value (.slice (some ⟨w.heap.size,0,none⟩) len len),_,_,μ',fun ds=>?_,.inl rfl,by rw [hd];exact hst,hB⟩
 unfold execOp
 rw [z36]
 have hnlim:¬ (len * z > 2 ^ 24):=by omega
 have hparts:((parts.map fun p=>(p.1,val tmps p.2))).toList=parts.toList.map fun p=>(p.1,val tmps p.2):=by simp
 simp only [val] at hparts hC1
 rw [← hparts] at hC1
 have hrun:(Instr.buildSlice t len (parts.map fun p=>(p.1,val tmps p.2))).run P w=.ok (.slice (some ⟨w.heap.size,0,none⟩) len len) (w.alloc (.cells C e)):=by
  unfold Instr.buildSlice
  rcases hzz with ⟨h0,rfl⟩ | ⟨h0,zv,hzv,rfl⟩
  ·simp only [val,Sem.run_bind,run_underlying (z19 ht),Result.andThen_ok,z40 hz,if_neg hnlim,if_pos h0,hC1,newRow,run_newObj,Sem.run_pure]
   rfl
  ·simp only [val,Sem.run_bind,run_underlying (z19 ht),Result.andThen_ok,z40 hz,if_neg hnlim,if_neg h0,z167 hzv,hC1,newRow,run_newObj,Sem.run_pure]
   rfl
 simp only [val] at hrun
 simp [ho,hrun]
end
end Go.Ab
/- append of arrays whose cells name memory of the call's own: soundness. -/
namespace Go.Ab
open Go.RowKit
section
variable {P:Program} {base:Own} {out:Own} {st st':St} {μ:Pl} {tmps:Array Value} {w:World} {o:Oper}
theorem z943 {α:Type} {R:α→Value→Prop} {rows:List (List α)} {z b off:Nat} {f:Nat→Nat→Value} (hz:∀ r ∈ rows,r.length=z)
  (hf:∀ (i:Nat) r (j:Nat) d,rows[i]?=some r→r[j]?=some d→w.cell? ⟨b,off + i * z + j,none⟩=some (f i j)∧(f i j).oneCell'=true∧R d (f i j)) :
  (∀ q u,(flat rows.length z f)[q]?=some u→w.cell? ((⟨b,off,none⟩:Addr).add q)=some u)∧(∀ u ∈ flat rows.length z f,u.oneCell'=true):=by
 have key:∀ q u,(flat rows.length z f)[q]?=some u→w.cell? ⟨b,off + q,none⟩=some u∧u.oneCell'=true:=by
  intro q u hq
  obtain ⟨hz0,h1,h2,rfl⟩:=z705 f hq
  have hr:rows[q / z]?=some rows[q / z]:=by simp [h1]
  have hrl:rows[q / z].length=z:=hz _ (by simp)
  have hd:(rows[q / z])[q % z]?=some (rows[q / z])[q % z]:=by simp [hrl,h2]
  obtain ⟨p1,p2,_⟩:=hf _ _ _ _ hr hd
  have e:off + q / z * z + q % z=off + q:=by
   have:=Nat.div_add_mod q z
   rw [Nat.mul_comm] at this
   omega
  rw [e] at p1
  exact ⟨p1,p2⟩
 refine ⟨fun q u hq=>by rw [Addr.add_lit];exact (key q u hq).1,fun u hu=>?_⟩
 obtain ⟨q,hq⟩:=List.mem_iff_getElem?.1 hu
 exact (key q u hq).2
theorem z1018 {α:Type} {R R':α→Value→Prop} {g:α→α} {rows xs:List (List α)} {z b off:Nat} {f:Nat→Nat→Value} {cs:List Value}
  (hz:∀ r ∈ rows,r.length=z) (hxz:∀ r ∈ xs,r.length=z) (hg:∀ x v,R x v→R' (g x) v) {cur:Array Value}
  (hold:∀ q,q<rows.length * z→cs[q]?=cur[q]?) (hnew:∀ q,q<xs.length * z→cs[rows.length * z + q]?=(flat xs.length z f)[q]?)
  (hd:∀ (i:Nat) r (j:Nat) d,rows[i]?=some r→r[j]?=some d→∃ v,cur[i * z + j]?=some v∧v.oneCell'=true∧R d v)
  (hf:∀ (i:Nat) r (j:Nat) d,xs[i]?=some r→r[j]?=some d→w.cell? ⟨b,off + i * z + j,none⟩=some (f i j)∧(f i j).oneCell'=true∧R d (f i j)) :
  ∀ (i:Nat) r (j:Nat) d,((rows++xs).map fun r=>r.map g)[i]?=some r→r[j]?=some d→∃ v,cs[i * z + j]?=some v∧v.oneCell'=true∧R' d v:=by
 intro i r' j d' hi' hj'
 rw [List.getElem?_map,Option.map_eq_some_iff] at hi'
 obtain ⟨r,hi,rfl⟩:=hi'
 rw [List.getElem?_map,Option.map_eq_some_iff] at hj'
 obtain ⟨d,hj,rfl⟩:=hj'
 by_cases hlt:i<rows.length
 ·rw [List.getElem?_append_left hlt] at hi
  have hjz:j<z:=by rw [← hz r (List.mem_of_getElem? hi)];exact (List.getElem?_eq_some_iff.1 hj).1
  have hq:i * z + j<rows.length * z:=by
   have:(i + 1) * z≤rows.length * z:=Nat.mul_le_mul_right z hlt
   rw [Nat.add_mul] at this
   omega
  obtain ⟨v,p1,p2,p3⟩:=hd i r j d hi hj
  exact ⟨v,by rw [hold _ hq];exact p1,p2,hg _ _ p3⟩
 ·rw [List.getElem?_append_right (by omega)] at hi
  have hil:i - rows.length<xs.length:=(List.getElem?_eq_some_iff.1 hi).1
  have hjz:j<z:=by rw [← hxz r (List.mem_of_getElem? hi)];exact (List.getElem?_eq_some_iff.1 hj).1
  have e:i * z + j=rows.length * z + ((i - rows.length) * z + j):=by
   have:i=rows.length + (i - rows.length):=by omega
   rw [this,Nat.add_mul]
   have:rows.length + (i - rows.length) - rows.length=i - rows.length:=by omega
   rw [this]
   omega
  have hq:(i - rows.length) * z + j<xs.length * z:=by
   have:(i - rows.length + 1) * z≤xs.length * z:=Nat.mul_le_mul_right z hil
   rw [Nat.add_mul] at this
   omega
  obtain ⟨p1,p2,p3⟩:=hf _ _ _ _ hi hj
  exact ⟨_,by rw [e,hnew _ hq];exact z89 f hil hjz,p2,hg _ _ p3⟩
theorem z562 (h:StRel P base out st μ tmps w) {m:Nat} {v:Value} (hx:AVRel w (ownOf out μ) μ (.own m) v) {e z':Nat} {xs:List (List AV)} (hm:st.m[m]?=some (some (.arrA e z' xs))) {z:Nat} (hz:headA z xs=true) :
  xs≠[]∧(∀ r ∈ xs,r.length=z)∧∃ b cap,v=.slice (some ⟨b,0,none⟩) xs.length cap∧xs.length≤cap∧∃ f:Nat→Nat→Value,
   ∀ (i:Nat) r (j:Nat) d,xs[i]?=some r→r[j]?=some d→w.cell? ⟨b,0 + i * z + j,none⟩=some (f i j)∧(f i j).oneCell'=true∧AVRel w (ownOf out μ) μ d (f i j):=by
 have hne:xs≠[]:=by rintro rfl;simp [headA] at hz
 have hhead:∀ z',(∀ r ∈ xs,r.length=z')→z'=z:=by
  intro z' hz'
  cases xs with
  | nil=>exact absurd rfl hne
  | cons r rs =>
   simp only [headA,beq_iff_eq] at hz
   rw [← hz]
   exact (hz' r (by simp)).symm
 rcases h.mem.arrA hm with ⟨h0,rfl⟩ | ⟨b',cap',cs,hμ',hh,hle',_,hsz,hzz,hd⟩
 ·exact absurd rfl hne
 ·have:=hhead z' hzz
  subst this
  rcases z44 hx with ⟨hμ,hv⟩ | ⟨b,z,l,c,hμ,hv⟩
  ·rw [hμ'] at hμ;cases hμ
  ·rw [hμ] at hμ';cases hμ'
   refine ⟨hne,hzz,_,_,hv,hle',fun i j=>cs.getD (i * z' + j) Go.undef,fun i r j d h1 h2=>?_⟩
   obtain ⟨u,p1,p2,p3⟩:=hd i r j d h1 h2
   rw [z46 hh,Nat.zero_add]
   simp only [Array.getD_eq_getD_getElem?,p1,Option.getD_some]
   exact ⟨trivial,p2,p3⟩
theorem z845 (h:StRel P base out st μ tmps w) {n:Nat} {e z:Nat} {rows rows':List (List AV)} (hn:st.m[n]?=some (some (.arrA e z rows))) {w':World} {L:Loc}
  (hB:∀ k,k<w.heap.size→(∀ z' l' c',μ n≠some (.at k z' l' c'))→w'.heap[k]?=w.heap[k]?) (hsz:w.heap.size≤w'.heap.size)
  (hL:∀ b z l c,L=.at b z l c→(∃ z' l' c',μ n=some (.at b z' l' c'))∨(w.heap.size≤b∧b<w'.heap.size))
  (hblk:Goes w (ownOf out μ) w' (ownOf out (μ.upd n (some L)))→BlkRel w' (ownOf out (μ.upd n (some L))) (μ.upd n (some L)) n (.arrA e z rows')) :
  StRel P base out { (st.kill n) with m:=(st.kill n).m.set n (some (.arrA e z rows')) } (μ.upd n (some L)) tmps w':=by
 have hown:∀ b,ownOf out (μ.upd n (some L)) b→ownOf out μ b∨w.heap.size≤b:=by
  rintro b (hb | ⟨k,z,l,c,hb⟩)
  ·exact .inl (.inl hb)
  ·by_cases hk:k=n
   ·subst hk
    rw [Pl.upd_same] at hb
    cases hb
    rcases hL _ _ _ _ rfl with ⟨z',l',c',h1⟩ | h1
    ·exact .inl (.inr ⟨k,z',l',c',h1⟩)
    ·exact .inr h1.1
   ·rw [Pl.upd_ne μ _ hk] at hb
    exact .inl (.inr ⟨k,z,l,c,hb⟩)
 have hg:Goes w (ownOf out μ) w' (ownOf out (μ.upd n (some L))):=fun b o v h1 h2=>by
  have hlt:=z65 h2
  refine ⟨fun hc=>?_,?_⟩
  ·rcases hown b hc with h3 | h3
   ·exact h1 h3
   ·omega
  ·have:=hB b hlt (fun z' l' c' hc=>h1 (.inr ⟨n,z',l',c',hc⟩))
   simp only [World.cell?] at h2 ⊢
   rw [this]
   exact h2
 have hlen:n<st.m.length:=(List.getElem?_eq_some_iff.1 hn).1
 have hml:(st.kill n).m.length=st.m.length:=by
  have:∀ (m:List (Option Blk)),(subMem n (fun _=>AV.undef) m).length=m.length:=by
   intro m
   induction m with
   | nil=>rfl
   | cons x xs ih=>cases x <;> simp [subMem,ih]
  exact this st.m
 exact h.turn (n:=n) (f:=fun _=>.undef) hg (fun k hk=>Pl.upd_ne μ _ hk) (fun y u _ _=>.undef _)
  (fun k b z l c hk hb=>hB b (z50 h.mem hb) (fun z' l' c' hc=>hk (h.mem.inj k n b _ _ _ _ _ _ hb hc))) hsz
  (fun k hk=>by rw [List.getElem?_set_ne (Ne.symm hk)];simp only [St.kill,z30])
  (fun b hb=>by rw [List.getElem?_set_self (by rw [hml];exact hlen)] at hb;cases hb;exact hblk hg)
  (fun _=>⟨_,List.getElem?_set_self (by rw [hml];exact hlen)⟩)
  (fun b z l c hb=>by
   rw [Pl.upd_same] at hb
   cases hb
   rcases hL _ _ _ _ rfl with ⟨z',l',c',h1⟩ | h1
   ·have:=h.mem.base n b _ _ _ h1
    exact ⟨⟨this.1,by omega,this.2.2⟩,fun k z'' l'' c'' hk hc=>hk (h.mem.inj k n b _ _ _ _ _ _ hc h1)⟩
   ·refine ⟨⟨fun hc=>by have:=h.le b hc;omega,h1.2,fun hc=>by have:=h.le b (h.out b hc);omega⟩,fun k z'' l'' c'' hk hc=>?_⟩
    have:=z50 h.mem hc
    omega)
theorem z204 (n:Nat) (rows:List (List AV)):(killN n rows).length=rows.length:=by simp [killN]
theorem z668 {n z:Nat} {rows:List (List AV)} (h:∀ r ∈ rows,r.length=z):∀ r ∈ killN n rows,r.length=z:=by
 intro r hr
 simp only [killN,List.mem_map] at hr
 obtain ⟨q,hq,rfl⟩:=hr
 simpa using h q hq
theorem z862 {n:Nat} {L:Loc} {w':World} (hg:Goes w (ownOf out μ) w' (ownOf out (μ.upd n (some L)))) {rows xs:List (List AV)} {z b off:Nat} {f:Nat→Nat→Value} {A:Array Value} {cs:List Value} (hA:A.toList=cs)
  (hz:∀ r ∈ rows,r.length=z) (hxz:∀ r ∈ xs,r.length=z) {cur:Array Value}
  (hold:∀ q,q<rows.length * z→cs[q]?=cur[q]?) (hnew:∀ q,q<xs.length * z→cs[rows.length * z + q]?=(flat xs.length z f)[q]?)
  (hd:∀ (i:Nat) r (j:Nat) d,rows[i]?=some r→r[j]?=some d→∃ v,cur[i * z + j]?=some v∧v.oneCell'=true∧AVRel w (ownOf out μ) μ d v)
  (hf:∀ (i:Nat) r (j:Nat) d,xs[i]?=some r→r[j]?=some d→w.cell? ⟨b,off + i * z + j,none⟩=some (f i j)∧(f i j).oneCell'=true∧AVRel w (ownOf out μ) μ d (f i j)) :
  ∀ (i:Nat) r (j:Nat) d,(killN n (rows++xs))[i]?=some r→r[j]?=some d→∃ v,A[i * z + j]?=some v∧v.oneCell'=true∧AVRel w' (ownOf out (μ.upd n (some L))) (μ.upd n (some L)) d v:=by
 subst hA
 have:=z1018 (w:=w) (R:=AVRel w (ownOf out μ) μ) (R':=AVRel w' (ownOf out (μ.upd n (some L))) (μ.upd n (some L))) (g:=AV.sub n fun _=>.undef) hz hxz
  (fun x v hxv=>hxv.sub (n:=n) (f:=fun _=>.undef) hg (fun k hk _=>Pl.upd_ne μ _ hk) (fun _ _ _ _=>.undef _)) hold hnew hd hf
 simpa only [Array.getElem?_toList,killN] using this
theorem z774 (h:StRel P base out st μ tmps w) {t t':TypeId} {s x:Operand} (ho:o.op=.call { callee:=.builtin .append,args:=#[s,x],argTypes:=#[t,t'] })
  (hs:opAppendA P st o.dst t t' (st.ev s) (st.ev x)=some st'):OpOK P base out μ o st' tmps w:=by
 have hsv:=h.ev s []
 have hxv:=h.ev x []
 unfold opAppendA at hs
 split at hs
 rotate_left
 ·cases hs
 rename_i htt
 subst htt
 split at hs
 rotate_left
 ·cases hs
 rename_i d e m hd ht hevx
 rw [hevx] at hxv
 split at hs
 rotate_left
 ·cases hs
 rename_i z by_ zl em zm xs hz hby hzl hm
 split at hs
 rotate_left
 ·cases hs
 rename_i hcond
 obtain ⟨rfl,hz0,hb0,hb7,hhead⟩:=hcond
 rw [Option.map_eq_some_iff] at hzl
 obtain ⟨zv,hzv,hzs⟩:=hzl
 obtain ⟨i,hi,hiz⟩:=z164 hzv
 obtain ⟨i',hi',hib⟩:=z74 hby
 rw [hi] at hi';cases hi'
 have his:=z389 hz hi
 obtain ⟨hx0,hxz,bx,cap,hxval,hxcap,f,hf2⟩:=z562 h hxv hm hhead
 obtain ⟨hn1,hn2⟩:=z943 hxz hf2
 have hpos:0<xs.length:=List.length_pos_iff.2 hx0
 have h39:(2:Nat) ^ 39=549755813888:=by decide
 split at hs
 ·-- onto nil
  rename_i hev
  rw [hev] at hsv
  have hsval:=z122 hsv
  split at hs
  rotate_left
  ·cases hs
  rename_i hf
  split at hs
  rotate_left
  ·cases hs
  rename_i hxl
  cases hs
  have hby128:xs.length * i.bytes≤281474976710656:=by
   rw [hib]
   calc xs.length * by_≤2 ^ 39 * 2 ^ 7:=Nat.mul_le_mul hxl hb7
    _≤281474976710656:=by decide
  have hr:=run_append_nil (P:=P) w t' o.type e i zv (z19 ht) hi hiz ⟨bx,0,none⟩ xs.length cap (flat xs.length zl f) (by rw [z26,his]) hn1 hpos (by omega) hby128
  have hge:=grownCap_ge w xs.length 0 e
  have hcm:grownCap w xs.length 0 e≤maxLen:=grownCap_le_maxLen w xs.length 0 e (by simp only [maxLen];omega)
  obtain ⟨μ',hst,hB⟩:=z715 h (z31 hf) (e:=e) (z:=zl) (rows:=xs) (cs:=(flat xs.length zl f).toArray++Builtin.zeroCells zv.cells (grownCap w xs.length 0 e - xs.length)) (cap:=grownCap w xs.length 0 e)
   (w':=w.drew.alloc (.cells ((flat xs.length zl f).toArray++Builtin.zeroCells zv.cells (grownCap w xs.length 0 e - xs.length)) e))
   ⟨w.drew,(Below.refl _ _).drew,rfl,rfl⟩ hge hcm (by rw [Array.size_append,size_zeroCells,hzs,List.size_toArray,z26,← Nat.add_mul];congr 1;omega) hxz
   (fun i r j dv hi hj=>by
    have hil:i<xs.length:=(List.getElem?_eq_some_iff.1 hi).1
    have hjz:j<zl:=by rw [← hxz r (List.mem_of_getElem? hi)];exact (List.getElem?_eq_some_iff.1 hj).1
    have hg:=z89 f hil hjz
    obtain ⟨p1,p2,p3⟩:=hf2 i r j dv hi hj
    refine ⟨f i j,?_,p2,p3⟩
    rw [Array.getElem?_append_left (by have:=(List.getElem?_eq_some_iff.1 hg).1;simpa using this)]
    simpa using hg)
  refine ⟨.value (.slice (some ⟨w.heap.size,0,none⟩) xs.length (grownCap w xs.length 0 e)),_,_,μ',fun ds=>?_,.inl rfl,by rw [hd];exact hst,hB⟩
  unfold execOp
  rw [z36]
  have hxval3:(({ tmps:=tmps,defers:=[] }:Act).eval x)=.slice (some ⟨bx,0,none⟩) xs.length cap:=hxval
  simp [ho,resolve,invoke,builtin,hsval,hxval3,hr]
 ·-- onto an array of the call's own
  rename_i n hev
  rw [hev] at hsv
  have fin:∀ (v:Value) (w':World) (μ':Pl) (st'':St),(Builtin.append_ #[t',t'] o.type #[val tmps s,val tmps x]).run P w=.ok v w'→StRel P base out st'' μ' tmps w'→AVRel w' (ownOf out μ') μ' (.own n) v →
    KeepO base (ownOf out μ) w (ownOf out μ') w'→OpOK P base out μ o (st''.put o.dst (.own n)) tmps w:=by
   intro v w' μ' st'' hr hst hrel hB
   refine ⟨.value v,v,w',μ',fun ds=>?_,.inl rfl,hst.put hrel o.dst,hB⟩
   unfold execOp
   rw [z36]
   simp only [val] at hr
   simp [ho,resolve,invoke,builtin,hr]
  split at hs
  rotate_left
  ·cases hs
  rename_i e' z' rows hn
  split at hs
  rotate_left
  ·cases hs
  rename_i hcond2
  obtain ⟨rfl,rfl,hsum⟩:=hcond2
  cases hs
  rcases h.mem.arrA hn with ⟨h0,rfl⟩ | ⟨b,c,cur,hμ',hh,hle',hcm',hsz,hzz,hdd⟩
  ·-- it is nil as yet
   rcases z44 hsv with ⟨hμ,hsval⟩ | ⟨b,z,l,c,hμ,hsval⟩
   rotate_left
   ·rw [h0] at hμ;cases hμ
   simp only [List.length_nil,Nat.zero_add] at hsum
   have hby128:xs.length * i.bytes≤281474976710656:=by
    rw [hib]
    calc xs.length * by_≤2 ^ 39 * 2 ^ 7:=Nat.mul_le_mul hsum hb7
     _≤281474976710656:=by decide
   have hr:=run_append_nil (P:=P) w t' o.type e' i zv (z19 ht) hi hiz ⟨bx,0,none⟩ xs.length cap (flat xs.length z' f) (by rw [z26,his]) hn1 hpos (by omega) hby128
   have hge:=grownCap_ge w xs.length 0 e'
   have hcm:grownCap w xs.length 0 e'≤maxLen:=grownCap_le_maxLen w xs.length 0 e' (by simp only [maxLen];omega)
   have hB:Below w.heap.size w (w.drew.alloc (.cells ((flat xs.length z' f).toArray++Builtin.zeroCells zv.cells (grownCap w xs.length 0 e' - xs.length)) e')):=(Below.refl _ _).drew.alloc (Nat.le_refl _) _
   have hst:=z845 h hn (w':=w.drew.alloc (.cells ((flat xs.length z' f).toArray++Builtin.zeroCells zv.cells (grownCap w xs.length 0 e' - xs.length)) e')) (L:=.at w.heap.size z' xs.length (grownCap w xs.length 0 e')) (rows':=killN n ([]++xs))
    (fun k hk _=>hB.block k hk) hB.size (fun b z l c e=>by cases e;exact .inr ⟨Nat.le_refl _,by simp⟩)
    (fun hg=>.inr ⟨w.heap.size,_,_,by rw [z204];simpa using Pl.upd_same μ n _,heap_alloc_new w.drew _,by rw [z204];simpa using hge,hcm,by rw [Array.size_append,size_zeroCells,hzs,List.size_toArray,z26,← Nat.add_mul];congr 1;omega,z668 (by simpa using hxz),
     z862 hg (rows:=[]) (xs:=xs) (cur:=#[]) rfl (by simp) hxz
      (fun q hq=>by simp at hq) (fun q hq=>by
       simp only [List.length_nil,Nat.zero_mul,Nat.zero_add,Array.toList_append]
       rw [List.getElem?_append_left (by rw [z26];exact hq)]) (fun i r j d hi=>by simp at hi) hf2⟩)
   refine fin (.slice (some ⟨w.heap.size,0,none⟩) xs.length (grownCap w xs.length 0 e')) _ _ _ ?_ hst (.own (Pl.upd_same μ n _)) (z71 (z61 hB h.le) (fun k hk _=>hB.block k hk) (fun b z l c e=>by cases e;exact .inr ⟨Nat.le_refl _,by simp⟩))
   simp only [val] at hxval ⊢;rw [hsval,hxval];exact hr
  ·rcases z44 hsv with ⟨hμ,hsval⟩ | ⟨b2,zz,l2,c2,hμ,hsval⟩
   ·rw [hμ'] at hμ;cases hμ
   rw [hμ] at hμ';cases hμ'
   have hcurl:rows.length * z'≤cur.size:=by rw [hsz];exact Nat.mul_le_mul_right _ hle'
   have z47:∀ r ∈ rows++xs,r.length=z':=fun r hr=>by
    rcases List.mem_append.1 hr with h1 | h1
    ·exact hzz r h1
    ·exact hxz r h1
   by_cases hroom:rows.length + xs.length≤c
   ·-- in place
    have hfit:rows.length * i.size + (flat xs.length z' f).length≤cur.size:=by
     rw [his,z26,hsz,← Nat.add_mul];exact Nat.mul_le_mul_right _ hroom
    have hr:=run_append_room (P:=P) w t' o.type e' i (z19 ht) hi b rows.length c cur hh ⟨bx,0,none⟩ xs.length cap (flat xs.length z' f) (by rw [z26,his]) hn1 hn2 hroom hfit
    rw [his] at hr hfit
    have hW:Wrote b w (w.setRow b (cur.toList.take (rows.length * z')++flat xs.length z' f++cur.toList.drop (rows.length * z' + (flat xs.length z' f).length)).toArray):=z49
    have hmid:=z233 cur.toList (flat xs.length z' f) (rows.length * z') (by simpa using hfit)
    have hlk:(killN n (rows++xs)).length=rows.length + xs.length:=by rw [z204,List.length_append]
    have hst:=z845 h hn (w':=w.setRow b (cur.toList.take (rows.length * z')++flat xs.length z' f++cur.toList.drop (rows.length * z' + (flat xs.length z' f).length)).toArray) (L:=.at b z' (rows.length + xs.length) c) (rows':=killN n (rows++xs))
     (fun k _ hk=>hW.block k (fun e=>hk _ _ _ (e ▸ hμ))) (Nat.le_of_eq hW.size.symm) (fun _ _ _ _ e=>by cases e;exact .inl ⟨_,_,_,hμ⟩)
     (fun hg=>.inr ⟨b,c,_,by rw [hlk];exact Pl.upd_same μ n _,setRow_heap w b cur _ e' _ hh,by rw [hlk];exact hroom,hcm',by
       simp only [List.size_toArray,List.length_append,List.length_take,List.length_drop,Array.length_toList];omega,z668 z47,z862 hg (rows:=rows) (xs:=xs) (cur:=cur) rfl
        hzz hxz
        (fun q hq=>by rw [hmid,if_neg (by omega)];simp)
        (fun q hq=>by rw [hmid,if_pos (by rw [z26];omega)];congr 1;omega) hdd hf2⟩)
    refine fin (.slice (some ⟨b,0,none⟩) (rows.length + xs.length) c) _ _ _ ?_ hst (.own (Pl.upd_same μ n _)) (z71 (hW.keep hh (h.mem.base n b _ _ _ hμ).1) (fun k _ hk=>hW.block k (fun e=>hk _ _ _ (e ▸ hμ))) (fun _ _ _ _ e=>by cases e;exact .inl ⟨_,_,_,hμ⟩))
    simp only [val] at hxval ⊢;rw [hsval,hxval];exact hr
   ·-- z530
    have holds:∀ q u,(cur.toList.take (rows.length * z'))[q]?=some u→w.cell? ((⟨b,0,none⟩:Addr).add q)=some u:=fun q u hq=>by
     rw [Addr.add_lit,z46 hh,Nat.zero_add]
     rw [List.getElem?_take] at hq
     split at hq
     ·simpa using hq
     ·cases hq
    have hr:=run_append_grow (P:=P) w t' o.type e' i zv (z19 ht) hi hiz ⟨b,0,none⟩ rows.length c (cur.toList.take (rows.length * z')) (by rw [his];simp;omega) holds ⟨bx,0,none⟩ xs.length cap (flat xs.length z' f) (by rw [z26,his]) hn1
     (by omega) (by omega) (by rw [hib];exact z139 hsum hb7 (by omega))
    have hge:=grownCap_ge w (rows.length + xs.length) c e'
    have hcm:grownCap w (rows.length + xs.length) c e'≤maxLen:=grownCap_le_maxLen w _ c e' (by simp only [maxLen];omega)
    obtain ⟨W,hW⟩:∃ W,w.drew.alloc (.cells ((cur.toList.take (rows.length * z')).toArray++(flat xs.length z' f).toArray++Builtin.zeroCells zv.cells (grownCap w (rows.length + xs.length) c e' - (rows.length + xs.length))) e')=W:=⟨_,rfl⟩
    have hB:Below w.heap.size w W:=by rw [← hW];exact (Below.refl _ _).drew.alloc (Nat.le_refl _) _
    have hnew:W.heap[w.heap.size]?=some (.cells ((cur.toList.take (rows.length * z')).toArray++(flat xs.length z' f).toArray++Builtin.zeroCells zv.cells (grownCap w (rows.length + xs.length) c e' - (rows.length + xs.length))) e' (0,0)):=by rw [← hW];exact heap_alloc_new w.drew _
    rw [hW] at hr
    have htl:(cur.toList.take (rows.length * z')).length=rows.length * z':=by simp;omega
    have hlk:(killN n (rows++xs)).length=rows.length + xs.length:=by rw [z204,List.length_append]
    have hst:=z845 h hn (w':=W) (L:=.at w.heap.size z' (rows.length + xs.length) (grownCap w (rows.length + xs.length) c e')) (rows':=killN n (rows++xs))
     (fun k hk _=>hB.block k hk) hB.size (fun b z l c e=>by cases e;exact .inr ⟨Nat.le_refl _,(Array.getElem?_eq_some_iff.1 hnew).1⟩)
     (fun hg=>.inr ⟨w.heap.size,_,_,by rw [hlk];exact Pl.upd_same μ n _,hnew,by rw [hlk];exact hge,hcm,by
       rw [Array.size_append,Array.size_append,size_zeroCells,hzs,List.size_toArray,List.size_toArray,z26,htl,← Nat.add_mul,← Nat.add_mul];congr 1;omega,z668 z47,z862 hg (rows:=rows) (xs:=xs) (cs:=cur.toList.take (rows.length * z')++(flat xs.length z' f++(Builtin.zeroCells zv.cells (grownCap w (rows.length + xs.length) c e' - (rows.length + xs.length))).toList)) (cur:=cur)
        (by simp [List.append_assoc]) hzz hxz
        (fun q hq=>by rw [List.getElem?_append_left (by omega),List.getElem?_take,if_pos hq];simp)
        (fun q hq=>by
         rw [List.getElem?_append_right (by omega),htl,List.getElem?_append_left (by rw [z26];omega)]
         congr 1;omega) hdd hf2⟩)
    refine fin (.slice (some ⟨w.heap.size,0,none⟩) (rows.length + xs.length) (grownCap w (rows.length + xs.length) c e')) W _ _ ?_ hst (.own (Pl.upd_same μ n _)) (z71 (z61 hB h.le) (fun k hk _=>hB.block k hk) (fun b z l c e=>by cases e;exact .inr ⟨Nat.le_refl _,(Array.getElem?_eq_some_iff.1 hnew).1⟩))
    simp only [val] at hxval ⊢;rw [hsval,hxval];exact hr
 ·cases hs
end
end Go.Ab
/- Regions within which arrays are made whose cells name memory of the call's own;arrays told the one way and the other. -/
namespace Go.Ab
open Go.RowKit
def stepX (P:Program) (o:Oper) (s:St):Option St:=match o.op with
 | .buildSlice t len parts=>match o.dst,opBuildSliceA P t len (parts.toList.map fun p=>(p.1,s.ev p.2)) with
  | some d,some b=>match s.fresh d with
   | true=>some (s.addBlk d (.own d) b)
   | false=>none
  | _,_=>none
 | .call { callee:=.builtin .append,args,argTypes }=>match args.toList,argTypes.toList with
  | [x,y],[t,t']=>opAppendA P s o.dst t t' (s.ev x) (s.ev y)
  | _,_=>none
 | _=>none
def XOk (P:Program) (o:Oper) (s s':St):Prop:=(∀ c,o.op≠.defer c)∧∀ (base out:Own) (μ:Pl) (tmps:Array Value) (w:World),StRel P base out s μ tmps w→OpOK P base out μ o s' tmps w
theorem z900 {P:Program} {o:Oper} {s s':St} (h:stepX P o s=some s'):XOk P o s s':=by
 unfold stepX at h
 split at h
 ·rename_i t len parts ho
  refine ⟨fun c hc=>(by rw [ho] at hc;cases hc),fun base out μ tmps w hst=>?_⟩
  split at h
  ·rename_i d b hd hb
   split at h
   ·rename_i hf
    cases h
    exact z347 hst ho hd hf hb
   ·cases h
  ·cases h
 ·rename_i args ts ho
  split at h
  ·rename_i x y t t' ha ht
   obtain rfl:args=#[x,y]:=by apply Array.toList_inj.1;rw [ha]
   obtain rfl:ts=#[t,t']:=by apply Array.toList_inj.1;rw [ht]
   exact ⟨fun c hc=>(by rw [ho] at hc;cases hc),fun base out μ tmps w hst=>z774 hst ho h⟩
  ·cases h
 ·cases h
inductive SeqX (P:Program) (ops:Array Oper):List Oper→St→St→Prop where
 | nil (s:St):SeqX P ops [] s s
 | cons {o:Oper} {os:List Oper} {s s1 s':St} (hd:dstOk o=true) (h:StepG P ops o s s1) (ht:SeqX P ops os s1 s'):SeqX P ops (o::os) s s'
 | made {o:Oper} {os:List Oper} {s s1 s':St} (hg:o.guard=none) (h:XOk P o s s1) (ht:SeqX P ops os s1 s'):SeqX P ops (o::os) s s'
 | weak {os:List Oper} {s s1 s':St} (hw:Weak s s1) (ht:SeqX P ops os s1 s'):SeqX P ops os s s'
theorem SeqX.of {P:Program} {ops:Array Oper} {os:List Oper} {s s':St} (h:Seq P ops os s s'):SeqX P ops os s s':=by
 induction h with
 | nil s=>exact .nil s
 | cons hd h _ ih=>exact .cons hd h ih
theorem SeqX.append {P:Program} {ops:Array Oper} {os os2:List Oper} {s s1 s2:St} (h:SeqX P ops os s s1) (h2:SeqX P ops os2 s1 s2):SeqX P ops (os++os2) s s2:=by
 induction h with
 | nil s=>exact h2
 | cons hd h _ ih=>exact .cons hd h (ih h2)
 | made hg h _ ih=>exact .made hg h (ih h2)
 | weak hw _ ih=>exact .weak hw (ih h2)
section
variable {P:Program} {base:Own} {out:Own} {st st':St} {μ:Pl} {tmps:Array Value} {w:World} {o:Oper} {ops:Array Oper} {rd:Option Nat} {n:Nat} {Q:Exit→Act→World→Prop}
theorem z850 (h:StRel P base out st μ tmps w) {i:Nat} (ho:ops[i]?=some o) (hg:o.guard=none) (hs:XOk P o st st') {ds:List Deferred} {K:Act→World→Prop}
  (hK:∀ tmps' μ' w',StRel P base out st' μ' tmps' w'→KeepO base (ownOf out μ) w (ownOf out μ') w'→Same (o.dst.toList) tmps tmps'→K { tmps:=tmps',defers:=ds } w') :
  wpOpIn (fence rd) n P ops Q i K { tmps:=tmps,defers:=ds } w:=by
 unfold wpOpIn
 simp only [ho]
 have:Region.wanted o (yielded ops tmps)=true:=by simp [Region.wanted,hg]
 simp only [this,if_true]
 refine ⟨fun _ _=>trivial,?_⟩
 obtain ⟨nx,v,w',μ',hr,hnx,hst,hB⟩:=hs.2 _ _ _ _ _ h
 rw [Oper.semAt_eq _ _ _ hs.1,hr ds]
 rcases hnx with rfl | ⟨rfl,rfl⟩
 ·simp only [Oper.uponIn_value,z121]
  exact hK _ μ' w' hst hB (z132 tmps o.dst v)
 ·simp only [Oper.uponIn_skip,z121]
  exact hK _ μ' w' hst hB (z132 tmps o.dst _)
theorem z965 {os:List Oper} {st st':St} (hs:SeqX P ops os st st'):∀ (k:Nat) (μ:Pl) (tmps:Array Value) (w:World),(∀ i o,os[i]?=some o→ops[k + i]?=some o)→StRel P base out st μ tmps w→∀ {ds:List Deferred},
  (∀ tmps' μ' w',StRel P base out st' μ' tmps' w'→KeepO base (ownOf out μ) w (ownOf out μ') w'→Same (opDsts os) tmps tmps'→Q .normal { tmps:=tmps',defers:=ds } w') →
  wpOpsIn (fence rd) n P ops Q (List.range' k os.length) { tmps:=tmps,defers:=ds } w:=by
 induction hs with
 | nil s=>exact fun k μ tmps w _ h ds hK=>hK _ μ w h (KeepO.refl _ _ _) (Same.refl _ _)
 | @cons o os s s1 s' hd h1 ht ih =>
  intro k μ tmps w hos h ds hK
  rw [List.length_cons,List.range'_succ,wpOpsIn_cons]
  refine z99 h (by simpa using hos 0 o (by simp)) hd h1 (fun tmps' μ' w' h2 hB hS=>?_)
  exact ih (k + 1) μ' tmps' w' (fun i o' hi=>by have:=hos (i + 1) o' (by simpa using hi);rwa [show k + 1 + i=k + (i + 1) by omega]) h2
   (fun tmps2 μ2 w2 h3 hB2 hS2=>hK tmps2 μ2 w2 h3 (hB.trans hB2) (hS.cons hS2))
 | @made o os s s1 s' hg h1 ht ih =>
  intro k μ tmps w hos h ds hK
  rw [List.length_cons,List.range'_succ,wpOpsIn_cons]
  refine z850 h (by simpa using hos 0 o (by simp)) hg h1 (fun tmps' μ' w' h2 hB hS=>?_)
  exact ih (k + 1) μ' tmps' w' (fun i o' hi=>by have:=hos (i + 1) o' (by simpa using hi);rwa [show k + 1 + i=k + (i + 1) by omega]) h2
   (fun tmps2 μ2 w2 h3 hB2 hS2=>hK tmps2 μ2 w2 h3 (hB.trans hB2) (hS.cons hS2))
 | weak hw ht ih =>
  intro k μ tmps w hos h ds hK
  obtain ⟨μ3,h3,hsub⟩:=hw P base out μ tmps w h
  exact ih k μ3 tmps w hos h3 fun tmps2 μ2 w2 h4 hB2 hS2=>hK tmps2 μ2 w2 h4 ((KeepO.less hsub).trans hB2) hS2
end
theorem z465 {P:Program} {rd:Option Nat} {n:Nat} {J:Env} {k:Option Nat} {st s3:St} {Q:Exit→Option Nat→St→Prop} {id:Nat} {ops:Array Oper} (hs:SeqX P ops ops.toList st s3) (hq:Q .normal k s3):Walk P rd n J (.region id ops false) k st Q:=fun B base out μ tmps w ds _ hst hJ hM=>by
 refine wpIn_region ?_
 have:=z965 (n:=n) (rd:=rd) (Q:=Ends P J B (dsts (.region id ops false)) (ownOf out μ) tmps w Q) hs 0 μ tmps w (fun i o hi=>by simpa using hi) hst (ds:=ds) (fun tmps' μ' w' h3 hk hS=>.step hJ h3 hk hS hM hq)
 rw [List.range_eq_range']
 simpa using this
def runX (P:Program) (ops:Array Oper):List Nat→List Oper→St→(St→Prop)→Prop
 | [],os,s,K=>runK P ops os s K
 | p::ps,os,s,K=>runK P ops (os.take p) s fun s=>match os.drop p with
  | o::rest=>o.guard=none∧bindK (stepX P o s) fun s1=>runX P ops ps rest s1 K
  | []=>False
theorem z691 {P:Program} {ops:Array Oper}:∀ (ps:List Nat) (os:List Oper) (s:St) (K:St→Prop),runX P ops ps os s K→∃ s',SeqX P ops os s s'∧K s'
 | [],os,s,K,h=>by
  obtain ⟨s',h1,h2⟩:=z133 os s K h
  exact ⟨s',.of h1,h2⟩
 | p::ps,os,s,K,h=>by
  obtain ⟨s1,h1,h2⟩:=z133 _ _ _ h
  split at h2
  ·rename_i o rest hd
   obtain ⟨hg,s2,h3,h4⟩:=h2
   obtain ⟨s',h5,h6⟩:=z691 ps rest s2 K h4
   refine ⟨s',?_,h6⟩
   have:=(SeqX.of h1).append (.made hg (z900 h3) h5)
   rwa [← hd,List.take_append_drop] at this
  ·exact h2.elim
theorem z387 {P:Program} {rd:Option Nat} {n:Nat} {J:Env} {cs:List Code} {k:Option Nat} {st:St} {Q:Exit→Option Nat→St→Prop} {id:Nat} {ops:Array Oper} (ps:List Nat)
  (h:∀ K:St→Prop,(∀ s,WalkL P rd n J cs k s Q→K s)→runX P ops ps ops.toList st K):WalkL P rd n J (.region id ops false::cs) k st Q:=by
 obtain ⟨s1,h1,h2⟩:=z691 ps _ _ _ (h _ fun _ h=>h)
 exact z465 h1 h2
def lift (rows:List (List DV)):List (List AV):=rows.map fun r=>r.map .d
def St.toA (n:Nat) (st:St):St:=match (st.m[n]?:Option (Option Blk)) with
 | some (some (.arr e z rows))=>{ st with m:=st.m.set n (some (.arrA e z (lift rows))) }
 | _=>st
section
variable {P:Program} {base:Own} {out:Own} {st st':St} {μ:Pl} {tmps:Array Value} {w:World}
theorem StRel.retell (h:StRel P base out st μ tmps w) {n:Nat} {b b':Blk} (hb:st.m[n]?=some (some b)) (hr:BlkRel w (ownOf out μ) μ n b→BlkRel w (ownOf out μ) μ n b') :
  StRel P base out { st with m:=st.m.set n (some b') } μ tmps w:=by
 have hl:n<st.m.length:=(List.getElem?_eq_some_iff.1 hb).1
 refine ⟨h.size,h.tmp,⟨fun k x hk=>?_,fun k hk=>?_,h.mem.inj,h.mem.base⟩,h.hid,h.out,h.le⟩
 ·dsimp only at hk
  rw [List.getElem?_set] at hk
  split at hk
  ·rename_i e
   subst e
   simp only [Option.some.injEq] at hk
   cases hk
   exact hr (h.mem.blk _ _ hb)
  ·exact h.mem.blk k x hk
 ·obtain ⟨x,hx⟩:=h.mem.dom k hk
  dsimp only
  rw [List.getElem?_set]
  split
  ·rename_i e
   exact ⟨b',by simp [hl]⟩
  ·exact ⟨x,hx⟩
theorem z931 {rows:List (List DV)} {i j:Nat} {r:List AV} {x:AV} (h1:(lift rows)[i]?=some r) (h2:r[j]?=some x):∃ r0 d,rows[i]?=some r0∧r0[j]?=some d∧x=.d d:=by
 simp only [lift,List.getElem?_map,Option.map_eq_some_iff] at h1
 obtain ⟨r0,h1,rfl⟩:=h1
 simp only [List.getElem?_map,Option.map_eq_some_iff] at h2
 obtain ⟨d,h2,rfl⟩:=h2
 exact ⟨r0,d,h1,h2,rfl⟩
theorem z892 (n:Nat) (st:St):Weak st (st.toA n):=by
 intro P base out μ tmps w h
 unfold St.toA
 split
 ·rename_i e z rows hn
  refine ⟨μ,h.retell hn fun hr=>?_,fun _ hb=>hb⟩
  rcases hr with ⟨h0,rfl⟩ | ⟨b,cap,cs,h1,h2,h3,h4,h5,h6,h7⟩
  ·exact .inl ⟨h0,rfl⟩
  ·refine .inr ⟨b,cap,cs,by simpa [lift] using h1,h2,by simpa [lift] using h3,h4,h5,fun r hr=>?_,fun i r j x hi hj=>?_⟩
   ·simp only [lift,List.mem_map] at hr
    obtain ⟨q,hq,rfl⟩:=hr
    simpa using h6 q hq
   ·obtain ⟨r0,d,q1,q2,rfl⟩:=z931 hi hj
    obtain ⟨v,p1,p2,p3⟩:=h7 i r0 j d q1 q2
    exact ⟨v,p1,p2,.d p3⟩
 ·exact ⟨μ,h,fun _ hb=>hb⟩
end
theorem z805 {P:Program} {rd:Option Nat} {n:Nat} {J:Env} {c:Code} {cs:List Code} {k:Option Nat} {st:St} {Q:Exit→Option Nat→St→Prop} (a:Nat) (h:WalkL P rd n J (c::cs) k (st.toA a) Q):WalkL P rd n J (c::cs) k st Q :=
 z48 (z892 a st) h
theorem z930:lift []=[]:=rfl
theorem z855 (n:Nat):killN n []=[]:=rfl
theorem z536 (n:Nat) (a b:List (List AV)):killN n (a++b)=killN n a++killN n b:=by simp [killN]
theorem z780 (n:Nat) (r:List AV) (b:List (List AV)):killN n (r::b)=(r.map (AV.sub n fun _=>.undef))::killN n b:=rfl
attribute [go_sem] rowsA opBuildSliceA headA opAppendA stepX St.toA z930 z855 z536 z780 lenA
end Go.Ab
/- Arrays of arrays: names in a row behind all other names. -/
namespace Go.Ab
open Go.RowKit
def nm (L k:Nat):List (List AV):=(List.range k).map fun j=>[.own (j + L)]
def arrs (e z:Nat) (rs:List (List (List DV))):List (Option Blk):=rs.map fun r=>some (.arr e z r)
theorem z289 (L k:Nat):(nm L k).length=k:=by simp [nm]
theorem z975 (L:Nat):nm L 0=[]:=rfl
theorem z842 (L k:Nat):nm L k++[[.own (k + L)]]=nm L (k + 1):=by simp [nm,List.range_succ]
theorem z957 {L k i:Nat} (h:i<k):(nm L k)[i]?=some [.own (i + L)]:=by simp [nm,h]
theorem z843 {n L:Nat} (h:n<L) (k:Nat) (f:AV→AV):((nm L k).map fun r=>r.map (AV.sub n f))=nm L k:=by
 simp only [nm,List.map_map]
 refine List.map_congr_left fun j _=>?_
 simp only [Function.comp_apply,List.map_cons,List.map_nil,AV.sub]
 rw [if_neg (by omega)]
theorem z935 {n L:Nat} (h:n<L) (k:Nat):killN n (nm L k)=nm L k:=z843 h k _
theorem z665 {L L' k:Nat} {h:Nat→Option Nat} (hh:∀ j,j<k→h (j + L)=some (j + L')):((nm L k).map fun r=>r.map (AV.mapN h))=nm L' k:=by
 simp only [nm,List.map_map]
 refine List.map_congr_left fun j hj=>?_
 simp only [Function.comp_apply,List.map_cons,List.map_nil,AV.mapN]
 rw [hh j (by simpa using hj)]
theorem z1044 {a L:Nat} (h:a<L) (b k:Nat):((nm L k).map fun r=>r.map (AV.mapN (mv a b)))=nm L k:=z665 fun j _=>by unfold mv;rw [if_neg (by omega)]
theorem z97 (e z:Nat) (rs:List (List (List DV))):(arrs e z rs).length=rs.length:=by simp [arrs]
theorem z120 (e z:Nat) (rs:List (List (List DV))):(arrs e z rs).all Option.isSome=true:=by simp [arrs]
theorem z954 (e z:Nat):arrs e z []=[]:=rfl
theorem z882 (e z:Nat) (rs:List (List (List DV))) (r:List (List DV)):arrs e z rs++[some (.arr e z r)]=arrs e z (rs++[r]):=by simp [arrs]
theorem z459 {e z i:Nat} {rs:List (List (List DV))} {r:List (List DV)} (h:rs[i]?=some r):(arrs e z rs)[i]?=some (some (.arr e z r)):=by simp [arrs,h]
theorem z953 (e z i:Nat) (rs:List (List (List DV))) (r:List (List DV)):(arrs e z rs).set i (some (.arr e z r))=arrs e z (rs.set i r):=by simp [arrs,List.map_set]
theorem z883 (e z:Nat) (h:Nat→Option Nat) (rs:List (List (List DV))):(arrs e z rs).map (Option.map (Blk.mapN h))=arrs e z rs:=by
 simp only [arrs,List.map_map]
 exact List.map_congr_left fun _ _=>rfl
theorem z282 (n:Nat) (f:AV→AV) (e z:Nat):∀ rs:List (List (List DV)),subMem n f (arrs e z rs)=arrs e z rs
 | []=>rfl
 | r::rs=>by
  change some ((Blk.arr e z r).sub n f)::subMem n f (arrs e z rs)=_
  rw [z282 n f e z rs]
  rfl
theorem z369 {news:List Nat}:∀ {l:List (Option Blk)} {i:Nat},(∀ n,i≤n→n ∉ news)→lessM news i l l
 | [],_,_=>trivial
 | x::l,i,h=>by
  refine ⟨?_,z369 fun n hn=>h n (by omega)⟩
  have hx:=h i (Nat.le_refl _)
  rcases x with _ | b
  ·exact .inl hx
  ·cases b with
   | box r =>
    refine ⟨hx,?_⟩
    have:∀ r:List AV,lessT news r r:=by
     intro r
     induction r with
     | nil=>trivial
     | cons y ys ih=>exact ⟨.inr (.inl rfl),ih⟩
    exact this r
   | arr=>exact ⟨hx,rfl,rfl,rfl⟩
   | arrP=>exact ⟨hx,rfl,rfl,rfl⟩
   | arrA=>exact ⟨hx,rfl,rfl,rfl⟩
   | mp=>exact ⟨hx,rfl,rfl,rfl⟩
theorem z72 (i e z:Nat) (rs:List (List (List DV))):lessM [] i (arrs e z rs) (arrs e z rs):=z369 (by simp)
theorem z54 {m:List (Option Blk)} (e z:Nat):∀ rs:List (List (List DV)),liveM m (arrs e z rs)=true
 | []=>rfl
 | r::rs=>by
  change liveM m (arrs e z rs)=true
  exact z54 e z rs
theorem z159 {m:List (Option Blk)} {L k:Nat} (h1:k≤(m.drop L).length) (h2:(m.drop L).all Option.isSome=true):((nm L k).all fun r=>r.all (liveB m))=true:=by
 rw [List.all_eq_true]
 intro r hr
 obtain ⟨j,hj,rfl⟩:=List.mem_map.1 hr
 have hj:j<k:=by simpa using hj
 simp only [List.all_cons,List.all_nil,Bool.and_true,liveB,AV.refs]
 obtain ⟨x,hx⟩:∃ x,(m.drop L)[j]?=some x:=⟨_,List.getElem?_eq_getElem (by omega)⟩
 have h3:=List.all_eq_true.1 h2 x (List.mem_of_getElem? hx)
 rw [List.getElem?_drop,Nat.add_comm] at hx
 rw [hx]
 cases x with
 | none=>cases h3
 | some b=>rfl
theorem z801 (k:Nat) (st:St):Weak st { st with m:=st.m++List.replicate k none }:=by
 intro P base out μ tmps w h
 have hg:∀ (n:Nat) b,(st.m++List.replicate k none)[n]?=some (some b)→st.m[n]?=some (some b):=by
  intro n b hn
  rcases Nat.lt_or_ge n st.m.length with h1 | h1
  ·rwa [List.getElem?_append_left h1] at hn
  ·rw [List.getElem?_append_right h1,List.getElem?_replicate] at hn
   split at hn <;> cases hn
 refine ⟨μ,⟨h.size,h.tmp,⟨fun n b hn=>h.mem.blk n b (hg n b hn),fun n hn=>?_,h.mem.inj,h.mem.base⟩,h.hid,h.out,h.le⟩,fun _ hb=>hb⟩
 obtain ⟨b,hb⟩:=h.mem.dom n hn
 exact ⟨b,by dsimp only;rw [List.getElem?_append_left (List.getElem?_eq_some_iff.1 hb).1];exact hb⟩
theorem z721 {P:Program} {rd:Option Nat} {n:Nat} {J:Env} {c:Code} {cs:List Code} {k:Option Nat} {st:St} {Q:Exit→Option Nat→St→Prop} (g:Nat) (h:WalkL P rd n J (c::cs) k { st with m:=st.m++List.replicate g none } Q):WalkL P rd n J (c::cs) k st Q :=
 z48 (z801 g st) h
def rowN (L k:Nat):List Nat:=(List.range k).map (· + L)
theorem z909 (L k:Nat):(rowN L k).length=k:=by simp [rowN]
theorem z910 {L k j:Nat} (h:j<k):(rowN L k)[j]?=some (j + L):=by simp [rowN,h]
theorem z432 {L k n:Nat}:n ∈ rowN L k↔L≤n∧n<L + k:=by
 simp only [rowN,List.mem_map,List.mem_range]
 constructor
 ·rintro ⟨j,hj,rfl⟩;omega
 ·rintro ⟨h1,h2⟩;exact ⟨n - L,by omega,by omega⟩
theorem z365 (L k:Nat):(rowN L k).Nodup:=by
 unfold rowN
 refine List.Pairwise.map _ ?_ List.nodup_range
 intro a b h
 simp only [ne_eq] at h ⊢
 omega
theorem z198 (L k:Nat):rowN L (k + 1)=L::rowN (L + 1) k:=by
 simp only [rowN,List.range_succ_eq_map,List.map_cons,List.map_map]
 refine congr (congrArg _ (by omega)) (List.map_congr_left fun j _=>?_)
 simp only [Function.comp_apply]
 omega
theorem z857:∀ (L k j:Nat),j<k→inv (rowN L k) (j + L)=some j
 | _,0,_,h=>absurd h (Nat.not_lt_zero _)
 | L,k + 1,0,_=>by rw [z198];simp [inv]
 | L,k + 1,j + 1,h=>by
  rw [z198]
  simp only [inv]
  rw [if_neg (by omega),show j + 1 + L=j + (L + 1) by omega,z857 (L + 1) k j (by omega)]
  rfl
theorem z938 {d L k j:Nat} (hd:d<L) (h:j<k):inv (d::rowN L k) (j + L)=some (j + 1):=by
 simp only [inv]
 rw [if_neg (by omega),z857 L k j h]
 rfl
theorem z574 {s:St} {gs:List Nat} {e z:Nat}:∀ {rs:List (List (List DV))} {L:Nat},(∀ j r,rs[j]?=some r→s.m[j + L]?=some (some (.arr e z r)))→blksG s gs (rowN L rs.length) (rs.map fun r=>Blk.arr e z r)
 | [],_,_=>trivial
 | r::rs,L,h=>by
  rw [List.length_cons,z198,List.map_cons]
  refine ⟨?_,z574 fun j r' hj=>?_⟩
  ·have:=h 0 r rfl
   rw [Nat.zero_add] at this
   rw [this]
   rfl
  ·have:=h (j + 1) r' (by simpa using hj)
   rwa [show j + (L + 1)=j + 1 + L by omega]
theorem z693 {e z:Nat}:∀ (rs:List (List (List DV))) (a:List (Option Blk)) (L:Nat),a.length=L→putM (rowN L rs.length) (rs.map fun r=>Blk.arr e z r) (a++List.replicate rs.length none)=a++arrs e z rs
 | [],a,_,_=>by simp [rowN,putM,arrs]
 | r::rs,a,L,h=>by
  rw [List.length_cons,z198,List.map_cons,putM,List.replicate_succ,List.set_append_right _ _ (by omega),h,Nat.sub_self,List.set_cons_zero,
   show a++some (Blk.arr e z r)::List.replicate rs.length none=(a++[some (Blk.arr e z r)])++List.replicate rs.length none by simp,z693 (e:=e) (z:=z) rs (a++[some (Blk.arr e z r)]) (L + 1) (by simp [h])]
  simp [arrs]
end Go.Ab
/- An array of arrays of the call's own,as an array of deep values: its elements are given up. -/
namespace Go.Ab
open Go.RowKit
def ltN (L n:Nat):Option Nat:=if n<L then some n else none
def flatRows (rs:List (List (List DV))):List (List DV):=rs.map fun r=>[.sl r]
theorem z557 {rs:List (List (List DV))} {i j:Nat} {r:List DV} {x:DV} (h1:(flatRows rs)[i]?=some r) (h2:r[j]?=some x):∃ q,rs[i]?=some q∧j=0∧x=.sl q:=by
 simp only [flatRows,List.getElem?_map,Option.map_eq_some_iff] at h1
 obtain ⟨q,h1,rfl⟩:=h1
 cases j with
 | zero=>cases h2;exact ⟨q,h1,rfl,rfl⟩
 | succ j=>simp at h2
theorem z802 {st:St} {L d e e1 z1:Nat} {rs:List (List (List DV))} (hL:d<L) (hl:L≤st.m.length) (hd:st.m[d]?=some (some (.arrA e 1 (nm L rs.length)))) (hr:∀ j r,rs[j]?=some r→st.m[j + L]?=some (some (.arr e1 z1 r))) :
  Weak st { t:=st.t.map (AV.mapN (ltN L)),m:=((st.m.take L).map (Option.map (Blk.mapN (ltN L)))).set d (some (.arr e 1 (flatRows rs))) }:=by
 intro P base out μ tmps w h
 obtain ⟨μ',hμ'⟩:∃ μ':Pl,μ'=fun k=>if k<L then μ k else none:=⟨_,rfl⟩
 have hs:∀ k L',μ' k=some L'→k<L∧μ k=some L':=by
  intro k L' hk
  rw [hμ'] at hk
  dsimp only at hk
  split at hk
  ·rename_i e;exact ⟨e,hk⟩
  ·cases hk
 have hsub:∀ b,ownOf out μ' b→ownOf out μ b:=by
  rintro b (h | ⟨n,z,l,c,h⟩)
  ·exact .inl h
  ·exact .inr ⟨n,z,l,c,(hs n _ h).2⟩
 have hg:Goes w (ownOf out μ) w (ownOf out μ'):=fun b o v h1 h2=>⟨fun hc=>h1 (hsub b hc),h2⟩
 have hmv:∀ n,(μ n).isSome→∀ k,ltN L n=some k→μ' k=μ n:=by
  intro n _ k hk
  unfold ltN at hk
  split at hk
  ·rename_i e;cases hk;rw [hμ'];simp only;rw [if_pos e]
  ·cases hk
 have hlen:((st.m.take L).map (Option.map (Blk.mapN (ltN L)))).length=L:=by simp;omega
 refine ⟨μ',⟨by rw [h.size];simp,fun i x v hx hv=>?_,⟨fun k b' hk=>?_,fun k hk=>?_,fun k1 k2 b' z l c z' l' c' h1 h2=>h.mem.inj k1 k2 b' _ _ _ _ _ _ (hs _ _ h1).2 (hs _ _ h2).2,fun k b' z l c hk=>h.mem.base k b' z l c (hs _ _ hk).2⟩,h.hid.less hsub,h.out,h.le⟩,hsub⟩
 ·simp only [List.getElem?_map,Option.map_eq_some_iff] at hx
  obtain ⟨y,hx,rfl⟩:=hx
  exact (h.tmp i y v hx hv).mapN (.inl hg) (fun n _ hn k hk=>hmv n hn k hk)
 ·dsimp only at hk
  rw [List.getElem?_set] at hk
  split at hk
  ·rename_i hdk
   subst hdk
   simp only [hlen,hL,if_true,Option.some.injEq] at hk
   subst hk
   have hμd:μ' d=μ d:=by rw [hμ'];simp only;rw [if_pos hL]
   rcases h.mem.arrA hd with ⟨h0,h1⟩ | ⟨b,cap,cs,q1,q2,q3,q4,q5,q6,q7⟩
   ·refine .inl ⟨hμd.trans h0,?_⟩
    have:rs.length=0:=by rw [← z289 L rs.length,h1];rfl
    rw [List.eq_nil_of_length_eq_zero this];rfl
   ·rw [z289] at q1 q3
    refine .inr ⟨b,cap,cs,by rw [hμd];simpa [flatRows] using q1,q2,by simpa [flatRows] using q3,q4,q5,fun r hr=>?_,fun i r j x hi hj=>?_⟩
    ·simp only [flatRows,List.mem_map] at hr
     obtain ⟨q,_,rfl⟩:=hr
     rfl
    ·obtain ⟨q,hq,rfl,rfl⟩:=z557 hi hj
     have hil:=(List.getElem?_eq_some_iff.1 hq).1
     obtain ⟨v,p1,p2,p3⟩:=q7 i _ 0 _ (z957 hil) rfl
     refine ⟨v,p1,p2,?_⟩
     have hno:∀ b z l c,μ (i + L)=some (.at b z l c)→¬ ownOf out μ' b:=by
      rintro b z l c hb (ho | ⟨n,z',l',c',hn⟩)
      ·exact (h.mem.base _ _ _ _ _ hb).2.2 ho
      ·obtain ⟨hn1,hn2⟩:=hs _ _ hn
       have:=h.mem.inj _ _ _ _ _ _ _ _ _ hb hn2
       omega
     rcases h.mem.arr (hr i q hq) with ⟨g0,rfl⟩ | ⟨b',cap',cs',g1,g2,g3,g4,g5,g6,g7⟩
     ·rcases z44 p3 with ⟨_,rfl⟩ | ⟨b2,z2,l2,c2,g1,_⟩
      ·exact .slNil
      ·rw [g0] at g1;cases g1
     ·rcases z44 p3 with ⟨g0,_⟩ | ⟨b2,z2,l2,c2,k1,rfl⟩
      ·rw [g1] at g0;cases g0
      ·rw [g1] at k1;cases k1
       have:=z214 (own':=ownOf out μ') (e:=e1) (z:=z1) (hno _ _ _ _ g1) hsub g2 g7
       refine .sl q b' 0 z1 cap' (fun i j=>cs'.getD (i * z1 + j) Go.undef) g3 g6 (fun i r j d h1 h2=>?_) (fun i r j d h1 h2=>(this i r j d h1 h2).2)
       rw [Nat.zero_add]
       exact (this i r j d h1 h2).1
  ·rename_i hdk
   simp only [List.getElem?_map,Option.map_eq_some_iff,List.getElem?_take] at hk
   obtain ⟨ob,hob,b0,rfl,rfl⟩:=hk
   split at hob
   ·rename_i hkL
    exact BlkRel.mapN (.inl hg) (by rw [hμ'];simp only;rw [if_pos hkL]) hmv (fun _ _ _ _ _=>rfl) (h.mem.blk k b0 hob)
   ·cases hob
 ·obtain ⟨L',hL'⟩:=Option.isSome_iff_exists.1 hk
  obtain ⟨hkL,hk'⟩:=hs k L' hL'
  obtain ⟨b',hb'⟩:=h.mem.dom k (by simp [hk'])
  dsimp only
  by_cases hkd:d=k
  ·subst hkd
   exact ⟨_,List.getElem?_set_self (by omega)⟩
  ·refine ⟨b'.mapN (ltN L),?_⟩
   rw [List.getElem?_set_ne hkd]
   simp [List.getElem?_take,hkL,hb']
theorem z722 {P:Program} {rd:Option Nat} {n:Nat} {J:Env} {c:Code} {cs:List Code} {k:Option Nat} {st:St} {Q:Exit→Option Nat→St→Prop} {L d e e1 z1:Nat} (rs:List (List (List DV))) (hL:d<L) (hl:L≤st.m.length) (hd:st.m[d]?=some (some (.arrA e 1 (nm L rs.length)))) (hr:∀ j r,rs[j]?=some r→st.m[j + L]?=some (some (.arr e1 z1 r)))
  (h:WalkL P rd n J (c::cs) k { t:=st.t.map (AV.mapN (ltN L)),m:=((st.m.take L).map (Option.map (Blk.mapN (ltN L)))).set d (some (.arr e 1 (flatRows rs))) } Q):WalkL P rd n J (c::cs) k st Q :=
 z48 (z802 hL hl hd hr) h
attribute [go_sem] ltN
end Go.Ab
/- Calls of functions that make an array of arrays. -/
namespace Go.Ab
open Go.RowKit
theorem z664 (L k d:Nat):((nm 1 k).map fun r=>r.map (AV.mapN fun i=>(d::rowN L k)[i]?))=nm L k:=z665 fun j hj=>by
 rw [List.getElem?_cons_succ,z910 hj]
theorem CallR.madeRows {P:Program} {st:St} {dst:Option Tmp} {g:FuncId} {xs:List AV} {ds:List DV} {e e1 z1:Nat} {rs:List (List (List DV))} (d L:Nat)
  (hf:FnG P g [] [] (ds.map AV.d) (.own 0) (.arrA e 1 (nm 1 rs.length)::rs.map fun r=>Blk.arr e1 z1 r)) (hd:reifyAll st xs=some ds) (hx:AV.refsAll xs=[]) (hdL:d<L) (hl:L≤st.m.length) (hfr:(st.m.take L)[d]?=some none)
  (hm:st.m.drop L=List.replicate rs.length none):CallR P st dst g xs (({ st with m:=(st.m.take L).set d (some (.arrA e 1 (nm L rs.length)))++arrs e1 z1 rs }:St).put dst (.own d)):=by
 have hmm:st.m=st.m.take L++List.replicate rs.length none:=by rw [← hm,List.take_append_drop]
 have hal:(st.m.take L).length=L:=by simp;omega
 have hdm:d ∉ rowN L rs.length:=fun h=>by have:=z432.1 h;omega
 have h:=CallR.made (dst:=dst) (d::rowN L rs.length) hf hd (List.nodup_cons.2 ⟨hdm,z365 L _⟩) (by simp [z909]) (by
  rw [List.all_eq_true]
  intro n hn
  unfold St.fresh
  rcases List.mem_cons.1 hn with rfl | hn
  ·have:st.m[n]?=some none:=by rw [hmm,List.getElem?_append_left (by omega)];exact hfr
   rw [this]
  ·have hn:=z432.1 hn
   have:st.m[n]?=some none:=by
    rw [hmm,List.getElem?_append_right (by omega),hal,List.getElem?_replicate,if_pos (by omega)]
   rw [this]) hx
 have e1:putM (d::rowN L rs.length) (((.arrA e 1 (nm 1 rs.length)::rs.map fun r=>Blk.arr e1 z1 r)).map (Blk.mapN fun i=>(d::rowN L rs.length)[i]?)) st.m=(st.m.take L).set d (some (.arrA e 1 (nm L rs.length)))++arrs e1 z1 rs:=by
  rw [List.map_cons,putM]
  have e2:(rs.map fun r=>Blk.arr e1 z1 r).map (Blk.mapN fun i=>(d::rowN L rs.length)[i]?)=rs.map fun r=>Blk.arr e1 z1 r:=by
   rw [List.map_map];rfl
  rw [e2]
  have e3:(Blk.arrA e 1 (nm 1 rs.length)).mapN (fun i=>(d::rowN L rs.length)[i]?)=.arrA e 1 (nm L rs.length):=by
   change Blk.arrA e 1 _=_
   rw [z664]
  rw [e3]
  conv=>lhs;rw [hmm]
  rw [List.set_append_left _ _ (by omega)]
  exact z693 rs _ L (by rw [List.length_set];exact hal)
 rw [e1] at h
 simpa [AV.mapN] using h
end Go.Ab
