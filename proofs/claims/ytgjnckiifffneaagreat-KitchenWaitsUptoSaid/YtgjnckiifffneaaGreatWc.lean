/- A walk engine over abstract states, and the contracts of the functions that the statement reaches: part 3. -/
import Derived.Test.YtgjnckiifffneaaGreatWb
import Derived.Test.YtgjnckiifffneaaGreatProg
import Derived.ChangeArms
import Derived.Test.YtgjnckiifffneaaGreatRows
import Derived.JoinedCond
import Derived.Carry
import Derived.RowKit
set_option linter.unusedVariables false
set_option linter.unusedSimpArgs false
set_option linter.unnecessarySimpa false
/- The program's type table,as the engine asks for it. -/
namespace Go.Ab
open Go.RowKit Go.Proofs
theorem z1005:tsz Tryz.prog 0=(some 1):=by kernel_rfl
theorem z600:tbytes Tryz.prog 0=(some 0):=by kernel_rfl
theorem z953:tagg Tryz.prog 0=(some false):=by kernel_rfl
theorem z1004:tsz Tryz.prog 1=(some 1):=by kernel_rfl
theorem z599:tbytes Tryz.prog 1=(some 8):=by kernel_rfl
theorem z952:tagg Tryz.prog 1=(some false):=by kernel_rfl
theorem z1003:tsz Tryz.prog 2=(some 1):=by kernel_rfl
theorem z598:tbytes Tryz.prog 2=(some 8):=by kernel_rfl
theorem z951:tagg Tryz.prog 2=(some false):=by kernel_rfl
theorem z944:tint Tryz.prog 2=(some IntKind.i64):=by kernel_rfl
theorem z1002:tsz Tryz.prog 3=(some 1):=by kernel_rfl
theorem z597:tbytes Tryz.prog 3=(some 8):=by kernel_rfl
theorem z950:tagg Tryz.prog 3=(some false):=by kernel_rfl
theorem z943:tint Tryz.prog 3=(some IntKind.i64):=by kernel_rfl
theorem z1001:tsz Tryz.prog 4=(some 1):=by kernel_rfl
theorem z596:tbytes Tryz.prog 4=(some 1):=by kernel_rfl
theorem z949:tagg Tryz.prog 4=(some false):=by kernel_rfl
theorem z942:tsz Tryz.prog 11=(some 1):=by kernel_rfl
theorem z511:tbytes Tryz.prog 11=(some 16):=by kernel_rfl
theorem z837:tagg Tryz.prog 11=(some false):=by kernel_rfl
theorem z941:tsz Tryz.prog 17=(some 1):=by kernel_rfl
theorem z510:tbytes Tryz.prog 17=(some 8):=by kernel_rfl
theorem z836:tagg Tryz.prog 17=(some false):=by kernel_rfl
theorem z940:tsz Tryz.prog 22=(some 1):=by kernel_rfl
theorem z509:tbytes Tryz.prog 22=(some 24):=by kernel_rfl
theorem z835:tagg Tryz.prog 22=(some false):=by kernel_rfl
theorem z483:tslice Tryz.prog 22=(some 3):=by kernel_rfl
theorem z939:tsz Tryz.prog 23=(some 1):=by kernel_rfl
theorem z508:tbytes Tryz.prog 23=(some 24):=by kernel_rfl
theorem z834:tagg Tryz.prog 23=(some false):=by kernel_rfl
theorem z482:tslice Tryz.prog 23=(some 110):=by kernel_rfl
theorem z938:tsz Tryz.prog 24=(some 1):=by kernel_rfl
theorem z507:tbytes Tryz.prog 24=(some 24):=by kernel_rfl
theorem z833:tagg Tryz.prog 24=(some false):=by kernel_rfl
theorem z481:tslice Tryz.prog 24=(some 69):=by kernel_rfl
theorem z937:tsz Tryz.prog 25=(some 1):=by kernel_rfl
theorem z506:tbytes Tryz.prog 25=(some 24):=by kernel_rfl
theorem z832:tagg Tryz.prog 25=(some false):=by kernel_rfl
theorem z480:tslice Tryz.prog 25=(some 67):=by kernel_rfl
theorem z936:tsz Tryz.prog 27=(some 4):=by kernel_rfl
theorem z505:tbytes Tryz.prog 27=(some 96):=by kernel_rfl
theorem z831:tagg Tryz.prog 27=(some true):=by kernel_rfl
theorem z388:tfields Tryz.prog 27=(some [(0,(1,false)),(1,(1,false)),(2,(1,false)),(3,(1,false))]):=by kernel_rfl
theorem z935:tsz Tryz.prog 28=(some 1):=by kernel_rfl
theorem z504:tbytes Tryz.prog 28=(some 24):=by kernel_rfl
theorem z830:tagg Tryz.prog 28=(some false):=by kernel_rfl
theorem z479:tslice Tryz.prog 28=(some 22):=by kernel_rfl
theorem z934:tsz Tryz.prog 29=(some 1):=by kernel_rfl
theorem z503:tbytes Tryz.prog 29=(some 24):=by kernel_rfl
theorem z829:tagg Tryz.prog 29=(some false):=by kernel_rfl
theorem z478:tslice Tryz.prog 29=(some 72):=by kernel_rfl
theorem z933:tsz Tryz.prog 31=(some 1):=by kernel_rfl
theorem z502:tbytes Tryz.prog 31=(some 24):=by kernel_rfl
theorem z828:tagg Tryz.prog 31=(some true):=by kernel_rfl
theorem z387:tfields Tryz.prog 31=(some [(0,(1,false))]):=by kernel_rfl
theorem z932:tsz Tryz.prog 32=(some 1):=by kernel_rfl
theorem z501:tbytes Tryz.prog 32=(some 24):=by kernel_rfl
theorem z827:tagg Tryz.prog 32=(some false):=by kernel_rfl
theorem z477:tslice Tryz.prog 32=(some 199):=by kernel_rfl
theorem z931:tsz Tryz.prog 34=(some 2):=by kernel_rfl
theorem z500:tbytes Tryz.prog 34=(some 16):=by kernel_rfl
theorem z826:tagg Tryz.prog 34=(some true):=by kernel_rfl
theorem z386:tfields Tryz.prog 34=(some [(0,(1,false)),(1,(1,false))]):=by kernel_rfl
theorem z948:teq Tryz.prog 34=(some [(0,false),(1,false)]):=by kernel_rfl
theorem z930:tsz Tryz.prog 36=(some 5):=by kernel_rfl
theorem z499:tbytes Tryz.prog 36=(some 40):=by kernel_rfl
theorem z825:tagg Tryz.prog 36=(some true):=by kernel_rfl
theorem z385:tfields Tryz.prog 36=(some [(0,(1,false)),(1,(1,false)),(2,(1,false)),(3,(2,true))]):=by kernel_rfl
theorem z947:teq Tryz.prog 36=(some [(0,false),(1,false),(2,false),(3,false),(4,false)]):=by kernel_rfl
theorem z929:tsz Tryz.prog 37=(some 1):=by kernel_rfl
theorem z498:tbytes Tryz.prog 37=(some 24):=by kernel_rfl
theorem z824:tagg Tryz.prog 37=(some false):=by kernel_rfl
theorem z476:tslice Tryz.prog 37=(some 95):=by kernel_rfl
theorem z928:tsz Tryz.prog 39=(some 8):=by kernel_rfl
theorem z497:tbytes Tryz.prog 39=(some 112):=by kernel_rfl
theorem z823:tagg Tryz.prog 39=(some true):=by kernel_rfl
theorem z384:tfields Tryz.prog 39=(some [(0,(1,true)),(1,(1,false)),(2,(5,true)),(7,(1,false))]):=by kernel_rfl
theorem z927:tsz Tryz.prog 41=(some 10):=by kernel_rfl
theorem z496:tbytes Tryz.prog 41=(some 128):=by kernel_rfl
theorem z822:tagg Tryz.prog 41=(some true):=by kernel_rfl
theorem z383:tfields Tryz.prog 41=(some [(0,(8,true)),(8,(1,false)),(9,(1,false))]):=by kernel_rfl
theorem z926:tsz Tryz.prog 46=(some 1):=by kernel_rfl
theorem z495:tbytes Tryz.prog 46=(some 8):=by kernel_rfl
theorem z821:tagg Tryz.prog 46=(some false):=by kernel_rfl
theorem z805:tint Tryz.prog 46=(some IntKind.i64):=by kernel_rfl
theorem z925:tsz Tryz.prog 67=(some 1):=by kernel_rfl
theorem z494:tbytes Tryz.prog 67=(some 24):=by kernel_rfl
theorem z820:tagg Tryz.prog 67=(some false):=by kernel_rfl
theorem z475:tslice Tryz.prog 67=(some 87):=by kernel_rfl
theorem z924:tsz Tryz.prog 69=(some 1):=by kernel_rfl
theorem z493:tbytes Tryz.prog 69=(some 24):=by kernel_rfl
theorem z819:tagg Tryz.prog 69=(some true):=by kernel_rfl
theorem z382:tfields Tryz.prog 69=(some [(0,(1,false))]):=by kernel_rfl
theorem z923:tsz Tryz.prog 70=(some 1):=by kernel_rfl
theorem z492:tbytes Tryz.prog 70=(some 24):=by kernel_rfl
theorem z818:tagg Tryz.prog 70=(some false):=by kernel_rfl
theorem z474:tslice Tryz.prog 70=(some 116):=by kernel_rfl
theorem z922:tsz Tryz.prog 72=(some 1):=by kernel_rfl
theorem z491:tbytes Tryz.prog 72=(some 24):=by kernel_rfl
theorem z817:tagg Tryz.prog 72=(some true):=by kernel_rfl
theorem z381:tfields Tryz.prog 72=(some [(0,(1,false))]):=by kernel_rfl
theorem z921:tsz Tryz.prog 87=(some 3):=by kernel_rfl
theorem z490:tbytes Tryz.prog 87=(some 24):=by kernel_rfl
theorem z816:tagg Tryz.prog 87=(some true):=by kernel_rfl
theorem z380:tfields Tryz.prog 87=(some [(0,(1,false)),(1,(2,true))]):=by kernel_rfl
theorem z946:teq Tryz.prog 87=(some [(0,false),(1,false),(2,false)]):=by kernel_rfl
theorem z920:tsz Tryz.prog 88=(some 1):=by kernel_rfl
theorem z489:tbytes Tryz.prog 88=(some 8):=by kernel_rfl
theorem z815:tagg Tryz.prog 88=(some false):=by kernel_rfl
theorem z919:tsz Tryz.prog 93=(some 4):=by kernel_rfl
theorem z488:tbytes Tryz.prog 93=(some 32):=by kernel_rfl
theorem z814:tagg Tryz.prog 93=(some true):=by kernel_rfl
theorem z379:tfields Tryz.prog 93=(some [(0,(1,false)),(1,(1,false)),(2,(2,true))]):=by kernel_rfl
theorem z945:teq Tryz.prog 93=(some [(0,false),(1,false),(2,false),(3,false)]):=by kernel_rfl
theorem z918:tsz Tryz.prog 95=(some 7):=by kernel_rfl
theorem z487:tbytes Tryz.prog 95=(some 56):=by kernel_rfl
theorem z813:tagg Tryz.prog 95=(some true):=by kernel_rfl
theorem z378:tfields Tryz.prog 95=(some [(0,(1,false)),(1,(1,false)),(2,(1,false)),(3,(4,true))]):=by kernel_rfl
theorem z917:tsz Tryz.prog 97=(some 4):=by kernel_rfl
theorem z486:tbytes Tryz.prog 97=(some 96):=by kernel_rfl
theorem z812:tagg Tryz.prog 97=(some true):=by kernel_rfl
theorem z377:tfields Tryz.prog 97=(some [(0,(4,true))]):=by kernel_rfl
theorem z804:tsz Tryz.prog 100=(some 1):=by kernel_rfl
theorem z427:tbytes Tryz.prog 100=(some 8):=by kernel_rfl
theorem z640:tagg Tryz.prog 100=(some false):=by kernel_rfl
theorem z803:tsz Tryz.prog 103=(some 1):=by kernel_rfl
theorem z426:tbytes Tryz.prog 103=(some 8):=by kernel_rfl
theorem z639:tagg Tryz.prog 103=(some false):=by kernel_rfl
theorem z802:tsz Tryz.prog 106=(some 1):=by kernel_rfl
theorem z425:tbytes Tryz.prog 106=(some 8):=by kernel_rfl
theorem z638:tagg Tryz.prog 106=(some false):=by kernel_rfl
theorem z801:tsz Tryz.prog 108=(some 7):=by kernel_rfl
theorem z424:tbytes Tryz.prog 108=(some 152):=by kernel_rfl
theorem z637:tagg Tryz.prog 108=(some true):=by kernel_rfl
theorem z319:tfields Tryz.prog 108=(some [(0,(4,true)),(4,(1,false)),(5,(1,false)),(6,(1,false))]):=by kernel_rfl
theorem z800:tsz Tryz.prog 110=(some 3):=by kernel_rfl
theorem z423:tbytes Tryz.prog 110=(some 24):=by kernel_rfl
theorem z636:tagg Tryz.prog 110=(some true):=by kernel_rfl
theorem z318:tfields Tryz.prog 110=(some [(0,(1,false)),(1,(1,false)),(2,(1,false))]):=by kernel_rfl
theorem z811:teq Tryz.prog 110=(some [(0,false),(1,false),(2,false)]):=by kernel_rfl
theorem z799:tsz Tryz.prog 116=(some 6):=by kernel_rfl
theorem z422:tbytes Tryz.prog 116=(some 48):=by kernel_rfl
theorem z635:tagg Tryz.prog 116=(some true):=by kernel_rfl
theorem z317:tfields Tryz.prog 116=(some [(0,(2,true)),(2,(2,true)),(4,(2,true))]):=by kernel_rfl
theorem z810:teq Tryz.prog 116=(some [(0,false),(1,false),(2,false),(3,false),(4,false),(5,false)]):=by kernel_rfl
theorem z798:tsz Tryz.prog 121=(some 1):=by kernel_rfl
theorem z421:tbytes Tryz.prog 121=(some 8):=by kernel_rfl
theorem z634:tagg Tryz.prog 121=(some false):=by kernel_rfl
theorem z797:tsz Tryz.prog 122=(some 1):=by kernel_rfl
theorem z420:tbytes Tryz.prog 122=(some 8):=by kernel_rfl
theorem z633:tagg Tryz.prog 122=(some false):=by kernel_rfl
theorem z796:tsz Tryz.prog 123=(some 1):=by kernel_rfl
theorem z419:tbytes Tryz.prog 123=(some 8):=by kernel_rfl
theorem z632:tagg Tryz.prog 123=(some false):=by kernel_rfl
theorem z485:tmapK Tryz.prog 123=(some ((some 11),130)):=by kernel_rfl
theorem z795:tsz Tryz.prog 125=(some 5):=by kernel_rfl
theorem z418:tbytes Tryz.prog 125=(some 104):=by kernel_rfl
theorem z631:tagg Tryz.prog 125=(some true):=by kernel_rfl
theorem z316:tfields Tryz.prog 125=(some [(0,(4,true)),(4,(1,false))]):=by kernel_rfl
theorem z794:tsz Tryz.prog 126=(some 10):=by kernel_rfl
theorem z417:tbytes Tryz.prog 126=(some 80):=by kernel_rfl
theorem z630:tagg Tryz.prog 126=(some true):=by kernel_rfl
theorem z601:tarr Tryz.prog 126=(some 10):=by kernel_rfl
theorem z512:tslice Tryz.prog 126=none:=by kernel_rfl
theorem z793:tsz Tryz.prog 128=(some 11):=by kernel_rfl
theorem z416:tbytes Tryz.prog 128=(some 88):=by kernel_rfl
theorem z629:tagg Tryz.prog 128=(some true):=by kernel_rfl
theorem z315:tfields Tryz.prog 128=(some [(0,(1,false)),(1,(10,true))]):=by kernel_rfl
theorem z792:tsz Tryz.prog 130=(some 2):=by kernel_rfl
theorem z415:tbytes Tryz.prog 130=(some 32):=by kernel_rfl
theorem z628:tagg Tryz.prog 130=(some true):=by kernel_rfl
theorem z314:tfields Tryz.prog 130=(some [(0,(1,false)),(1,(1,false))]):=by kernel_rfl
theorem z791:tsz Tryz.prog 132=(some 1):=by kernel_rfl
theorem z414:tbytes Tryz.prog 132=(some 8):=by kernel_rfl
theorem z627:tagg Tryz.prog 132=(some false):=by kernel_rfl
theorem z790:tsz Tryz.prog 136=(some 1):=by kernel_rfl
theorem z413:tbytes Tryz.prog 136=(some 24):=by kernel_rfl
theorem z626:tagg Tryz.prog 136=(some false):=by kernel_rfl
theorem z376:tslice Tryz.prog 136=(some 190):=by kernel_rfl
theorem z789:tsz Tryz.prog 138=(some 10):=by kernel_rfl
theorem z412:tbytes Tryz.prog 138=(some 144):=by kernel_rfl
theorem z625:tagg Tryz.prog 138=(some true):=by kernel_rfl
theorem z313:tfields Tryz.prog 138=(some [(0,(8,true)),(8,(1,false)),(9,(1,false))]):=by kernel_rfl
theorem z788:tsz Tryz.prog 141=(some 1):=by kernel_rfl
theorem z411:tbytes Tryz.prog 141=(some 24):=by kernel_rfl
theorem z624:tagg Tryz.prog 141=(some false):=by kernel_rfl
theorem z375:tslice Tryz.prog 141=(some 34):=by kernel_rfl
theorem z787:tsz Tryz.prog 146=(some 4):=by kernel_rfl
theorem z410:tbytes Tryz.prog 146=(some 32):=by kernel_rfl
theorem z623:tagg Tryz.prog 146=(some true):=by kernel_rfl
theorem z312:tfields Tryz.prog 146=(some [(0,(4,true))]):=by kernel_rfl
theorem z786:tsz Tryz.prog 147=(some 1):=by kernel_rfl
theorem z409:tbytes Tryz.prog 147=(some 8):=by kernel_rfl
theorem z622:tagg Tryz.prog 147=(some false):=by kernel_rfl
theorem z785:tsz Tryz.prog 150=(some 1):=by kernel_rfl
theorem z408:tbytes Tryz.prog 150=(some 24):=by kernel_rfl
theorem z621:tagg Tryz.prog 150=(some false):=by kernel_rfl
theorem z374:tslice Tryz.prog 150=(some 70):=by kernel_rfl
theorem z784:tsz Tryz.prog 152=(some 3):=by kernel_rfl
theorem z407:tbytes Tryz.prog 152=(some 56):=by kernel_rfl
theorem z620:tagg Tryz.prog 152=(some true):=by kernel_rfl
theorem z311:tfields Tryz.prog 152=(some [(0,(1,false)),(1,(1,false)),(2,(1,false))]):=by kernel_rfl
theorem z783:tsz Tryz.prog 154=(some 1):=by kernel_rfl
theorem z406:tbytes Tryz.prog 154=(some 24):=by kernel_rfl
theorem z619:tagg Tryz.prog 154=(some false):=by kernel_rfl
theorem z373:tslice Tryz.prog 154=(some 4):=by kernel_rfl
theorem z782:tsz Tryz.prog 156=(some 1):=by kernel_rfl
theorem z405:tbytes Tryz.prog 156=(some 8):=by kernel_rfl
theorem z618:tagg Tryz.prog 156=(some false):=by kernel_rfl
theorem z781:tsz Tryz.prog 159=(some 1):=by kernel_rfl
theorem z404:tbytes Tryz.prog 159=(some 8):=by kernel_rfl
theorem z617:tagg Tryz.prog 159=(some false):=by kernel_rfl
theorem z780:tsz Tryz.prog 160=(some 1):=by kernel_rfl
theorem z403:tbytes Tryz.prog 160=(some 8):=by kernel_rfl
theorem z616:tagg Tryz.prog 160=(some false):=by kernel_rfl
theorem z779:tsz Tryz.prog 161=(some 1):=by kernel_rfl
theorem z402:tbytes Tryz.prog 161=(some 8):=by kernel_rfl
theorem z615:tagg Tryz.prog 161=(some false):=by kernel_rfl
theorem z778:tsz Tryz.prog 163=(some 1):=by kernel_rfl
theorem z401:tbytes Tryz.prog 163=(some 8):=by kernel_rfl
theorem z614:tagg Tryz.prog 163=(some false):=by kernel_rfl
theorem z777:tsz Tryz.prog 164=(some 1):=by kernel_rfl
theorem z400:tbytes Tryz.prog 164=(some 8):=by kernel_rfl
theorem z613:tagg Tryz.prog 164=(some false):=by kernel_rfl
theorem z776:tsz Tryz.prog 166=(some 1):=by kernel_rfl
theorem z399:tbytes Tryz.prog 166=(some 8):=by kernel_rfl
theorem z612:tagg Tryz.prog 166=(some false):=by kernel_rfl
theorem z775:tsz Tryz.prog 180=(some 1):=by kernel_rfl
theorem z398:tbytes Tryz.prog 180=(some 8):=by kernel_rfl
theorem z611:tagg Tryz.prog 180=(some false):=by kernel_rfl
theorem z774:tsz Tryz.prog 184=(some 2):=by kernel_rfl
theorem z397:tbytes Tryz.prog 184=(some 16):=by kernel_rfl
theorem z610:tagg Tryz.prog 184=(some true):=by kernel_rfl
theorem z310:tfields Tryz.prog 184=(some [(0,(1,false)),(1,(1,false))]):=by kernel_rfl
theorem z809:teq Tryz.prog 184=(some [(0,false),(1,true)]):=by kernel_rfl
theorem z773:tsz Tryz.prog 188=(some 1):=by kernel_rfl
theorem z396:tbytes Tryz.prog 188=(some 8):=by kernel_rfl
theorem z609:tagg Tryz.prog 188=(some false):=by kernel_rfl
theorem z772:tsz Tryz.prog 190=(some 2):=by kernel_rfl
theorem z395:tbytes Tryz.prog 190=(some 16):=by kernel_rfl
theorem z608:tagg Tryz.prog 190=(some true):=by kernel_rfl
theorem z309:tfields Tryz.prog 190=(some [(0,(1,false)),(1,(1,false))]):=by kernel_rfl
theorem z808:teq Tryz.prog 190=(some [(0,false),(1,false)]):=by kernel_rfl
theorem z771:tsz Tryz.prog 197=(some 3):=by kernel_rfl
theorem z394:tbytes Tryz.prog 197=(some 24):=by kernel_rfl
theorem z607:tagg Tryz.prog 197=(some true):=by kernel_rfl
theorem z308:tfields Tryz.prog 197=(some [(0,(1,false)),(1,(1,false)),(2,(1,false))]):=by kernel_rfl
theorem z807:teq Tryz.prog 197=(some [(0,false),(1,false),(2,false)]):=by kernel_rfl
theorem z770:tsz Tryz.prog 199=(some 4):=by kernel_rfl
theorem z393:tbytes Tryz.prog 199=(some 32):=by kernel_rfl
theorem z606:tagg Tryz.prog 199=(some true):=by kernel_rfl
theorem z307:tfields Tryz.prog 199=(some [(0,(1,false)),(1,(3,true))]):=by kernel_rfl
theorem z806:teq Tryz.prog 199=(some [(0,false),(1,false),(2,false),(3,false)]):=by kernel_rfl
theorem z769:tsz Tryz.prog 207=(some 1):=by kernel_rfl
theorem z392:tbytes Tryz.prog 207=(some 8):=by kernel_rfl
theorem z605:tagg Tryz.prog 207=(some false):=by kernel_rfl
theorem z768:tsz Tryz.prog 211=(some 1):=by kernel_rfl
theorem z391:tbytes Tryz.prog 211=(some 8):=by kernel_rfl
theorem z604:tagg Tryz.prog 211=(some false):=by kernel_rfl
theorem z767:tsz Tryz.prog 223=(some 1):=by kernel_rfl
theorem z390:tbytes Tryz.prog 223=(some 8):=by kernel_rfl
theorem z603:tagg Tryz.prog 223=(some false):=by kernel_rfl
theorem z766:tsz Tryz.prog 225=(some 1):=by kernel_rfl
theorem z389:tbytes Tryz.prog 225=(some 8):=by kernel_rfl
theorem z602:tagg Tryz.prog 225=(some false):=by kernel_rfl
theorem z484:tmapK Tryz.prog 225=(some (none,3)):=by kernel_rfl
theorem z916:tzero Tryz.prog 1=some Value.nilFunc:=by kernel_rfl
theorem z915:tzero Tryz.prog 2=some (Value.int IntKind.i64 0):=by kernel_rfl
theorem z914:tzero Tryz.prog 3=some (Value.int IntKind.i64 0):=by kernel_rfl
theorem z913:tzero Tryz.prog 4=some (Value.bool false):=by kernel_rfl
theorem z765:tzero Tryz.prog 17=some (Value.pointer none):=by kernel_rfl
theorem z764:tzero Tryz.prog 22=some (Value.slice none 0 0):=by kernel_rfl
theorem z763:tzero Tryz.prog 23=some (Value.slice none 0 0):=by kernel_rfl
theorem z762:tzero Tryz.prog 24=some (Value.slice none 0 0):=by kernel_rfl
theorem z761:tzero Tryz.prog 25=some (Value.slice none 0 0):=by kernel_rfl
theorem z760:tzero Tryz.prog 27=some (Value.agg #[Value.slice none 0 0,Value.slice none 0 0,Value.slice none 0 0,Value.slice none 0 0]):=by kernel_rfl
theorem z759:tzero Tryz.prog 28=some (Value.slice none 0 0):=by kernel_rfl
theorem z758:tzero Tryz.prog 29=some (Value.slice none 0 0):=by kernel_rfl
theorem z757:tzero Tryz.prog 31=some (Value.agg #[Value.slice none 0 0]):=by kernel_rfl
theorem z756:tzero Tryz.prog 32=some (Value.slice none 0 0):=by kernel_rfl
theorem z755:tzero Tryz.prog 34=some (Value.agg #[Value.int IntKind.i64 0,Value.int IntKind.i64 0]):=by kernel_rfl
theorem z754:tzero Tryz.prog 36=some (Value.agg #[Value.int IntKind.i64 0,Value.int IntKind.i64 0,Value.int IntKind.i64 0,Value.int IntKind.i64 0,Value.int IntKind.i64 0]):=by kernel_rfl
theorem z753:tzero Tryz.prog 37=some (Value.slice none 0 0):=by kernel_rfl
theorem z752:tzero Tryz.prog 39=some (Value.agg #[Value.slice none 0 0,Value.slice none 0 0,Value.int IntKind.i64 0,Value.int IntKind.i64 0,Value.int IntKind.i64 0,Value.int IntKind.i64 0,Value.int IntKind.i64 0,Value.slice none 0 0]):=by kernel_rfl
theorem z751:tzero Tryz.prog 41=some (Value.agg #[Value.slice none 0 0,Value.slice none 0 0,Value.int IntKind.i64 0,Value.int IntKind.i64 0,Value.int IntKind.i64 0,Value.int IntKind.i64 0,Value.int IntKind.i64 0,Value.slice none 0 0,Value.int IntKind.i64 0,Value.int IntKind.i64 0]):=by kernel_rfl
theorem z750:tzero Tryz.prog 46=some (Value.int IntKind.i64 0):=by kernel_rfl
theorem z749:tzero Tryz.prog 67=some (Value.slice none 0 0):=by kernel_rfl
theorem z748:tzero Tryz.prog 69=some (Value.agg #[Value.slice none 0 0]):=by kernel_rfl
theorem z747:tzero Tryz.prog 70=some (Value.slice none 0 0):=by kernel_rfl
theorem z746:tzero Tryz.prog 72=some (Value.agg #[Value.slice none 0 0]):=by kernel_rfl
theorem z745:tzero Tryz.prog 87=some (Value.agg #[Value.int IntKind.i64 0,Value.int IntKind.i64 0,Value.int IntKind.i64 0]):=by kernel_rfl
theorem z744:tzero Tryz.prog 88=some (Value.pointer none):=by kernel_rfl
theorem z743:tzero Tryz.prog 93=some (Value.agg #[Value.int IntKind.i64 0,Value.int IntKind.i64 0,Value.int IntKind.i64 0,Value.int IntKind.i64 0]):=by kernel_rfl
theorem z742:tzero Tryz.prog 95=some (Value.agg #[Value.int IntKind.i64 0,Value.int IntKind.i64 0,Value.int IntKind.i64 0,Value.int IntKind.i64 0,Value.int IntKind.i64 0,Value.int IntKind.i64 0,Value.int IntKind.i64 0]):=by kernel_rfl
theorem z741:tzero Tryz.prog 97=some (Value.agg #[Value.slice none 0 0,Value.slice none 0 0,Value.slice none 0 0,Value.slice none 0 0]):=by kernel_rfl
theorem z595:tzero Tryz.prog 100=some (Value.pointer none):=by kernel_rfl
theorem z594:tzero Tryz.prog 103=some Value.nilFunc:=by kernel_rfl
theorem z593:tzero Tryz.prog 106=some Value.nilFunc:=by kernel_rfl
theorem z592:tzero Tryz.prog 108=some (Value.agg #[Value.slice none 0 0,Value.slice none 0 0,Value.slice none 0 0,Value.slice none 0 0,Value.slice none 0 0,Value.slice none 0 0,Value.int IntKind.i64 0]):=by kernel_rfl
theorem z591:tzero Tryz.prog 110=some (Value.agg #[Value.int IntKind.i64 0,Value.int IntKind.i64 0,Value.int IntKind.i64 0]):=by kernel_rfl
theorem z590:tzero Tryz.prog 116=some (Value.agg #[Value.int IntKind.i64 0,Value.int IntKind.i64 0,Value.int IntKind.i64 0,Value.int IntKind.i64 0,Value.int IntKind.i64 0,Value.int IntKind.i64 0]):=by kernel_rfl
theorem z589:tzero Tryz.prog 121=some Value.nilFunc:=by kernel_rfl
theorem z588:tzero Tryz.prog 122=some (Value.pointer none):=by kernel_rfl
theorem z587:tzero Tryz.prog 123=some (Value.map none):=by kernel_rfl
theorem z586:tzero Tryz.prog 125=some (Value.agg #[Value.slice none 0 0,Value.slice none 0 0,Value.slice none 0 0,Value.slice none 0 0,Value.map none]):=by kernel_rfl
theorem z585:tzero Tryz.prog 126=some (Value.agg #[Value.int IntKind.i64 0,Value.int IntKind.i64 0,Value.int IntKind.i64 0,Value.int IntKind.i64 0,Value.int IntKind.i64 0,Value.int IntKind.i64 0,Value.int IntKind.i64 0,Value.int IntKind.i64 0,Value.int IntKind.i64 0,Value.int IntKind.i64 0]):=by kernel_rfl
theorem z584:tzero Tryz.prog 128=some (Value.agg #[Value.int IntKind.i64 0,Value.int IntKind.i64 0,Value.int IntKind.i64 0,Value.int IntKind.i64 0,Value.int IntKind.i64 0,Value.int IntKind.i64 0,Value.int IntKind.i64 0,Value.int IntKind.i64 0,Value.int IntKind.i64 0,Value.int IntKind.i64 0,Value.int IntKind.i64 0]):=by kernel_rfl
theorem z583:tzero Tryz.prog 130=some (Value.agg #[Value.int IntKind.i64 0,Value.slice none 0 0]):=by kernel_rfl
theorem z582:tzero Tryz.prog 132=some Value.nilFunc:=by kernel_rfl
theorem z581:tzero Tryz.prog 136=some (Value.slice none 0 0):=by kernel_rfl
theorem z580:tzero Tryz.prog 138=some (Value.agg #[Value.slice none 0 0,Value.slice none 0 0,Value.int IntKind.i64 0,Value.int IntKind.i64 0,Value.int IntKind.i64 0,Value.int IntKind.i64 0,Value.int IntKind.i64 0,Value.slice none 0 0,Value.slice none 0 0,Value.int IntKind.i64 0]):=by kernel_rfl
theorem z579:tzero Tryz.prog 141=some (Value.slice none 0 0):=by kernel_rfl
theorem z578:tzero Tryz.prog 146=some (Value.agg #[Value.int IntKind.i64 0,Value.int IntKind.i64 0,Value.int IntKind.i64 0,Value.int IntKind.i64 0]):=by kernel_rfl
theorem z577:tzero Tryz.prog 147=some (Value.pointer none):=by kernel_rfl
theorem z576:tzero Tryz.prog 150=some (Value.slice none 0 0):=by kernel_rfl
theorem z575:tzero Tryz.prog 152=some (Value.agg #[Value.slice none 0 0,Value.slice none 0 0,Value.int IntKind.i64 0]):=by kernel_rfl
theorem z574:tzero Tryz.prog 154=some (Value.slice none 0 0):=by kernel_rfl
theorem z573:tzero Tryz.prog 156=some Value.nilFunc:=by kernel_rfl
theorem z572:tzero Tryz.prog 159=some Value.nilFunc:=by kernel_rfl
theorem z571:tzero Tryz.prog 160=some Value.nilFunc:=by kernel_rfl
theorem z570:tzero Tryz.prog 161=some Value.nilFunc:=by kernel_rfl
theorem z569:tzero Tryz.prog 163=some Value.nilFunc:=by kernel_rfl
theorem z568:tzero Tryz.prog 164=some Value.nilFunc:=by kernel_rfl
theorem z567:tzero Tryz.prog 166=some Value.nilFunc:=by kernel_rfl
theorem z566:tzero Tryz.prog 180=some Value.nilFunc:=by kernel_rfl
theorem z565:tzero Tryz.prog 184=some (Value.agg #[Value.int IntKind.i64 0,Value.bool false]):=by kernel_rfl
theorem z564:tzero Tryz.prog 188=some Value.nilFunc:=by kernel_rfl
theorem z563:tzero Tryz.prog 190=some (Value.agg #[Value.int IntKind.i64 0,Value.int IntKind.i64 0]):=by kernel_rfl
theorem z562:tzero Tryz.prog 197=some (Value.agg #[Value.int IntKind.i64 0,Value.int IntKind.i64 0,Value.int IntKind.i64 0]):=by kernel_rfl
theorem z561:tzero Tryz.prog 199=some (Value.agg #[Value.int IntKind.i64 0,Value.int IntKind.i64 0,Value.int IntKind.i64 0,Value.int IntKind.i64 0]):=by kernel_rfl
theorem z560:tzero Tryz.prog 207=some Value.nilFunc:=by kernel_rfl
theorem z559:tzero Tryz.prog 211=some Value.nilFunc:=by kernel_rfl
theorem z558:tzero Tryz.prog 223=some Value.nilFunc:=by kernel_rfl
theorem z557:tzero Tryz.prog 225=some (Value.map none):=by kernel_rfl
attribute [go_sem] z1005 z600 z953 z1004 z599 z952 z1003 z598 z951 z944 z1002 z597 z950 z943 z1001 z596 z949 z942 z511 z837 z941 z510 z836 z940 z509 z835 z483 z939 z508 z834 z482 z938 z507 z833 z481 z937 z506 z832 z480 z936 z505 z831 z388 z935 z504 z830 z479 z934 z503 z829 z478 z933 z502 z828 z387 z932 z501 z827 z477 z931 z500 z826 z386 z948 z930 z499 z825 z385 z947 z929 z498 z824 z476 z928 z497 z823 z384 z927 z496 z822 z383 z926 z495 z821 z805 z925 z494 z820 z475 z924 z493 z819 z382 z923 z492 z818 z474 z922 z491 z817 z381 z921 z490 z816 z380 z946 z920 z489 z815 z919 z488 z814 z379 z945 z918 z487 z813 z378 z917 z486 z812 z377 z804 z427 z640 z803 z426 z639 z802 z425 z638 z801 z424 z637 z319 z800 z423 z636 z318 z811 z799 z422 z635 z317 z810 z798 z421 z634 z797 z420 z633 z796 z419 z632 z485 z795 z418 z631 z316 z794 z417 z630 z601 z512 z793 z416 z629 z315 z792 z415 z628 z314 z791 z414 z627 z790 z413 z626 z376 z789 z412 z625 z313 z788 z411 z624 z375 z787 z410 z623 z312 z786 z409 z622 z785 z408 z621 z374 z784 z407 z620 z311 z783 z406 z619 z373 z782 z405 z618 z781 z404 z617 z780 z403 z616 z779 z402 z615 z778 z401 z614 z777 z400 z613 z776 z399 z612 z775 z398 z611 z774 z397 z610 z310 z809 z773 z396 z609 z772 z395 z608 z309 z808 z771 z394 z607 z308 z807 z770 z393 z606 z307 z806 z769 z392 z605 z768 z391 z604 z767 z390 z603 z766 z389 z602 z484 z916 z915 z914 z913 z765 z764 z763 z762 z761 z760 z759 z758 z757 z756 z755 z754 z753 z752 z751 z750 z749 z748 z747 z746 z745 z744 z743 z742 z741 z595 z594 z593 z592 z591 z590 z589 z588 z587 z586 z585 z584 z583 z582 z581 z580 z579 z578 z577 z576 z575 z574 z573 z572 z571 z570 z569 z568 z567 z566 z565 z564 z563 z562 z561 z560 z559 z558 z557 Tryz.underlying2 Tryz.underlying3 Tryz.underlying4 Tryz.underlying17 Tryz.underlying46 Tryz.underlying88 Tryz.underlying100 Tryz.underlying122 Tryz.underlying147
theorem weA {st st':St} (h1:lessT [] st.t st'.t) (h2:lessM [] 0 st.m st'.m) (h3:st'.t.all (liveB st'.m)=true:=by rfl) (h4:liveM st'.m st'.m=true:=by rfl):Weak st st':=z53 [] h1 h2 h3 h4
attribute [simp] lessT lessM lessB AV.less
end Go.Ab
namespace Go.Ab
open Go.RowKit Go.Proofs
structure Span where
 lo:Int
 hi:Int
structure Hour where
 wind:Span
 rain:Span
 temp:Span
structure Sky where
 wind:Int
 rain:Int
 temp:Int
structure Sight where
 hour:Int
 sky:Sky
structure Plant where
 scen:List (List Hour)
 seen:List Sight
 sun:List Int
 gain:Int
 start:Int
 stop:Int
 charge:Int
 capacity:Int
 reserve:Int
 gas:Int
 rate:Int
 units:Int
 needs:List Int
def Span.row (s:Span):List DV:=[.i s.lo,.i s.hi]
def Hour.row (h:Hour):List DV:=[.i h.wind.lo,.i h.wind.hi,.i h.rain.lo,.i h.rain.hi,.i h.temp.lo,.i h.temp.hi]
def Sky.row (s:Sky):List DV:=[.i s.wind,.i s.rain,.i s.temp]
def Sight.row (s:Sight):List DV:=[.i s.hour,.i s.sky.wind,.i s.sky.rain,.i s.sky.temp]
def hourRows (l:List Hour):List (List DV):=l.map Hour.row
def scenRows (l:List (List Hour)):List (List DV):=l.map fun h=>[.sl (hourRows h)]
def intRows (l:List Int):List (List DV):=l.map fun x=>[.i x]
def sightRows (l:List Sight):List (List DV):=l.map Sight.row
def skyRows (l:List Sky):List (List DV):=l.map Sky.row
def Plant.cells (p:Plant):List DV:=[.sl (scenRows p.scen),.sl (sightRows p.seen),.sl (intRows p.sun),.i p.gain,.i p.start,.i p.stop,.i p.charge,.i p.capacity,.i p.reserve,.i p.gas,.i p.rate,.i p.units,.sl (intRows p.needs)]
theorem z690 (l:List Hour):(hourRows l).length=l.length:=by simp [hourRows]
theorem z41 (l:List (List Hour)):(scenRows l).length=l.length:=by simp [scenRows]
theorem z36 (l:List Int):(intRows l).length=l.length:=by simp [intRows]
theorem z72 (l:List Sight):(sightRows l).length=l.length:=by simp [sightRows]
theorem z838 (l:List Sky):(skyRows l).length=l.length:=by simp [skyRows]
theorem z52 {l:List Hour} {i:Nat} {x:Hour} (h:l[i]?=some x):(hourRows l)[i]?=some x.row:=by simp [hourRows,h]
theorem z35 {l:List (List Hour)} {i:Nat} {x:List Hour} (h:l[i]?=some x):(scenRows l)[i]?=some [.sl (hourRows x)]:=by simp [scenRows,h]
theorem z38 {l:List Int} {i:Nat} {x:Int} (h:l[i]?=some x):(intRows l)[i]?=some [.i x]:=by simp [intRows,h]
theorem z67 {l:List Sight} {i:Nat} {x:Sight} (h:l[i]?=some x):(sightRows l)[i]?=some x.row:=by simp [sightRows,h]
theorem z531 (l:List Hour):headIs 6 (hourRows l)=true:=by cases l <;> rfl
theorem z517 (l:List (List Hour)):headIs 1 (scenRows l)=true:=by cases l <;> rfl
theorem z687 (l:List Int):headIs 1 (intRows l)=true:=by cases l <;> rfl
theorem z428 (l:List Sight):headIs 4 (sightRows l)=true:=by cases l <;> rfl
theorem z645 (l:List Sky):headIs 3 (skyRows l)=true:=by cases l <;> rfl
attribute [go_sem] z690 z41 z36 z72 z838 z531 z517 z687 z428 z645
theorem z78 {α:Type} {f:α→List DV} (h:∀ x,∀ d ∈ f x,d.flat=true) (l:List α):rowsFlat (l.map f):=by
 intro r hr d hd
 obtain ⟨x,_,rfl⟩:=List.mem_map.1 hr
 exact h x d hd
theorem z33 (l:List Int):rowsFlat (intRows l):=z78 (by intro x d hd;simp at hd;subst hd;rfl) l
theorem z83 (l:List Hour):rowsFlat (hourRows l):=z78 (by intro x d hd;simp [Hour.row] at hd;rcases hd with rfl | rfl | rfl | rfl | rfl | rfl <;> rfl) l
theorem z74 (l:List Sight):rowsFlat (sightRows l):=z78 (by intro x d hd;simp [Sight.row] at hd;rcases hd with rfl | rfl | rfl | rfl <;> rfl) l
theorem z98 (l:List Sky):rowsFlat (skyRows l):=z78 (by intro x d hd;simp [Sky.row] at hd;rcases hd with rfl | rfl | rfl <;> rfl) l
abbrev wr (x:Int):Int:=IntKind.i64.wrap x
theorem z17 {x:Int} (h:-(2 ^ 63)≤x∧x<2 ^ 63):IntKind.i64.wrap x=x:=by
 rw [IntKind.wrap_i64];omega
theorem z32 {α β:Type} (f:β→α→β) (b:β) (l:List α) (i:Nat) (x:α) (h:l[i]?=some x):(l.take (i + 1)).foldl f b=f ((l.take i).foldl f b) x:=by
 rw [List.take_add_one,h];simp
theorem z30 {α:Type} {l:List α} {i:Nat} {x:α} (h:l[i]?=some x):l.drop i=x::l.drop (i + 1):=by
 obtain ⟨hlt,rfl⟩:=List.getElem?_eq_some_iff.1 h
 exact List.drop_eq_getElem_cons hlt
def idxFrom {α:Type} (q:α→Bool):List α→Nat→Int
 | [],_=>-1
 | x::xs,i=>if q x then (i:Int) else idxFrom q xs (i + 1)
theorem z42 {α:Type} (q:α→Bool):∀ (l:List α) (i:Nat),decide (idxFrom q l i ≥ 0)=l.any q
 | [],i=>by simp [idxFrom]
 | x::xs,i=>by
  simp only [idxFrom,List.any_cons]
  by_cases h:q x
  ·simp [h]
  ·simp [h,← z42 q xs (i + 1)]
theorem z164 {α:Type} (l:List α) (q:α→Bool):(!(l.any fun s=>!q s))=l.all q:=by
 induction l with
 | nil=>rfl
 | cons x xs ih=>simp only [List.any_cons,List.all_cons,← ih];cases q x <;> simp
theorem z984 {α:Type} {l:List α} {q:α→Bool} {i:Nat} {x:α} (h:l[i]?=some x) (hq:q x=true):l.any q=true :=
 List.any_eq_true.2 ⟨x,List.mem_of_getElem? h,hq⟩
theorem z238 {α:Type} {l:List α} {q:α→Bool} {i:Nat} {x:α} (h:l[i]?=some x) (h0:(l.take i).any q=false) (hq:q x=false):(l.take (i + 1)).any q=false:=by
 rw [List.take_add_one,h];simp [h0,hq]
theorem z106 {α:Type} {l:List α} {q:α→Bool} {i:Nat} {x:α} (h:l[i]?=some x) (h0:(l.take i).all q=true) (hq:q x=true):(l.take (i + 1)).all q=true:=by
 rw [List.take_add_one,h];simp [h0,hq]
theorem z195 {α:Type} {l:List α} {q:α→Bool} {i:Nat} {x:α} (h:l[i]?=some x) (hq:q x=false):l.all q=false:=by
 cases hc:l.all q with
 | false=>rfl
 | true=>rw [List.all_eq_true] at hc;have:=hc x (List.mem_of_getElem? h);rw [hq] at this;cases this
theorem z31 (m:List (Option Blk)) (x:AV) (d:DV) (caps:List DV) (h:reify m deep x=some d):allSome ((x::caps.map AV.d).map (reify m deep))=some (d::caps):=by
 have:∀ l:List DV,allSome ((l.map AV.d).map (reify m deep))=some l:=by
  intro l
  induction l with
  | nil=>rfl
  | cons a l ih =>
   simp only [List.map_cons]
   rw [show reify m deep (AV.d a)=some a from rfl]
   simp only [allSome,ih,Option.map_some]
 simp only [List.map_cons,h,allSome]
 rw [this caps]
 rfl
def getI (l:List Int) (i:Int):Int:=l.getD i.toNat 0
end Go.Ab
namespace Go.Ab
open Go.RowKit Go.Proofs
set_option maxHeartbeats 4000000
set_option maxRecDepth 20000
attribute [local irreducible] WalkL Walk
def withinB (n lo hi:Int):Bool:=decide (lo≤n) && decide (n≤hi)
def orderedB (s:Span) (lo hi:Int):Bool:=decide (lo≤s.lo) && (decide (s.lo≤s.hi) && decide (s.hi≤hi))
theorem z24 {x lo hi:Int}:withinB x lo hi=true↔lo≤x∧x≤hi:=by simp [withinB]
theorem z335 {s:Span} {lo hi:Int}:orderedB s lo hi=true↔lo≤s.lo∧s.lo≤s.hi∧s.hi≤hi:=by simp [orderedB]
theorem z372 (n lo hi:Int):Fn Tryz.prog 110 [.i n,.i lo,.i hi] (.bool (withinB n lo hi)):=by
 refine z14 15 Tryz.call110 Tryz.func110 rfl (by decide) fun J=>?_
 simp only [go_sem,St.start,Tryz.ntmps110,Tryz.results110]
 by_cases h:lo≤n
 ·repeat (first | refine nx ?_ | (refine z10 fun K hK=>?_;simp only [go_sem,h];apply hK;clear hK K))
  simp only [go_sem,withinB,h]
 ·repeat (first | refine nx ?_ | (refine z10 fun K hK=>?_;simp only [go_sem,h];apply hK;clear hK K))
  simp only [go_sem,withinB,h]
theorem z1080 (s:Span) (lo hi:Int):Fn Tryz.prog 173 [.agg s.row,.i lo,.i hi] (.bool (orderedB s lo hi)):=by
 refine z14 24 Tryz.call173 Tryz.func173 rfl (by decide) fun J=>?_
 simp only [go_sem,St.start,Tryz.ntmps173,Tryz.results173,Span.row]
 by_cases h:lo≤s.lo <;> by_cases h2:s.lo≤s.hi
 all_goals
  repeat (first | refine nx ?_ | (refine z10 fun K hK=>?_;simp only [go_sem,h,h2];apply hK;clear hK K))
  simp only [go_sem,orderedB,h,h2]
def hourB (h:Hour):Bool:=orderedB h.wind 0 200 && (orderedB h.rain 0 100 && orderedB h.temp (-50) 50)
theorem z1204 (h:Hour):Fn Tryz.prog 168 [.agg h.row] (.bool (hourB h)):=by
 have h1:=z1080 h.wind 0 200
 have h2:=z1080 h.rain 0 100
 have h3:=z1080 h.temp (-50) 50
 rw [Span.row] at h1 h2 h3
 obtain ⟨b1,e1⟩:∃ b,b=orderedB h.wind 0 200:=⟨_,rfl⟩
 obtain ⟨b2,e2⟩:∃ b,b=orderedB h.rain 0 100:=⟨_,rfl⟩
 obtain ⟨b3,e3⟩:∃ b,b=orderedB h.temp (-50) 50:=⟨_,rfl⟩
 rw [hourB,← e1,← e2,← e3]
 rw [← e1] at h1
 rw [← e2] at h2
 rw [← e3] at h3
 refine z14 16 Tryz.call168 Tryz.func168 rfl (by decide) fun J=>?_
 simp only [go_sem,St.start,Tryz.ntmps168,Tryz.results168,Hour.row]
 cases b1 <;> cases b2
 all_goals
  repeat (first | refine nx ?_ | (refine z10 fun K hK=>?_;simp only [go_sem];(repeat (first | (refine ⟨_,.lent (hf:=h1) (hd:=rfl) (hr:=rfl),?_⟩;simp only [go_sem]) | (refine ⟨_,.lent (hf:=h2) (hd:=rfl) (hr:=rfl),?_⟩;simp only [go_sem]) | (refine ⟨_,.lent (hf:=h3) (hd:=rfl) (hr:=rfl),?_⟩;simp only [go_sem]) | (refine ⟨_,.given (hf:=h1) (hd:=rfl) (ha:=rfl),?_⟩;simp only [go_sem]) | (refine ⟨_,.given (hf:=h2) (hd:=rfl) (ha:=rfl),?_⟩;simp only [go_sem]) | (refine ⟨_,.given (hf:=h3) (hd:=rfl) (ha:=rfl),?_⟩;simp only [go_sem])));apply hK;clear hK K))
  simp only [go_sem]
theorem z1152 (n:Int):Fn Tryz.prog 172 [.i n] (.agg [.i n,.i n]):=by
 refine z14 6 Tryz.call172 Tryz.func172 rfl (by decide) fun J=>?_
 simp only [go_sem,St.start,Tryz.ntmps172,Tryz.results172]
 repeat (first | refine nx ?_ | (refine z10 fun K hK=>?_;simp only [go_sem];apply hK;clear hK K))
 simp only [go_sem]
def pointH (s:Sky):Hour:=⟨⟨s.wind,s.wind⟩,⟨s.rain,s.rain⟩,⟨s.temp,s.temp⟩⟩
theorem zf147 (s:Sky):Fn Tryz.prog 147 [.agg s.row] (.agg (pointH s).row):=by
 refine z14 17 Tryz.call147 Tryz.func147 rfl (by decide) fun J=>?_
 simp only [go_sem,St.start,Tryz.ntmps147,Tryz.results147,Sky.row]
 repeat (first | refine nx ?_ | (refine z10 fun K hK=>?_;simp only [go_sem];apply hK;clear hK K))
 refine z16 (by kernel_rfl) (by kernel_rfl) fun K hK=>?_
 simp only [go_sem]
 refine ⟨_,.fn (hf:=z1152 s.wind) (hd:=rfl) (hr:=.inl rfl),?_⟩
 simp only [go_sem]
 refine ⟨_,.fn (hf:=z1152 s.rain) (hd:=rfl) (hr:=.inl rfl),?_⟩
 simp only [go_sem]
 refine ⟨_,.fn (hf:=z1152 s.temp) (hd:=rfl) (hr:=.inl rfl),?_⟩
 simp only [go_sem]
 refine ⟨by kernel_rfl,hK _ ?_⟩
 clear hK K
 repeat (first | refine nx ?_ | (refine z10 fun K hK=>?_;simp only [go_sem];apply hK;clear hK K))
 simp only [go_sem,pointH,Hour.row]
def insideB (s:Sky) (h:Hour):Bool:=withinB s.wind h.wind.lo h.wind.hi && (withinB s.rain h.rain.lo h.rain.hi && withinB s.temp h.temp.lo h.temp.hi)
theorem zf146 (s:Sky) (h:Hour):Fn Tryz.prog 146 [.agg s.row,.agg h.row] (.bool (insideB s h)):=by
 have h1:=z372 s.wind h.wind.lo h.wind.hi
 have h2:=z372 s.rain h.rain.lo h.rain.hi
 have h3:=z372 s.temp h.temp.lo h.temp.hi
 obtain ⟨b1,e1⟩:∃ b,b=withinB s.wind h.wind.lo h.wind.hi:=⟨_,rfl⟩
 obtain ⟨b2,e2⟩:∃ b,b=withinB s.rain h.rain.lo h.rain.hi:=⟨_,rfl⟩
 obtain ⟨b3,e3⟩:∃ b,b=withinB s.temp h.temp.lo h.temp.hi:=⟨_,rfl⟩
 rw [insideB,← e1,← e2,← e3]
 rw [← e1] at h1
 rw [← e2] at h2
 rw [← e3] at h3
 refine z14 36 Tryz.call146 Tryz.func146 rfl (by decide) fun J=>?_
 simp only [go_sem,St.start,Tryz.ntmps146,Tryz.results146,Hour.row,Sky.row]
 cases b1 <;> cases b2
 all_goals
  repeat (first | refine nx ?_ | (refine z10 fun K hK=>?_;simp only [go_sem];(repeat (first | (refine ⟨_,.lent (hf:=h1) (hd:=rfl) (hr:=rfl),?_⟩;simp only [go_sem]) | (refine ⟨_,.lent (hf:=h2) (hd:=rfl) (hr:=rfl),?_⟩;simp only [go_sem]) | (refine ⟨_,.lent (hf:=h3) (hd:=rfl) (hr:=rfl),?_⟩;simp only [go_sem]) | (refine ⟨_,.given (hf:=h1) (hd:=rfl) (ha:=rfl),?_⟩;simp only [go_sem]) | (refine ⟨_,.given (hf:=h2) (hd:=rfl) (ha:=rfl),?_⟩;simp only [go_sem]) | (refine ⟨_,.given (hf:=h3) (hd:=rfl) (ha:=rfl),?_⟩;simp only [go_sem])));apply hK;clear hK K))
  simp only [go_sem]
theorem z1202 (xs:List Sight) (g:Nat) (caps:List DV) (q:Sight→Bool) (hq:∀ s ∈ xs,Fn Tryz.prog g (.agg s.row::caps) (.bool (q s))) (hl:xs.length<2 ^ 62):Fn Tryz.prog 181 [.sl (sightRows xs),.fn g caps] (.i (idxFrom q xs 0)):=by
 refine z14 19 Tryz.call181 Tryz.func181 rfl (by decide) fun J=>?_
 simp only [go_sem,St.start,Tryz.ntmps181,Tryz.results181]
 repeat (first | refine nx ?_ | (refine z10 fun K hK=>?_;simp only [go_sem];apply hK;clear hK K))
 refine z15 (fun (i:Nat)=>[(8,.d (.i i))]) (fun _=>[]) (fun i=>i≤xs.length∧idxFrom q xs 0=idxFrom q (xs.drop i) i) (fun i=>xs.length - i) 0 ?_ ⟨Nat.zero_le _,rfl⟩ ?_
 ·simp only [go_sem]
  refine weA ?_ ?_ <;> simp
 ·intro i ⟨hi,hq0⟩
  simp only [go_sem]
  repeat (first | refine nx ?_ | (refine z10 fun K hK=>?_;simp only [go_sem];apply hK;clear hK K))
  refine z13 rfl (fun hb=>?_) (fun hb=>?_)
  ·have hlt:i<xs.length:=by simpa using hb
   have hw:IntKind.i64.wrap ((i:Int) + 1)=((i + 1:Nat):Int):=by rw [z17 (by omega)];simp
   obtain ⟨s,hs⟩:∃ s,xs[i]?=some s:=⟨_,List.getElem?_eq_getElem hlt⟩
   rw [z30 hs,idxFrom] at hq0
   repeat (first | refine nx ?_ | (refine z10 fun K hK=>?_;simp only [go_sem];apply hK;clear hK K))
   refine z10 fun K hK=>?_
   simp only [go_sem,hs,List.getElem?_map,z67 hs,Sight.row,hw]
   refine ⟨_,.lent (hf:=hq s (List.mem_of_getElem? hs)) (hd:=z31 _ _ _ _ rfl) (hr:=rfl),?_⟩
   simp only [go_sem]
   apply hK
   clear hK K
   refine z13 rfl (fun hc=>?_) (fun hc=>?_)
   ·rw [hc,if_pos rfl] at hq0
    repeat (first | refine nx ?_ | (refine z10 fun K hK=>?_;simp only [go_sem];apply hK;clear hK K))
    simp only [go_sem,hq0]
   ·rw [hc] at hq0
    repeat (first | refine nx ?_ | (refine z10 fun K hK=>?_;simp only [go_sem,hw];apply hK;clear hK K))
    refine ⟨rfl,i + 1,?_,⟨hlt,hq0⟩,by omega⟩
    refine weA ?_ ?_ <;> simp
  ·have he:i=xs.length:=by (have:¬ i<xs.length:=by simpa using hb);omega
   subst he
   repeat (first | refine nx ?_ | (refine z10 fun K hK=>?_;simp only [go_sem];apply hK;clear hK K))
   simp only [go_sem,hq0,List.drop_length,idxFrom]
theorem zf170 (xs:List Sight) (g:Nat) (caps:List DV) (q:Sight→Bool) (hq:∀ s ∈ xs,Fn Tryz.prog g (.agg s.row::caps) (.bool (q s))) (hl:xs.length<2 ^ 62):Fn Tryz.prog 170 [.sl (sightRows xs),.fn g caps] (.bool (xs.any q)):=by
 refine z14 9 Tryz.call170 Tryz.func170 rfl (by decide) fun J=>?_
 simp only [go_sem,St.start,Tryz.ntmps170,Tryz.results170]
 repeat (first | refine nx ?_ | (refine z10 fun K hK=>?_;simp only [go_sem];(repeat (first | (refine ⟨_,.lent (hf:=z1202 xs g caps q hq hl) (hd:=rfl) (hr:=rfl),?_⟩;simp only [go_sem]) | (refine ⟨_,.given (hf:=z1202 xs g caps q hq hl) (hd:=rfl) (ha:=rfl),?_⟩;simp only [go_sem])));apply hK;clear hK K))
 simp only [go_sem,z42]
theorem zf171 (s:Sight) (g:Nat) (caps:List DV) (b:Bool) (hq:Fn Tryz.prog g (.agg s.row::caps) (.bool b)):Fn Tryz.prog 171 [.agg s.row,.ptr [.fn g caps] 0] (.bool (!b)):=by
 refine z14 8 Tryz.call171 Tryz.func171 rfl (by decide) fun J=>?_
 simp only [go_sem,St.start,Tryz.ntmps171,Tryz.results171,Sight.row]
 repeat (first | refine nx ?_ | (refine z10 fun K hK=>?_;simp only [go_sem];apply hK;clear hK K))
 refine z10 fun K hK=>?_
 simp only [go_sem]
 refine ⟨_,.lent (hf:=hq) (hd:=z31 _ _ _ _ rfl) (hr:=rfl),?_⟩
 simp only [go_sem]
 apply hK
 clear hK K
 repeat (first | refine nx ?_ | (refine z10 fun K hK=>?_;simp only [go_sem];apply hK;clear hK K))
 simp only [go_sem]
theorem zf144 (xs:List Sight) (g:Nat) (caps:List DV) (q:Sight→Bool) (hq:∀ s ∈ xs,Fn Tryz.prog g (.agg s.row::caps) (.bool (q s))) (hl:xs.length<2 ^ 62):Fn Tryz.prog 144 [.sl (sightRows xs),.fn g caps] (.bool (xs.all q)):=by
 have h:=zf170 xs 171 [.ptr [.fn g caps] 0] (fun s=>!q s) (fun s hs=>zf171 s g caps (q s) (hq s hs)) hl
 refine z14 9 Tryz.call144 Tryz.func144 rfl (by decide) fun J=>?_
 simp only [go_sem,St.start,Tryz.ntmps144,Tryz.results144]
 repeat (first | refine nx ?_ | (refine z10 fun K hK=>?_;simp only [go_sem];(repeat (first | (refine ⟨_,.lent (hf:=h) (hd:=rfl) (hr:=rfl),?_⟩;simp only [go_sem]) | (refine ⟨_,.given (hf:=h) (hd:=rfl) (ha:=rfl),?_⟩;simp only [go_sem])));apply hK;clear hK K))
 simp only [go_sem,z164]
theorem z1201 (xs:List Hour) (g:Nat) (caps:List DV) (q:Hour→Bool) (hq:∀ s ∈ xs,Fn Tryz.prog g (.agg s.row::caps) (.bool (q s))) (hl:xs.length<2 ^ 62):Fn Tryz.prog 183 [.sl (hourRows xs),.fn g caps] (.i (idxFrom q xs 0)):=by
 refine z14 19 Tryz.call183 Tryz.func183 rfl (by decide) fun J=>?_
 simp only [go_sem,St.start,Tryz.ntmps183,Tryz.results183]
 repeat (first | refine nx ?_ | (refine z10 fun K hK=>?_;simp only [go_sem];apply hK;clear hK K))
 refine z15 (fun (i:Nat)=>[(8,.d (.i i))]) (fun _=>[]) (fun i=>i≤xs.length∧idxFrom q xs 0=idxFrom q (xs.drop i) i) (fun i=>xs.length - i) 0 ?_ ⟨Nat.zero_le _,rfl⟩ ?_
 ·simp only [go_sem]
  refine weA ?_ ?_ <;> simp
 ·intro i ⟨hi,hq0⟩
  simp only [go_sem]
  repeat (first | refine nx ?_ | (refine z10 fun K hK=>?_;simp only [go_sem];apply hK;clear hK K))
  refine z13 rfl (fun hb=>?_) (fun hb=>?_)
  ·have hlt:i<xs.length:=by simpa using hb
   have hw:IntKind.i64.wrap ((i:Int) + 1)=((i + 1:Nat):Int):=by rw [z17 (by omega)];simp
   obtain ⟨s,hs⟩:∃ s,xs[i]?=some s:=⟨_,List.getElem?_eq_getElem hlt⟩
   rw [z30 hs,idxFrom] at hq0
   repeat (first | refine nx ?_ | (refine z10 fun K hK=>?_;simp only [go_sem];apply hK;clear hK K))
   refine z10 fun K hK=>?_
   simp only [go_sem,hs,List.getElem?_map,z52 hs,Hour.row,hw]
   refine ⟨_,.lent (hf:=hq s (List.mem_of_getElem? hs)) (hd:=z31 _ _ _ _ rfl) (hr:=rfl),?_⟩
   simp only [go_sem]
   apply hK
   clear hK K
   refine z13 rfl (fun hc=>?_) (fun hc=>?_)
   ·rw [hc,if_pos rfl] at hq0
    repeat (first | refine nx ?_ | (refine z10 fun K hK=>?_;simp only [go_sem];apply hK;clear hK K))
    simp only [go_sem,hq0]
   ·rw [hc] at hq0
    repeat (first | refine nx ?_ | (refine z10 fun K hK=>?_;simp only [go_sem,hw];apply hK;clear hK K))
    refine ⟨rfl,i + 1,?_,⟨hlt,hq0⟩,by omega⟩
    refine weA ?_ ?_ <;> simp
  ·have he:i=xs.length:=by (have:¬ i<xs.length:=by simpa using hb);omega
   subst he
   repeat (first | refine nx ?_ | (refine z10 fun K hK=>?_;simp only [go_sem];apply hK;clear hK K))
   simp only [go_sem,hq0,List.drop_length,idxFrom]
theorem zf177 (xs:List Hour) (g:Nat) (caps:List DV) (q:Hour→Bool) (hq:∀ s ∈ xs,Fn Tryz.prog g (.agg s.row::caps) (.bool (q s))) (hl:xs.length<2 ^ 62):Fn Tryz.prog 177 [.sl (hourRows xs),.fn g caps] (.bool (xs.any q)):=by
 refine z14 9 Tryz.call177 Tryz.func177 rfl (by decide) fun J=>?_
 simp only [go_sem,St.start,Tryz.ntmps177,Tryz.results177]
 repeat (first | refine nx ?_ | (refine z10 fun K hK=>?_;simp only [go_sem];(repeat (first | (refine ⟨_,.lent (hf:=z1201 xs g caps q hq hl) (hd:=rfl) (hr:=rfl),?_⟩;simp only [go_sem]) | (refine ⟨_,.given (hf:=z1201 xs g caps q hq hl) (hd:=rfl) (ha:=rfl),?_⟩;simp only [go_sem])));apply hK;clear hK K))
 simp only [go_sem,z42]
theorem zf178 (s:Hour) (g:Nat) (caps:List DV) (b:Bool) (hq:Fn Tryz.prog g (.agg s.row::caps) (.bool b)):Fn Tryz.prog 178 [.agg s.row,.ptr [.fn g caps] 0] (.bool (!b)):=by
 refine z14 8 Tryz.call178 Tryz.func178 rfl (by decide) fun J=>?_
 simp only [go_sem,St.start,Tryz.ntmps178,Tryz.results178,Hour.row]
 repeat (first | refine nx ?_ | (refine z10 fun K hK=>?_;simp only [go_sem];apply hK;clear hK K))
 refine z10 fun K hK=>?_
 simp only [go_sem]
 refine ⟨_,.lent (hf:=hq) (hd:=z31 _ _ _ _ rfl) (hr:=rfl),?_⟩
 simp only [go_sem]
 apply hK
 clear hK K
 repeat (first | refine nx ?_ | (refine z10 fun K hK=>?_;simp only [go_sem];apply hK;clear hK K))
 simp only [go_sem]
theorem zf167 (xs:List Hour) (g:Nat) (caps:List DV) (q:Hour→Bool) (hq:∀ s ∈ xs,Fn Tryz.prog g (.agg s.row::caps) (.bool (q s))) (hl:xs.length<2 ^ 62):Fn Tryz.prog 167 [.sl (hourRows xs),.fn g caps] (.bool (xs.all q)):=by
 have h:=zf177 xs 178 [.ptr [.fn g caps] 0] (fun s=>!q s) (fun s hs=>zf178 s g caps (q s) (hq s hs)) hl
 refine z14 9 Tryz.call167 Tryz.func167 rfl (by decide) fun J=>?_
 simp only [go_sem,St.start,Tryz.ntmps167,Tryz.results167]
 repeat (first | refine nx ?_ | (refine z10 fun K hK=>?_;simp only [go_sem];(repeat (first | (refine ⟨_,.lent (hf:=h) (hd:=rfl) (hr:=rfl),?_⟩;simp only [go_sem]) | (refine ⟨_,.given (hf:=h) (hd:=rfl) (ha:=rfl),?_⟩;simp only [go_sem])));apply hK;clear hK K))
 simp only [go_sem,z164]
theorem z1200 (xs:List (List Hour)) (g:Nat) (caps:List DV) (q:(List Hour)→Bool) (hq:∀ s ∈ xs,Fn Tryz.prog g (.agg [.sl (hourRows s)]::caps) (.bool (q s))) (hl:xs.length<2 ^ 62):Fn Tryz.prog 184 [.sl (scenRows xs),.fn g caps] (.i (idxFrom q xs 0)):=by
 refine z14 19 Tryz.call184 Tryz.func184 rfl (by decide) fun J=>?_
 simp only [go_sem,St.start,Tryz.ntmps184,Tryz.results184]
 repeat (first | refine nx ?_ | (refine z10 fun K hK=>?_;simp only [go_sem];apply hK;clear hK K))
 refine z15 (fun (i:Nat)=>[(8,.d (.i i))]) (fun _=>[]) (fun i=>i≤xs.length∧idxFrom q xs 0=idxFrom q (xs.drop i) i) (fun i=>xs.length - i) 0 ?_ ⟨Nat.zero_le _,rfl⟩ ?_
 ·simp only [go_sem]
  refine weA ?_ ?_ <;> simp
 ·intro i ⟨hi,hq0⟩
  simp only [go_sem]
  repeat (first | refine nx ?_ | (refine z10 fun K hK=>?_;simp only [go_sem];apply hK;clear hK K))
  refine z13 rfl (fun hb=>?_) (fun hb=>?_)
  ·have hlt:i<xs.length:=by simpa using hb
   have hw:IntKind.i64.wrap ((i:Int) + 1)=((i + 1:Nat):Int):=by rw [z17 (by omega)];simp
   obtain ⟨s,hs⟩:∃ s,xs[i]?=some s:=⟨_,List.getElem?_eq_getElem hlt⟩
   rw [z30 hs,idxFrom] at hq0
   repeat (first | refine nx ?_ | (refine z10 fun K hK=>?_;simp only [go_sem];apply hK;clear hK K))
   refine z10 fun K hK=>?_
   simp only [go_sem,hs,List.getElem?_map,z35 hs,hw]
   refine ⟨_,.lent (hf:=hq s (List.mem_of_getElem? hs)) (hd:=z31 _ _ _ _ rfl) (hr:=rfl),?_⟩
   simp only [go_sem]
   apply hK
   clear hK K
   refine z13 rfl (fun hc=>?_) (fun hc=>?_)
   ·rw [hc,if_pos rfl] at hq0
    repeat (first | refine nx ?_ | (refine z10 fun K hK=>?_;simp only [go_sem];apply hK;clear hK K))
    simp only [go_sem,hq0]
   ·rw [hc] at hq0
    repeat (first | refine nx ?_ | (refine z10 fun K hK=>?_;simp only [go_sem,hw];apply hK;clear hK K))
    refine ⟨rfl,i + 1,?_,⟨hlt,hq0⟩,by omega⟩
    refine weA ?_ ?_ <;> simp
  ·have he:i=xs.length:=by (have:¬ i<xs.length:=by simpa using hb);omega
   subst he
   repeat (first | refine nx ?_ | (refine z10 fun K hK=>?_;simp only [go_sem];apply hK;clear hK K))
   simp only [go_sem,hq0,List.drop_length,idxFrom]
theorem zf179 (xs:List (List Hour)) (g:Nat) (caps:List DV) (q:(List Hour)→Bool) (hq:∀ s ∈ xs,Fn Tryz.prog g (.agg [.sl (hourRows s)]::caps) (.bool (q s))) (hl:xs.length<2 ^ 62):Fn Tryz.prog 179 [.sl (scenRows xs),.fn g caps] (.bool (xs.any q)):=by
 refine z14 9 Tryz.call179 Tryz.func179 rfl (by decide) fun J=>?_
 simp only [go_sem,St.start,Tryz.ntmps179,Tryz.results179]
 repeat (first | refine nx ?_ | (refine z10 fun K hK=>?_;simp only [go_sem];(repeat (first | (refine ⟨_,.lent (hf:=z1200 xs g caps q hq hl) (hd:=rfl) (hr:=rfl),?_⟩;simp only [go_sem]) | (refine ⟨_,.given (hf:=z1200 xs g caps q hq hl) (hd:=rfl) (ha:=rfl),?_⟩;simp only [go_sem])));apply hK;clear hK K))
 simp only [go_sem,z42]
theorem zf180 (s:(List Hour)) (g:Nat) (caps:List DV) (b:Bool) (hq:Fn Tryz.prog g (.agg [.sl (hourRows s)]::caps) (.bool b)):Fn Tryz.prog 180 [.agg [.sl (hourRows s)],.ptr [.fn g caps] 0] (.bool (!b)):=by
 refine z14 8 Tryz.call180 Tryz.func180 rfl (by decide) fun J=>?_
 simp only [go_sem,St.start,Tryz.ntmps180,Tryz.results180]
 repeat (first | refine nx ?_ | (refine z10 fun K hK=>?_;simp only [go_sem];apply hK;clear hK K))
 refine z10 fun K hK=>?_
 simp only [go_sem]
 refine ⟨_,.lent (hf:=hq) (hd:=z31 _ _ _ _ rfl) (hr:=rfl),?_⟩
 simp only [go_sem]
 apply hK
 clear hK K
 repeat (first | refine nx ?_ | (refine z10 fun K hK=>?_;simp only [go_sem];apply hK;clear hK K))
 simp only [go_sem]
theorem zf169 (xs:List (List Hour)) (g:Nat) (caps:List DV) (q:(List Hour)→Bool) (hq:∀ s ∈ xs,Fn Tryz.prog g (.agg [.sl (hourRows s)]::caps) (.bool (q s))) (hl:xs.length<2 ^ 62):Fn Tryz.prog 169 [.sl (scenRows xs),.fn g caps] (.bool (xs.all q)):=by
 have h:=zf179 xs 180 [.ptr [.fn g caps] 0] (fun s=>!q s) (fun s hs=>zf180 s g caps (q s) (hq s hs)) hl
 refine z14 9 Tryz.call169 Tryz.func169 rfl (by decide) fun J=>?_
 simp only [go_sem,St.start,Tryz.ntmps169,Tryz.results169]
 repeat (first | refine nx ?_ | (refine z10 fun K hK=>?_;simp only [go_sem];(repeat (first | (refine ⟨_,.lent (hf:=h) (hd:=rfl) (hr:=rfl),?_⟩;simp only [go_sem]) | (refine ⟨_,.given (hf:=h) (hd:=rfl) (ha:=rfl),?_⟩;simp only [go_sem])));apply hK;clear hK K))
 simp only [go_sem,z164]
end Go.Ab
namespace Go.Ab
open Go.RowKit Go.Proofs
set_option maxHeartbeats 4000000
set_option maxRecDepth 20000
attribute [local irreducible] WalkL Walk
structure ForeSmall (F:List (List Hour)):Prop where
 scen:F.length<2 ^ 30
 hours:∀ l ∈ F,l.length<2 ^ 30
def scenB (h0 x:List Hour):Bool:=withinB x.length 1 48 && (((x.length:Int) == (h0.length:Int)) && x.all hourB)
theorem zf166 (F:List (List Hour)) (h0 x:List Hour) (h:F[0]?=some h0) (hx:x.length<2 ^ 30):Fn Tryz.prog 166 [.agg [.sl (hourRows x)],.ptr [.sl (scenRows F)] 0] (.bool (scenB h0 x)):=by
 have g0:=z35 h
 refine z14 25 Tryz.call166 Tryz.func166 rfl (by decide) fun J=>?_
 simp only [go_sem,St.start,Tryz.ntmps166,Tryz.results166]
 repeat (first | refine nx ?_ | (refine z10 fun K hK=>?_;simp only [go_sem];apply hK;clear hK K))
 refine z56 [(3,.d (.bool (scenB h0 x)))] [] ?_ ?_
 ·refine z16 (by kernel_rfl) (by kernel_rfl) fun K hK=>?_
  simp only [go_sem,g0]
  refine ⟨_,.fn (hf:=z372 x.length 1 48) (hd:=rfl) (hr:=.inl rfl),?_⟩
  simp only [go_sem,g0]
  by_cases ho0:(withinB x.length 1 48)=true
  ·simp only [go_sem,g0,ho0]
   by_cases ho1:((x.length:Int) == (h0.length:Int))=true
   ·simp only [go_sem,g0,ho0,ho1]
    refine ⟨_,.fn (hf:=zf167 x 168 [] hourB (fun s _=>z1204 s) (by omega)) (hd:=rfl) (hr:=.inl rfl),?_⟩
    simp only [go_sem,g0,ho0,ho1]
    refine ⟨by kernel_rfl,hK _ ?_⟩
    clear hK K
    refine z21 ?_
    refine z19 ?_
    refine ⟨rfl,?_⟩
    rw [show (scenB h0 x)=(x.all hourB) from by simp [scenB,ho0,ho1]]
    simp only [go_sem]
    refine weA ?_ ?_ <;> simp
   ·simp only [go_sem,g0,ho0,ho1]
    refine ⟨by kernel_rfl,hK _ ?_⟩
    clear hK K
    refine z21 ?_
    refine z19 ?_
    refine ⟨rfl,?_⟩
    rw [show (scenB h0 x)=(false) from by simp [scenB,ho0,ho1]]
    simp only [go_sem]
    refine weA ?_ ?_ <;> simp
  ·simp only [go_sem,g0,ho0]
   refine ⟨by kernel_rfl,hK _ ?_⟩
   clear hK K
   refine z21 ?_
   refine z19 ?_
   refine ⟨rfl,?_⟩
   rw [show (scenB h0 x)=(false) from by simp [scenB,ho0]]
   simp only [go_sem]
   refine weA ?_ ?_ <;> simp
 simp only [go_sem]
 repeat (first | refine nx ?_ | (refine z10 fun K hK=>?_;simp only [go_sem];apply hK;clear hK K))
 simp only [go_sem]
def hd0 (F:List (List Hour)):List Hour:=F.headD []
def badF (F:List (List Hour)):Bool:=!withinB F.length 1 6 || !(F.all (scenB (hd0 F)))
def foreF (F:List (List Hour)):Int:=if badF F then 50 else 0
theorem z75 {F:List (List Hour)} (h:0<F.length):F[0]?=some (hd0 F):=by
 cases F with
 | nil=>simp at h
 | cons a l=>rfl
theorem zf141 (F:List (List Hour)) (hs:ForeSmall F):Fn Tryz.prog 141 [.agg [.sl (scenRows F)]] (.i (foreF F)):=by
 have h1:=hs.scen
 have h116:withinB F.length 1 6=true→Fn Tryz.prog 169 [.sl (scenRows F),.fn 166 [.ptr [.sl (scenRows F)] 0]] (.bool (F.all (scenB (hd0 F)))):=fun h =>
  zf169 F 166 [.ptr [.sl (scenRows F)] 0] (scenB (hd0 F)) (fun s hm=>zf166 F (hd0 F) s (z75 (by have:=z24.1 h;omega)) (hs.hours s hm)) (by omega)
 refine z14 17 Tryz.call141 Tryz.func141 rfl (by decide) fun J=>?_
 simp only [go_sem,St.start,Tryz.ntmps141,Tryz.results141]
 repeat (first | refine nx ?_ | (refine z10 fun K hK=>?_;simp only [go_sem];apply hK;clear hK K))
 refine z56 [(16,.d (.bool (badF F)))] [] ?_ ?_
 ·refine z10 fun K hK=>?_
  simp only [go_sem]
  refine ⟨_,.lent (hf:=z372 F.length 1 6) (hd:=rfl) (hr:=rfl),?_⟩
  simp only [go_sem]
  by_cases ho0:(!withinB F.length 1 6)=true
  ·simp only [go_sem,ho0]
   apply hK
   clear hK K
   refine z21 ?_
   refine z19 ?_
   refine ⟨rfl,?_⟩
   rw [show (badF F)=(true) from by simp [badF,ho0]]
   simp only [go_sem]
   refine weA ?_ ?_ <;> simp
  ·simp only [go_sem,ho0]
   refine ⟨_,.lent (hf:=h116 (by simpa using ho0)) (hd:=rfl) (hr:=rfl),?_⟩
   simp only [go_sem,ho0]
   apply hK
   clear hK K
   refine z21 ?_
   refine z19 ?_
   refine ⟨rfl,?_⟩
   rw [show (badF F)=(!(F.all (scenB (hd0 F)))) from by simp [badF,ho0]]
   simp only [go_sem]
   refine weA ?_ ?_ <;> simp
 ·simp only [go_sem]
  repeat (first | refine nx ?_ | (refine z10 fun K hK=>?_;simp only [go_sem];apply hK;clear hK K))
  refine z13 rfl (fun hc=>?_) (fun hc=>?_)
  ·repeat (first | refine nx ?_ | (refine z10 fun K hK=>?_;simp only [go_sem];apply hK;clear hK K))
   simp only [go_sem,foreF,hc]
  ·repeat (first | refine nx ?_ | (refine z10 fun K hK=>?_;simp only [go_sem];apply hK;clear hK K))
   simp only [go_sem,foreF,hc]
def sightOk (H:Int) (s:Sight):Bool:=withinB s.hour 0 (H - 1) && hourB (pointH s.sky)
def sightsB (H:Int) (l:List Sight):Bool:=l.all (sightOk H) && (decide ((l.map (·.hour)).Nodup) && decide ((l.length:Int)≤20))
def entsFrom:List Sight→Nat→List (MK × DV × Nat)
 | [],_=>[]
 | s::l,j=>(.i s.hour,.i 1,j)::entsFrom l (j + 1)
theorem z713 {k:Int}:∀ (l:List Sight) (j i:Nat),k ∉ l.map (·.hour)→findE (entsFrom l j) (.i k) i=none
 | [],_,_,_=>rfl
 | s::l,j,i,h=>by
  simp only [List.map_cons,List.mem_cons,not_or] at h
  rw [entsFrom,findE,if_neg (fun e=>h.1 (MK.i.inj e))]
  exact z713 l (j + 1) (i + 1) h.2
theorem z711 {k:Int}:∀ (l:List Sight) (j i:Nat),k ∈ l.map (·.hour)→∃ q b,findE (entsFrom l j) (.i k) i=some (i + q,.i 1,b)
 | [],_,_,h=>by simp at h
 | s::l,j,i,h=>by
  rw [entsFrom,findE]
  by_cases hk:k=s.hour
  ·exact ⟨0,j,by rw [if_pos (by rw [hk])];rfl⟩
  ·rw [if_neg (fun e=>hk (MK.i.inj e))]
   obtain ⟨q,b,hq⟩:=z711 l (j + 1) (i + 1) (by simpa [hk] using h)
   exact ⟨q + 1,b,by rw [hq];congr 2;omega⟩
theorem z707 {k:MK} {d v:DV} {b:Nat}:∀ (es:List (MK × DV × Nat)) (i q:Nat),findE es k i=some (i + q,v,b)→findE (es.set q (k,d,b)) k i=some (i + q,d,b)
 | [],_,_,h=>by cases h
 | e::es,i,q,h=>by
  rw [findE] at h
  by_cases hk:k=e.1
  ·rw [if_pos hk] at h
   have:q=0:=by
    have:=congrArg (fun o=>o.map (·.1)) h
    simp at this
    omega
   subst this
   rw [List.set_cons_zero,findE,if_pos rfl]
   rfl
  ·rw [if_neg hk] at h
   cases q with
   | zero =>
    exfalso
    have:∀ (es:List (MK × DV × Nat)) (i p:Nat) (r:DV × Nat),findE es k i=some (p,r)→i≤p:=by
     intro es
     induction es with
     | nil=>intro i p r h;cases h
     | cons e es ih =>
      intro i p r h
      rw [findE] at h
      split at h
      ·cases h;exact Nat.le_refl _
      ·have:=ih (i + 1) p r h;omega
    have:=this es (i + 1) (i + 0) _ h
    omega
   | succ q =>
    rw [List.set_cons_succ,findE,if_neg hk,show i + (q + 1)=(i + 1) + q by omega]
    exact z707 es (i + 1) q (by rw [h];congr 2;omega)
theorem z460 {k:MK} {d:DV} {b:Nat}:∀ (es:List (MK × DV × Nat)) (i:Nat),findE es k i=none→findE (es++[(k,d,b)]) k i=some (i + es.length,d,b)
 | [],i,_=>by simp [findE]
 | e::es,i,h=>by
  rw [findE] at h
  split at h
  ·cases h
  ·rename_i hk
   rw [List.cons_append,findE,if_neg hk,z460 es (i + 1) h]
   congr 2
   simp;omega
theorem z712 (s:Sight):∀ (l:List Sight) (j:Nat),entsFrom (l++[s]) j=entsFrom l j++[(.i s.hour,.i 1,j + l.length)]
 | [],j=>by simp [entsFrom]
 | x::l,j=>by simp [entsFrom,z712 s l];omega
theorem zf142 (F:List (List Hour)) (h0:List Hour) (seen:List Sight) (h:F[0]?=some h0) (hl:h0.length<2 ^ 30) (hsl:seen.length<2 ^ 30) :
  Fn Tryz.prog 142 [.agg [.sl (scenRows F)],.sl (sightRows seen)] (.bool (sightsB h0.length seen)):=by
 have g0:=z35 h
 have hw0:IntKind.i64.wrap ((h0.length:Int) - 1)=(h0.length:Int) - 1:=z17 (by omega)
 have w1:IntKind.i64.wrap (0 + 1)=1:=by decide
 have w2:IntKind.i64.wrap (1 + 1)=2:=by decide
 have d21:decide ((2:Int) > 1)=true:=rfl
 have d11:decide ((1:Int) > 1)=false:=rfl
 refine z14 49 Tryz.call142 Tryz.func142 rfl (by decide) fun J=>?_
 simp only [go_sem,St.start,Tryz.ntmps142,Tryz.results142]
 repeat (first | refine nx ?_ | (refine z10 fun K hK=>?_;simp only [go_sem];apply hK;clear hK K))
 refine z15 (fun (i:Nat)=>[(11,.d (.i i))]) (fun i=>[(8,some (.mp none (entsFrom (seen.take i) 0) i))]) (fun i=>i≤seen.length∧(seen.take i).all (sightOk h0.length)=true∧((seen.take i).map (·.hour)).Nodup) (fun i=>seen.length - i) 0 ?_ ⟨Nat.zero_le _,rfl,by simp⟩ ?_
 ·simp only [go_sem]
  refine weA ?_ ?_ <;> simp
  first | done | rfl
 ·intro i ⟨hi,z39,hnd⟩
  simp only [go_sem]
  repeat (first | refine nx ?_ | (refine z10 fun K hK=>?_;simp only [go_sem];apply hK;clear hK K))
  refine z13 rfl (fun hb=>?_) (fun hb=>?_)
  ·have hlt:i<seen.length:=by simpa using hb
   have hw:IntKind.i64.wrap ((i:Int) + 1)=((i + 1:Nat):Int):=by rw [z17 (by omega)];simp
   obtain ⟨s,hs⟩:∃ s,seen[i]?=some s:=⟨_,List.getElem?_eq_getElem hlt⟩
   have g1:=z67 hs
   have h113:=z372 s.hour 0 ((h0.length:Int) - 1)
   have h111:=zf147 s.sky
   have h115:=z1204 (pointH s.sky)
   rw [Sky.row] at h111
   have htk:seen.take (i + 1)=seen.take i++[s]:=by rw [List.take_add_one,hs];rfl
   obtain ⟨b1,e1⟩:∃ b,b=withinB s.hour 0 ((h0.length:Int) - 1):=⟨_,rfl⟩
   obtain ⟨b3,e3⟩:∃ b,b=hourB (pointH s.sky):=⟨_,rfl⟩
   have hok:sightOk h0.length s=(b1 && b3):=by rw [sightOk,e1,e3]
   rw [← e1] at h113
   rw [← e3] at h115
   have hbad:sightOk h0.length s=false→sightsB h0.length seen=false:=fun hf=>by rw [sightsB,z195 hs hf];rfl
   by_cases hk:s.hour ∈ (seen.take i).map (·.hour)
   ·obtain ⟨q,b,hq⟩:=z711 (seen.take i) 0 0 hk
    have hq2:=z707 (d:=.i 2) _ 0 q hq
    rw [Nat.zero_add] at hq hq2
    have hF:sightsB h0.length seen=false:=by
     have:¬ (seen.map (·.hour)).Nodup:=fun hn=>by
      have h3:(((seen.take (i + 1)).map (·.hour))).Nodup:=(List.Sublist.map _ (List.take_sublist _ _)).nodup hn
      rw [htk,List.map_append,List.nodup_append] at h3
      exact h3.2.2 _ hk _ (by simp) rfl
     simp [sightsB,this]
    repeat (first | refine nx ?_ | (refine z10 fun K hK=>?_;simp only [go_sem,g1,Sight.row,hq,w2];apply hK;clear hK K))
    cases b1
    all_goals
     repeat (first | refine nx ?_ | (refine z10 fun K hK=>?_;simp only [go_sem,g1,g0,Sight.row,hq2,hw0,d21,d11];(repeat (first | (refine ⟨_,.lent (hf:=h113) (hd:=rfl) (hr:=rfl),?_⟩;simp only [go_sem,g1,g0,Sight.row,hq2,hw0,d21,d11]) | (refine ⟨_,.given (hf:=h113) (hd:=rfl) (ha:=rfl),?_⟩;simp only [go_sem,g1,g0,Sight.row,hq2,hw0,d21,d11])));apply hK;clear hK K) | (refine z16 (by kernel_rfl) (by kernel_rfl) fun K hK=>?_;simp only [go_sem,g1,g0,Sight.row,hq2,hw0,d21,d11];(repeat (first | (refine ⟨_,.fn (hf:=h113) (hd:=rfl) (hr:=.inl rfl),?_⟩;simp only [go_sem,g1,g0,Sight.row,hq2,hw0,d21,d11])));refine ⟨by kernel_rfl,hK _ ?_⟩;clear hK K))
     refine z12 rfl ?_
     repeat (first | refine nx ?_ | (refine z10 fun K hK=>?_;simp only [go_sem];apply hK;clear hK K))
     simp only [go_sem,hF]
   ·have hq:=z713 (seen.take i) 0 0 hk
    have hq2:=z460 (d:=.i 1) (b:=i) _ 0 hq
    rw [Nat.zero_add] at hq2
    have hp:=z712 s (seen.take i) 0
    have htl:(seen.take i).length=i:=by simp;omega
    rw [← htk,htl,Nat.zero_add] at hp
    repeat (first | refine nx ?_ | (refine z10 fun K hK=>?_;simp only [go_sem,g1,Sight.row,hq,w1];apply hK;clear hK K))
    cases b1
    ·repeat (first | refine nx ?_ | (refine z10 fun K hK=>?_;simp only [go_sem,g1,g0,Sight.row,hq2,hw0,d21,d11];(repeat (first | (refine ⟨_,.lent (hf:=h113) (hd:=rfl) (hr:=rfl),?_⟩;simp only [go_sem,g1,g0,Sight.row,hq2,hw0,d21,d11]) | (refine ⟨_,.given (hf:=h113) (hd:=rfl) (ha:=rfl),?_⟩;simp only [go_sem,g1,g0,Sight.row,hq2,hw0,d21,d11])));apply hK;clear hK K) | (refine z16 (by kernel_rfl) (by kernel_rfl) fun K hK=>?_;simp only [go_sem,g1,g0,Sight.row,hq2,hw0,d21,d11];(repeat (first | (refine ⟨_,.fn (hf:=h113) (hd:=rfl) (hr:=.inl rfl),?_⟩;simp only [go_sem,g1,g0,Sight.row,hq2,hw0,d21,d11])));refine ⟨by kernel_rfl,hK _ ?_⟩;clear hK K))
     refine z12 rfl ?_
     repeat (first | refine nx ?_ | (refine z10 fun K hK=>?_;simp only [go_sem];apply hK;clear hK K))
     simp only [go_sem,hbad (by rw [hok];rfl)]
    ·cases b3
     ·repeat (first | refine nx ?_ | (refine z10 fun K hK=>?_;simp only [go_sem,g1,g0,Sight.row,hq2,hw0,d21,d11,pointH];(repeat (first | (refine ⟨_,.lent (hf:=h113) (hd:=rfl) (hr:=rfl),?_⟩;simp only [go_sem,g1,g0,Sight.row,hq2,hw0,d21,d11,pointH]) | (refine ⟨_,.lent (hf:=h111) (hd:=rfl) (hr:=rfl),?_⟩;simp only [go_sem,g1,g0,Sight.row,hq2,hw0,d21,d11,pointH]) | (refine ⟨_,.lent (hf:=h115) (hd:=rfl) (hr:=rfl),?_⟩;simp only [go_sem,g1,g0,Sight.row,hq2,hw0,d21,d11,pointH]) | (refine ⟨_,.given (hf:=h113) (hd:=rfl) (ha:=rfl),?_⟩;simp only [go_sem,g1,g0,Sight.row,hq2,hw0,d21,d11,pointH]) | (refine ⟨_,.given (hf:=h111) (hd:=rfl) (ha:=rfl),?_⟩;simp only [go_sem,g1,g0,Sight.row,hq2,hw0,d21,d11,pointH]) | (refine ⟨_,.given (hf:=h115) (hd:=rfl) (ha:=rfl),?_⟩;simp only [go_sem,g1,g0,Sight.row,hq2,hw0,d21,d11,pointH])));apply hK;clear hK K) | (refine z16 (by kernel_rfl) (by kernel_rfl) fun K hK=>?_;simp only [go_sem,g1,g0,Sight.row,hq2,hw0,d21,d11,pointH];(repeat (first | (refine ⟨_,.fn (hf:=h113) (hd:=rfl) (hr:=.inl rfl),?_⟩;simp only [go_sem,g1,g0,Sight.row,hq2,hw0,d21,d11,pointH]) | (refine ⟨_,.fn (hf:=h111) (hd:=rfl) (hr:=.inl rfl),?_⟩;simp only [go_sem,g1,g0,Sight.row,hq2,hw0,d21,d11,pointH]) | (refine ⟨_,.fn (hf:=h115) (hd:=rfl) (hr:=.inl rfl),?_⟩;simp only [go_sem,g1,g0,Sight.row,hq2,hw0,d21,d11,pointH])));refine ⟨by kernel_rfl,hK _ ?_⟩;clear hK K))
      refine z12 rfl ?_
      repeat (first | refine nx ?_ | (refine z10 fun K hK=>?_;simp only [go_sem];apply hK;clear hK K))
      simp only [go_sem,hbad (by rw [hok];rfl)]
     ·repeat (first | refine nx ?_ | (refine z10 fun K hK=>?_;simp only [go_sem,g1,g0,Sight.row,hq2,hw0,d21,d11,pointH];(repeat (first | (refine ⟨_,.lent (hf:=h113) (hd:=rfl) (hr:=rfl),?_⟩;simp only [go_sem,g1,g0,Sight.row,hq2,hw0,d21,d11,pointH]) | (refine ⟨_,.lent (hf:=h111) (hd:=rfl) (hr:=rfl),?_⟩;simp only [go_sem,g1,g0,Sight.row,hq2,hw0,d21,d11,pointH]) | (refine ⟨_,.lent (hf:=h115) (hd:=rfl) (hr:=rfl),?_⟩;simp only [go_sem,g1,g0,Sight.row,hq2,hw0,d21,d11,pointH]) | (refine ⟨_,.given (hf:=h113) (hd:=rfl) (ha:=rfl),?_⟩;simp only [go_sem,g1,g0,Sight.row,hq2,hw0,d21,d11,pointH]) | (refine ⟨_,.given (hf:=h111) (hd:=rfl) (ha:=rfl),?_⟩;simp only [go_sem,g1,g0,Sight.row,hq2,hw0,d21,d11,pointH]) | (refine ⟨_,.given (hf:=h115) (hd:=rfl) (ha:=rfl),?_⟩;simp only [go_sem,g1,g0,Sight.row,hq2,hw0,d21,d11,pointH])));apply hK;clear hK K) | (refine z16 (by kernel_rfl) (by kernel_rfl) fun K hK=>?_;simp only [go_sem,g1,g0,Sight.row,hq2,hw0,d21,d11,pointH];(repeat (first | (refine ⟨_,.fn (hf:=h113) (hd:=rfl) (hr:=.inl rfl),?_⟩;simp only [go_sem,g1,g0,Sight.row,hq2,hw0,d21,d11,pointH]) | (refine ⟨_,.fn (hf:=h111) (hd:=rfl) (hr:=.inl rfl),?_⟩;simp only [go_sem,g1,g0,Sight.row,hq2,hw0,d21,d11,pointH]) | (refine ⟨_,.fn (hf:=h115) (hd:=rfl) (hr:=.inl rfl),?_⟩;simp only [go_sem,g1,g0,Sight.row,hq2,hw0,d21,d11,pointH])));refine ⟨by kernel_rfl,hK _ ?_⟩;clear hK K))
      refine z11 rfl ?_
      repeat (first | refine nx ?_ | (refine z10 fun K hK=>?_;simp only [go_sem,hw];apply hK;clear hK K))
      refine ⟨rfl,i + 1,?_,⟨hlt,z106 hs z39 (by rw [hok];rfl),?_⟩,by omega⟩
      ·rw [hp]
       refine weA ?_ ?_ <;> simp
      ·rw [htk,List.map_append,List.nodup_append]
       exact ⟨hnd,by simp,fun a ha b hb e=>hk (by
        have:b=s.hour:=by simpa using hb
        rw [← this,← e];exact ha)⟩
  ·have he:i=seen.length:=by (have:¬ i<seen.length:=by simpa using hb);omega
   subst he
   rw [List.take_length] at z39 hnd
   repeat (first | refine nx ?_ | (refine z10 fun K hK=>?_;simp only [go_sem];apply hK;clear hK K))
   simp only [go_sem,sightsB,z39,hnd]
end Go.Ab
namespace Go.Ab
open Go.RowKit Go.Proofs
set_option maxHeartbeats 4000000
set_option maxRecDepth 20000
attribute [local irreducible] WalkL Walk
theorem z686 {α β:Type} {f:α→β} {l:List α} (h:l≠[]):(l.map f).isEmpty=false:=by cases l <;> simp at h ⊢
theorem zf143 (l:List Hour) (h:l≠[]) (hl:l.length<2 ^ 30):FnS Tryz.prog 143 [.sl (hourRows l)] 116 6 (hourRows l):=by
 have hne:(hourRows l).isEmpty=false:=z686 h
 have h1:l.length≤549755813888:=by omega
 have h2:0 + l.length≤549755813888:=by omega
 refine z132 8 Tryz.call143 Tryz.func143 rfl (by decide) fun J=>?_
 simp only [go_sem,St.start,Tryz.ntmps143,Tryz.results143]
 repeat (first | refine nx ?_ | (refine z10 fun K hK=>?_;simp only [go_sem,hne];apply hK;clear hK K))
 refine z11 rfl ?_
 repeat (first | refine nx ?_ | (refine z10 fun K hK=>?_;simp only [go_sem,h1,h2,List.nil_append,List.length_nil];apply hK;clear hK K))
 simp only [go_sem]
def noHour:Hour:=⟨⟨0,0⟩,⟨0,0⟩,⟨0,0⟩⟩
def hourAt (l:List Hour) (i:Int):Hour:=l.getD i.toNat noHour
theorem z62 {l:List Hour} {i:Int} (h:0≤i∧i.toNat<l.length):l[i.toNat]?=some (hourAt l i):=by
 unfold hourAt
 rw [List.getD,List.getElem?_eq_getElem h.2]
 rfl
theorem zf145 (s:Sight) (l:List Hour) (h:0≤s.hour∧s.hour.toNat<l.length):Fn Tryz.prog 145 [.agg s.row,.ptr [.sl (hourRows l)] 0] (.bool (insideB s.sky (hourAt l s.hour))):=by
 have g1:=z52 (z62 h)
 have h110:=zf146 s.sky (hourAt l s.hour)
 rw [Sky.row,Hour.row] at h110
 refine z14 12 Tryz.call145 Tryz.func145 rfl (by decide) fun J=>?_
 simp only [go_sem,St.start,Tryz.ntmps145,Tryz.results145,Sight.row]
 repeat (first | refine nx ?_ | (refine z10 fun K hK=>?_;simp only [go_sem];apply hK;clear hK K))
 refine z16 (by kernel_rfl) (by kernel_rfl) fun K hK=>?_
 simp only [go_sem,g1,h.1,Hour.row]
 refine ⟨_,.fn (hf:=h110) (hd:=rfl) (hr:=.inl rfl),?_⟩
 simp only [go_sem]
 refine ⟨by kernel_rfl,hK _ ?_⟩
 clear hK K
 repeat (first | refine nx ?_ | (refine z10 fun K hK=>?_;simp only [go_sem];apply hK;clear hK K))
 simp only [go_sem]
def seenHours (seen:List Sight) (l:List Hour):List Hour:=seen.foldl (fun l s=>l.set s.hour.toNat (pointH s.sky)) l
def agreesB (seen:List Sight) (l:List Hour):Bool:=seen.all fun s=>insideB s.sky (hourAt l s.hour)
theorem z101 (seen:List Sight):∀ l:List Hour,(seenHours seen l).length=l.length:=by
 induction seen with
 | nil=>intro l;rfl
 | cons s seen ih=>intro l;rw [seenHours,List.foldl_cons];exact (ih _).trans (by simp)
def possFrom (seen:List Sight):List (List Hour)→Nat→List (Nat × List Hour)
 | [],_=>[]
 | l::F,j=>if agreesB seen l then (j,seenHours seen l)::possFrom seen F (j + 1) else possFrom seen F (j + 1)
def possL (F:List (List Hour)) (seen:List Sight):List (Nat × List Hour):=possFrom seen F 0
def numsOf (l:List (Nat × List Hour)):List Int:=l.map fun x=>(x.1:Int)
def scensOf (l:List (Nat × List Hour)):List (List Hour):=l.map (·.2)
theorem z150 (seen:List Sight) (x:List Hour):∀ (F:List (List Hour)) (j:Nat),possFrom seen (F++[x]) j=possFrom seen F j++if agreesB seen x then [(j + F.length,seenHours seen x)] else []
 | [],j=>by simp [possFrom]
 | l::F,j=>by
  rw [List.cons_append,possFrom,possFrom,z150 seen x F (j + 1),List.length_cons,show j + 1 + F.length=j + (F.length + 1) by omega]
  by_cases h:agreesB seen l=true
  ·rw [if_pos h,if_pos h];rfl
  ·rw [if_neg h,if_neg h]
theorem z79 (seen:List Sight):∀ (F:List (List Hour)) (j:Nat),(possFrom seen F j).length≤F.length
 | [],_=>Nat.le_refl _
 | l::F,j=>by
  rw [possFrom]
  have:=z79 seen F (j + 1)
  split <;> simp <;> omega
theorem z671 (l:List (Nat × List Hour)) (i:Nat) (x:List Hour):intRows (numsOf (l++[(i,x)]))=intRows (numsOf l)++[[.i (i:Int)]]:=by simp [numsOf,intRows]
theorem z957 (l:List (Nat × List Hour)) (i:Nat) (x:List Hour):scenRows (scensOf (l++[(i,x)]))=scenRows (scensOf l)++[[.sl (hourRows x)]]:=by simp [scensOf,scenRows]
theorem z103 (l:List (Nat × List Hour)):(numsOf l).length=l.length:=by simp [numsOf]
theorem z219 (l:List (Nat × List Hour)):(scensOf l).length=l.length:=by simp [scensOf]
def lookF (F:List (List Hour)) (seen:List Sight) (err:Int) (told:Bool):Int :=
 if badF F then 50 else if sightsB (hd0 F).length seen then (if err=0 then (if told then (if (possL F seen).isEmpty then 3 else 0) else 1) else err) else 51
def lookV (F:List (List Hour)) (seen:List Sight):DV:=.ptr [.sl (intRows (numsOf (possL F seen))),.sl (scenRows (scensOf (possL F seen))),.i (hd0 F).length] 0
structure ForeGood (F:List (List Hour)):Prop where
 scen:1≤F.length∧F.length≤6
 hours:1≤(hd0 F).length∧(hd0 F).length≤48
 len:∀ l ∈ F,l.length=(hd0 F).length
 hour:∀ l ∈ F,∀ h ∈ l,hourB h=true
theorem z156 {F:List (List Hour)}:badF F=false↔ForeGood F:=by
 unfold badF
 rw [Bool.or_eq_false_iff,Bool.not_eq_false',Bool.not_eq_false',z24,List.all_eq_true]
 constructor
 ·rintro ⟨h1,h2⟩
  have h3:∀ l ∈ F,(1≤l.length∧l.length≤48)∧l.length=(hd0 F).length∧∀ h ∈ l,hourB h=true:=fun l hl=>by
   have:=h2 l hl
   unfold scenB at this
   rw [Bool.and_eq_true,Bool.and_eq_true,z24,List.all_eq_true] at this
   refine ⟨by omega,?_,this.2.2⟩
   have:=this.2.1
   have e:=eq_of_beq this
   omega
  refine ⟨by omega,?_,fun l hl=>(h3 l hl).2.1,fun l hl=>(h3 l hl).2.2⟩
  have hm:hd0 F ∈ F:=List.mem_of_getElem? (z75 (by omega))
  exact (h3 _ hm).1
 ·intro h
  refine ⟨by have:=h.scen;omega,fun l hl=>?_⟩
  unfold scenB
  have e:=h.len l hl
  have:=h.hours
  rw [Bool.and_eq_true,Bool.and_eq_true,z24,List.all_eq_true]
  exact ⟨by omega,by simp [e],h.hour l hl⟩
theorem z148 {H:Int} {seen:List Sight} (h:sightsB H seen=true):(∀ s ∈ seen,0≤s.hour∧s.hour<H∧hourB (pointH s.sky)=true)∧(seen.map (·.hour)).Nodup∧seen.length≤20:=by
 unfold sightsB at h
 rw [Bool.and_eq_true,Bool.and_eq_true,List.all_eq_true] at h
 refine ⟨fun s hs=>?_,of_decide_eq_true h.2.1,by have:=of_decide_eq_true h.2.2;omega⟩
 have:=h.1 s hs
 unfold sightOk at this
 rw [Bool.and_eq_true,z24] at this
 exact ⟨by omega,by omega,this.2⟩
theorem z689 {l:List Hour} {i:Nat} {h:Hour}:(hourRows l).set i h.row=hourRows (l.set i h):=by simp [hourRows]
theorem z1081 (F:List (List Hour)) (seen:List Sight) (err:Int) (told:Bool) (hs:ForeSmall F) (hsl:seen.length<2 ^ 30) :
  Fn Tryz.prog 109 [.agg [.sl (scenRows F)],.sl (sightRows seen),.agg [.i err,.bool told]]
   (.tup [if lookF F seen err told=0 then lookV F seen else .nilptr,.i (lookF F seen err told)]):=by
 have h106:=zf141 F hs
 refine z14 96 Tryz.call109 Tryz.func109 rfl (by decide) fun J=>?_
 simp only [go_sem,St.start,Tryz.ntmps109,Tryz.results109]
 cases hbad:badF F with
 | true =>
  have e:lookF F seen err told=50:=by simp [lookF,hbad]
  have e2:foreF F=50:=by simp [foreF,hbad]
  rw [e2] at h106
  rw [e,if_neg (by decide)]
  repeat (first | refine nx ?_ | (refine z10 fun K hK=>?_;simp only [go_sem];(repeat (first | (refine ⟨_,.lent (hf:=h106) (hd:=rfl) (hr:=rfl),?_⟩;simp only [go_sem]) | (refine ⟨_,.given (hf:=h106) (hd:=rfl) (ha:=rfl),?_⟩;simp only [go_sem])));apply hK;clear hK K))
  refine z12 rfl ?_
  repeat (first | refine nx ?_ | (refine z10 fun K hK=>?_;simp only [go_sem];apply hK;clear hK K))
  simp only [go_sem]
 | false =>
  have hg:=z156.1 hbad
  have e2:foreF F=0:=by simp [foreF,hbad]
  rw [e2] at h106
  have hF:=hg.scen
  have hH:=hg.hours
  have h0:F[0]?=some (hd0 F):=z75 (by omega)
  obtain ⟨H0,hH0⟩:∃ H0,H0=hd0 F:=⟨_,rfl⟩
  rw [← hH0] at h0 hH
  have h107:=zf142 F H0 seen h0 (by omega) hsl
  have g0:=z35 h0
  cases hsi:sightsB (H0.length:Int) seen with
  | false =>
   have e:lookF F seen err told=51:=by simp [lookF,hbad,← hH0,hsi]
   rw [hsi] at h107
   rw [e,if_neg (by decide)]
   repeat (first | refine nx ?_ | (refine z10 fun K hK=>?_;simp only [go_sem];(repeat (first | (refine ⟨_,.lent (hf:=h106) (hd:=rfl) (hr:=rfl),?_⟩;simp only [go_sem]) | (refine ⟨_,.given (hf:=h106) (hd:=rfl) (ha:=rfl),?_⟩;simp only [go_sem])));apply hK;clear hK K))
   refine z11 rfl ?_
   repeat (first | refine nx ?_ | (refine z10 fun K hK=>?_;simp only [go_sem];(repeat (first | (refine ⟨_,.lent (hf:=h107) (hd:=rfl) (hr:=rfl),?_⟩;simp only [go_sem]) | (refine ⟨_,.given (hf:=h107) (hd:=rfl) (ha:=rfl),?_⟩;simp only [go_sem])));apply hK;clear hK K))
   refine z12 rfl ?_
   repeat (first | refine nx ?_ | (refine z10 fun K hK=>?_;simp only [go_sem];apply hK;clear hK K))
   simp only [go_sem]
  | true =>
   rw [hsi] at h107
   obtain ⟨s1,s2,s3⟩:=z148 hsi
   repeat (first | refine nx ?_ | (refine z10 fun K hK=>?_;simp only [go_sem];(repeat (first | (refine ⟨_,.lent (hf:=h106) (hd:=rfl) (hr:=rfl),?_⟩;simp only [go_sem]) | (refine ⟨_,.given (hf:=h106) (hd:=rfl) (ha:=rfl),?_⟩;simp only [go_sem])));apply hK;clear hK K))
   refine z11 rfl ?_
   repeat (first | refine nx ?_ | (refine z10 fun K hK=>?_;simp only [go_sem];(repeat (first | (refine ⟨_,.lent (hf:=h107) (hd:=rfl) (hr:=rfl),?_⟩;simp only [go_sem]) | (refine ⟨_,.given (hf:=h107) (hd:=rfl) (ha:=rfl),?_⟩;simp only [go_sem])));apply hK;clear hK K))
   refine z11 rfl ?_
   repeat (first | refine nx ?_ | (refine z10 fun K hK=>?_;simp only [go_sem];apply hK;clear hK K))
   by_cases herr:err=0
   ·subst herr
    refine z11 rfl ?_
    repeat (first | refine nx ?_ | (refine z10 fun K hK=>?_;simp only [go_sem];apply hK;clear hK K))
    cases told with
    | false =>
     have e:lookF F seen 0 false=1:=by simp [lookF,hbad,← hH0,hsi]
     rw [e,if_neg (by decide)]
     refine z12 rfl ?_
     repeat (first | refine nx ?_ | (refine z10 fun K hK=>?_;simp only [go_sem];apply hK;clear hK K))
     simp only [go_sem]
    | true =>
     refine z11 rfl ?_
     repeat (first | refine nx ?_ | (refine z10 fun K hK=>?_;simp only [go_sem,g0];apply hK;clear hK K))
     refine z15 (fun (i:Nat)=>[(43,.d (.i i))]) (fun i=>[(39,some (.box [.own 75,.own 85,.d (.i H0.length)])),(75,some (.arr 3 1 (intRows (numsOf (possFrom seen (F.take i) 0))))),(85,some (.arr 70 1 (scenRows (scensOf (possFrom seen (F.take i) 0)))))]) (fun i=>i≤F.length) (fun i=>F.length - i) 0 ?_ (Nat.zero_le _) ?_
     ·simp only [go_sem]
      refine z53 [75,85] ?_ ?_ rfl rfl <;> simp [lessT,lessM,lessB,AV.less]
      all_goals first | done | rfl | exact ⟨rfl,rfl⟩
     ·intro i hi
      simp only [go_sem]
      repeat (first | refine nx ?_ | (refine z10 fun K hK=>?_;simp only [go_sem];apply hK;clear hK K))
      refine z13 rfl (fun hb=>?_) (fun hb=>?_)
      ·have hlt:i<F.length:=by simpa using hb
       have hw:IntKind.i64.wrap ((i:Int) + 1)=((i + 1:Nat):Int):=by rw [z17 (by omega)];simp
       obtain ⟨l,hl⟩:∃ l,F[i]?=some l:=⟨_,List.getElem?_eq_getElem hlt⟩
       have hlm:=List.mem_of_getElem? hl
       have hll:l.length=H0.length:=by rw [hH0];exact hg.len l hlm
       have g1:=z35 hl
       have htk:F.take (i + 1)=F.take i++[l]:=by rw [List.take_add_one,hl];rfl
       have hp:=z150 seen l (F.take i) 0
       have htl:(F.take i).length=i:=by simp;omega
       rw [← htk,htl,Nat.zero_add] at hp
       have hpl:=z79 seen (F.take i) 0
       rw [htl] at hpl
       have h81:=zf143 l (by intro e;rw [e] at hll;simp at hll;omega) (by omega)
       have hrange:∀ s ∈ seen,0≤s.hour∧s.hour.toNat<l.length:=fun s hm=>by have:=s1 s hm;omega
       have h108:=zf144 seen 145 [.ptr [.sl (hourRows l)] 0] (fun s=>insideB s.sky (hourAt l s.hour)) (fun s hm=>zf145 s l (hrange s hm)) (by omega)
       change Fn _ _ _ (.bool (agreesB seen l)) at h108
       repeat (first | refine nx ?_ | (refine z10 fun K hK=>?_;simp only [go_sem,g1];apply hK;clear hK K))
       refine z10 fun K hK=>?_
       simp only [go_sem,g1]
       refine ⟨_,.lentS (hdst:=rfl) (hf:=h81) (hd:=rfl) (hr:=by first | exact z33 _ | exact z83 _ | exact z74 _ | exact z98 _ | exact z82 _ | exact z84 _) (hfr:=rfl),?_⟩
       simp only [go_sem]
       apply hK
       clear hK K
       have hn1:(numsOf (possFrom seen (F.take i) 0)).length + 1≤549755813888:=by simp [numsOf];omega
       have hn2:(scensOf (possFrom seen (F.take i) 0)).length + 1≤549755813888:=by simp [scensOf];omega
       repeat (first | refine nx ?_ | (refine z10 fun K hK=>?_;simp only [go_sem];(repeat (first | (refine ⟨_,.lent (hf:=h108) (hd:=rfl) (hr:=rfl),?_⟩;simp only [go_sem]) | (refine ⟨_,.given (hf:=h108) (hd:=rfl) (ha:=rfl),?_⟩;simp only [go_sem])));apply hK;clear hK K))
       refine z13 rfl (fun hc=>?_) (fun hc=>?_)
       ·rw [if_pos hc] at hp
        repeat (first | refine nx ?_ | (refine z10 fun K hK=>?_;simp only [go_sem];apply hK;clear hK K))
        refine z15 (fun (k:Nat)=>[(56,.d (.i k))]) (fun k=>[(50,some (.arr 116 6 (hourRows (seenHours (seen.take k) l))))]) (fun k=>k≤seen.length) (fun k=>seen.length - k) 0 ?_ (Nat.zero_le _) ?_
        ·simp only [go_sem]
         refine weA ?_ ?_ <;> simp
         first | done | rfl
        ·intro k hk
         simp only [go_sem]
         repeat (first | refine nx ?_ | (refine z10 fun K hK=>?_;simp only [go_sem];apply hK;clear hK K))
         refine z13 rfl (fun hb=>?_) (fun hb=>?_)
         ·have hlt2:k<seen.length:=by simpa using hb
          have hw2:IntKind.i64.wrap ((k:Int) + 1)=((k + 1:Nat):Int):=by rw [z17 (by omega)];simp
          obtain ⟨s,hsk⟩:∃ s,seen[k]?=some s:=⟨_,List.getElem?_eq_getElem hlt2⟩
          have gs:=z67 hsk
          have hr:=hrange s (List.mem_of_getElem? hsk)
          have hlk:=z101 (seen.take k) l
          have gr:=z52 (z62 (l:=seenHours (seen.take k) l) (i:=s.hour) ⟨hr.1,by rw [hlk];exact hr.2⟩)
          have hnx:seenHours (seen.take (k + 1)) l=(seenHours (seen.take k) l).set s.hour.toNat (pointH s.sky):=z32 _ _ _ _ _ hsk
          have h111:=zf147 s.sky
          rw [Sky.row] at h111
          repeat (first | refine nx ?_ | (refine z10 fun K hK=>?_;simp only [go_sem,gs,Sight.row];apply hK;clear hK K))
          refine z16 (by kernel_rfl) (by kernel_rfl) fun K hK=>?_
          simp only [go_sem,gs,Sight.row,hlk,hr.1,hr.2,gr,Hour.row]
          refine ⟨_,.fn (hf:=h111) (hd:=rfl) (hr:=.inl rfl),?_⟩
          simp only [go_sem,gr,hlk,hr.1,hr.2,Hour.row,pointH]
          refine ⟨by kernel_rfl,hK _ ?_⟩
          clear hK K
          repeat (first | refine nx ?_ | (refine z10 fun K hK=>?_;simp only [go_sem,hw2];apply hK;clear hK K))
          refine ⟨rfl,k + 1,?_,hlt2,by omega⟩
          rw [hnx,← z689]
          refine weA ?_ ?_ <;> simp
          first | done | rfl
         ·have he:k=seen.length:=by (have:¬ k<seen.length:=by simpa using hb);omega
          subst he
          rw [List.take_length]
          repeat (first | refine nx ?_ | (refine z10 fun K hK=>?_;simp only [go_sem,hn1,hn2];apply hK;clear hK K))
          refine z20 [50] ?_
          simp only [go_sem]
          refine z273 (by kernel_rfl) (by kernel_rfl) fun K hK=>?_
          simp only [go_sem,hn1,hn2]
          refine ⟨by kernel_rfl,hK _ ?_⟩
          clear hK K
          repeat (first | refine nx ?_ | (refine z10 fun K hK=>?_;simp only [go_sem,hw];apply hK;clear hK K))
          refine ⟨rfl,i + 1,?_,hlt,by omega⟩
          rw [hp,z671,z957]
          refine weA ?_ ?_ <;> simp
          all_goals first | done | rfl | exact ⟨rfl,rfl⟩
       ·rw [if_neg (by rw [hc];simp),List.append_nil] at hp
        repeat (first | refine nx ?_ | (refine z10 fun K hK=>?_;simp only [go_sem,hw];apply hK;clear hK K))
        refine ⟨rfl,i + 1,?_,hlt,by omega⟩
        rw [hp]
        refine weA ?_ ?_ <;> simp
      ·have he:i=F.length:=by (have:¬ i<F.length:=by simpa using hb);omega
       subst he
       rw [List.take_length]
       repeat (first | refine nx ?_ | (refine z10 fun K hK=>?_;simp only [go_sem,z103];apply hK;clear hK K))
       cases hp:possL F seen with
       | nil =>
        have e:lookF F seen 0 true=3:=by simp [lookF,hbad,← hH0,hsi,hp]
        rw [e,if_neg (by decide)]
        have hp':possFrom seen F 0=[]:=hp
        rw [hp']
        refine z12 rfl ?_
        repeat (first | refine nx ?_ | (refine z10 fun K hK=>?_;simp only [go_sem];apply hK;clear hK K))
        simp only [go_sem]
       | cons y ys =>
        have e:lookF F seen 0 true=0:=by simp [lookF,hbad,← hH0,hsi,hp]
        rw [e,if_pos rfl,lookV,hp,← hH0]
        have hp':possFrom seen F 0=y::ys:=hp
        rw [hp']
        have hz:((((y::ys).length:Nat):Int) == 0)=false:=by simp;omega
        simp only [go_sem,hz]
        refine z11 rfl ?_
        repeat (first | refine nx ?_ | (refine z10 fun K hK=>?_;simp only [go_sem];apply hK;clear hK K))
        simp only [go_sem]
   ·have e:lookF F seen err told=err:=by simp [lookF,hbad,← hH0,hsi,herr]
    rw [e,if_neg herr]
    have hne:(err != 0)=true:=by simpa using herr
    simp only [go_sem,hne]
    refine z12 rfl ?_
    repeat (first | refine nx ?_ | (refine z10 fun K hK=>?_;simp only [go_sem];apply hK;clear hK K))
    refine z16 (by kernel_rfl) (by kernel_rfl) fun K hK=>?_
    simp only [go_sem]
    refine ⟨by kernel_rfl,hK _ ?_⟩
    clear hK K
    repeat (first | refine nx ?_ | (refine z10 fun K hK=>?_;simp only [go_sem];apply hK;clear hK K))
    simp only [go_sem]
end Go.Ab
namespace Go.Ab
open Go.RowKit Go.Proofs
set_option maxHeartbeats 4000000
set_option maxRecDepth 20000
attribute [local irreducible] WalkL Walk
theorem zf104 (F:List (List Hour)) (seen:List Sight) (hs:ForeSmall F) (hsl:seen.length<2 ^ 30) :
  Fn Tryz.prog 104 [.agg [.sl (scenRows F)],.sl (sightRows seen)] (.tup [.sl (intRows (if lookF F seen 0 true=0 then numsOf (possL F seen) else [])),.i (lookF F seen 0 true)]):=by
 have h100:=z1081 F seen 0 true hs hsl
 obtain ⟨e,he⟩:∃ e,e=lookF F seen 0 true:=⟨_,rfl⟩
 rw [← he] at h100 ⊢
 refine z14 22 Tryz.call104 Tryz.func104 rfl (by decide) fun J=>?_
 simp only [go_sem,St.start,Tryz.ntmps104,Tryz.results104]
 by_cases h0:e=0
 ·rw [if_pos h0,lookV] at h100
  rw [if_pos h0]
  have hz:(e != 0)=false:=by simp [h0]
  repeat (first | refine z12 rfl ?_ | refine z11 rfl ?_ | refine nx ?_ | (refine z10 fun K hK=>?_;simp only [go_sem,hz];(repeat (first | (refine ⟨_,.lent (hf:=h100) (hd:=rfl) (hr:=rfl),?_⟩;simp only [go_sem,hz]) | (refine ⟨_,.given (hf:=h100) (hd:=rfl) (ha:=rfl),?_⟩;simp only [go_sem,hz])));apply hK;clear hK K))
  simp only [go_sem,h0]
 ·rw [if_neg h0] at h100
  rw [if_neg h0]
  have hz:(e != 0)=true:=by simpa using h0
  repeat (first | refine z12 rfl ?_ | refine z11 rfl ?_ | refine nx ?_ | (refine z10 fun K hK=>?_;simp only [go_sem,hz];(repeat (first | (refine ⟨_,.lent (hf:=h100) (hd:=rfl) (hr:=rfl),?_⟩;simp only [go_sem,hz]) | (refine ⟨_,.given (hf:=h100) (hd:=rfl) (ha:=rfl),?_⟩;simp only [go_sem,hz])));apply hK;clear hK K))
  simp only [go_sem]
  try rfl
def listRows (l:List (List Int)):List (List DV):=l.map fun x=>[.sl (intRows x)]
theorem z26 (l:List (List Int)):(listRows l).length=l.length:=by simp [listRows]
theorem z40 {l:List (List Int)} {i:Nat} {x:List Int} (h:l[i]?=some x):(listRows l)[i]?=some [.sl (intRows x)]:=by simp [listRows,h]
theorem z529 (l:List (List Int)):headIs 1 (listRows l)=true:=by cases l <;> rfl
attribute [go_sem] z26 z529
theorem z1209 (xs:List Int) (g:Nat) (caps:List DV) (q:Int→Bool) (hq:∀ s ∈ xs,Fn Tryz.prog g (.i s::caps) (.bool (q s))) (hl:xs.length<2 ^ 62):Fn Tryz.prog 159 [.sl (intRows xs),.fn g caps] (.i (idxFrom q xs 0)):=by
 refine z14 19 Tryz.call159 Tryz.func159 rfl (by decide) fun J=>?_
 simp only [go_sem,St.start,Tryz.ntmps159,Tryz.results159]
 repeat (first | refine nx ?_ | (refine z10 fun K hK=>?_;simp only [go_sem];apply hK;clear hK K))
 refine z15 (fun (i:Nat)=>[(8,.d (.i i))]) (fun _=>[]) (fun i=>i≤xs.length∧idxFrom q xs 0=idxFrom q (xs.drop i) i) (fun i=>xs.length - i) 0 ?_ ⟨Nat.zero_le _,rfl⟩ ?_
 ·simp only [go_sem]
  refine weA ?_ ?_ <;> simp
 ·intro i ⟨hi,hq0⟩
  simp only [go_sem]
  repeat (first | refine nx ?_ | (refine z10 fun K hK=>?_;simp only [go_sem];apply hK;clear hK K))
  refine z13 rfl (fun hb=>?_) (fun hb=>?_)
  ·have hlt:i<xs.length:=by simpa using hb
   have hw:IntKind.i64.wrap ((i:Int) + 1)=((i + 1:Nat):Int):=by rw [z17 (by omega)];simp
   obtain ⟨s,hs⟩:∃ s,xs[i]?=some s:=⟨_,List.getElem?_eq_getElem hlt⟩
   rw [z30 hs,idxFrom] at hq0
   repeat (first | refine nx ?_ | (refine z10 fun K hK=>?_;simp only [go_sem];apply hK;clear hK K))
   refine z10 fun K hK=>?_
   simp only [go_sem,hs,List.getElem?_map,z38 hs,hw]
   refine ⟨_,.lent (hf:=hq s (List.mem_of_getElem? hs)) (hd:=z31 _ _ _ _ rfl) (hr:=rfl),?_⟩
   simp only [go_sem]
   apply hK
   clear hK K
   refine z13 rfl (fun hc=>?_) (fun hc=>?_)
   ·rw [hc,if_pos rfl] at hq0
    repeat (first | refine nx ?_ | (refine z10 fun K hK=>?_;simp only [go_sem];apply hK;clear hK K))
    simp only [go_sem,hq0]
   ·rw [hc] at hq0
    repeat (first | refine nx ?_ | (refine z10 fun K hK=>?_;simp only [go_sem,hw];apply hK;clear hK K))
    refine ⟨rfl,i + 1,?_,⟨hlt,hq0⟩,by omega⟩
    refine weA ?_ ?_ <;> simp
  ·have he:i=xs.length:=by (have:¬ i<xs.length:=by simpa using hb);omega
   subst he
   repeat (first | refine nx ?_ | (refine z10 fun K hK=>?_;simp only [go_sem];apply hK;clear hK K))
   simp only [go_sem,hq0,List.drop_length,idxFrom]
theorem zf121 (xs:List Int) (g:Nat) (caps:List DV) (q:Int→Bool) (hq:∀ s ∈ xs,Fn Tryz.prog g (.i s::caps) (.bool (q s))) (hl:xs.length<2 ^ 62):Fn Tryz.prog 121 [.sl (intRows xs),.fn g caps] (.bool (xs.any q)):=by
 refine z14 9 Tryz.call121 Tryz.func121 rfl (by decide) fun J=>?_
 simp only [go_sem,St.start,Tryz.ntmps121,Tryz.results121]
 repeat (first | refine nx ?_ | (refine z10 fun K hK=>?_;simp only [go_sem];(repeat (first | (refine ⟨_,.lent (hf:=z1209 xs g caps q hq hl) (hd:=rfl) (hr:=rfl),?_⟩;simp only [go_sem]) | (refine ⟨_,.given (hf:=z1209 xs g caps q hq hl) (hd:=rfl) (ha:=rfl),?_⟩;simp only [go_sem])));apply hK;clear hK K))
 simp only [go_sem,z42]
structure Grid where
 p:Plant
 scen:List (List Hour)
 hours:Int
def Grid.cells (g:Grid):List DV:=[.sl (scenRows g.p.scen),.sl (sightRows g.p.seen),.sl (intRows g.p.sun),.i g.p.gain,.i g.p.start,.i g.p.stop,.i g.p.charge,.i g.p.capacity,.i g.p.reserve,.i g.p.gas,.i g.p.rate,.i g.p.units,.sl (intRows g.p.needs),.sl (scenRows g.scen),.i g.hours]
def powerB (H:Int) (l:List Int):Bool:=((l.length:Int) == H) && !(l.any fun n=>!withinB n 0 10000)
def sumI (l:List Int):Int:=l.foldl (· + ·) 0
def burnB (g:Grid) (l:List Int):Bool:=(l.all fun n=>withinB n 0 g.p.rate) && (((l.length:Int) == g.hours) && decide (sumI l≤g.p.units))
end Go.Ab
namespace Go.Ab
open Go.RowKit Go.Proofs
set_option maxHeartbeats 8000000
set_option maxRecDepth 20000
attribute [local irreducible] WalkL Walk
structure PlantSmall (p:Plant):Prop where
 fore:ForeSmall p.scen
 seen:p.seen.length<2 ^ 30
 sun:p.sun.length<2 ^ 30
 needs:p.needs.length<2 ^ 30
def hoursOf (p:Plant):Int:=(hd0 p.scen).length
def gridOf (p:Plant):Grid:=⟨p,scensOf (possL p.scen p.seen),hoursOf p⟩
def plantBad (p:Plant) (H:Int):Bool :=
 !powerB H p.sun || (!powerB H p.needs || (!withinB p.gain 0 100 || (!withinB p.start 0 p.stop || (decide (p.stop > 200) ||
 (!withinB p.capacity 0 100000 || (!withinB p.charge 0 p.capacity || (!withinB p.reserve 0 p.capacity ||
 (!withinB p.gas 0 10000 || (!withinB p.rate 0 10 || !withinB p.units 0 200)))))))))
def openE (p:Plant) (burns:List (List Int)):Int :=
 if lookF p.scen p.seen 0 true=0 then (if plantBad p (hoursOf p) then 100 else if burns.any (fun l=>!burnB (gridOf p) l) then 101 else 0) else lookF p.scen p.seen 0 true
theorem z294 {seen:List Sight}:∀ (F:List (List Hour)) (j i:Nat) (k:Nat) (l':List Hour),(possFrom seen F j)[i]?=some (k,l')→∃ l,j≤k∧F[k - j]?=some l∧l'=seenHours seen l∧agreesB seen l=true
 | [],_,_,_,_,h=>by simp [possFrom] at h
 | l::F,j,i,k,l',h=>by
  rw [possFrom] at h
  have rest:∀ i:Nat,(possFrom seen F (j + 1))[i]?=some (k,l')→∃ l2,j≤k∧(l::F)[k - j]?=some l2∧l'=seenHours seen l2∧agreesB seen l2=true:=by
   intro i h
   obtain ⟨l2,h1,h2,h3,h4⟩:=z294 F (j + 1) i k l' h
   refine ⟨l2,by omega,?_,h3,h4⟩
   rw [show k - j=(k - (j + 1)) + 1 by omega,List.getElem?_cons_succ]
   exact h2
  split at h
  ·rename_i ha
   cases i with
   | zero=>simp at h;obtain ⟨rfl,rfl⟩:=h;exact ⟨l,Nat.le_refl _,by simp,rfl,ha⟩
   | succ i=>exact rest i (by simpa using h)
  ·exact rest i h
end Go.Ab
namespace Go.Ab
open Go.RowKit Go.Proofs
set_option maxHeartbeats 8000000
set_option maxRecDepth 20000
attribute [local irreducible] WalkL Walk
def yieldW (p:Plant) (h:Int) (s:Sky):Int :=
 if withinB s.wind p.start p.stop then wr (wr ((wr (getI p.sun h * wr (100 - s.rain))).tdiv 100) + wr (p.gain * s.wind)) else wr ((wr (getI p.sun h * wr (100 - s.rain))).tdiv 100)
def worstW (p:Plant) (h:Hour):Sky:=⟨if decide (h.wind.lo ≥ p.start) && decide (h.wind.hi > p.stop) then h.wind.hi else h.wind.lo,h.rain.hi,h.temp.lo⟩
def bestW (p:Plant) (h:Hour):Sky:=⟨if decide (p.stop<h.wind.hi) && decide (p.stop ≥ h.wind.lo) then p.stop else h.wind.hi,h.rain.lo,h.temp.lo⟩
def leastW (p:Plant) (l:List Hour):List Sky:=l.map (worstW p)
def noSky:Sky:=⟨0,0,0⟩
def skyAt (l:List Sky) (i:Nat):Sky:=l.getD i noSky
theorem z1012 {l:List Sky} {i:Nat} (h:i<l.length):l[i]?=some (skyAt l i):=by
 unfold skyAt
 rw [List.getD,List.getElem?_eq_getElem h]
 rfl
def allOf (p:Plant) (burn:List Int) (skies:List Sky) (lv:Int) (j:Nat):Int :=
 wr (wr (wr (lv + yieldW p j (skyAt skies j)) + wr (p.gas * getI burn j)) - getI p.needs j)
def lvAt (p:Plant) (burn:List Int) (skies:List Sky):Nat→Int
 | 0=>p.charge
 | j + 1=>min (allOf p burn skies (lvAt p burn skies j) j) p.capacity
def lostAt (p:Plant) (burn:List Int) (skies:List Sky) (j:Nat):Int:=wr (allOf p burn skies (lvAt p burn skies j) j - lvAt p burn skies (j + 1))
def levItems (p:Plant) (burn:List Int) (skies:List Sky):List (List DV):=(List.range skies.length).map fun j=>[.i (lvAt p burn skies (j + 1)),.i (lostAt p burn skies j)]
end Go.Ab
namespace Go.Ab
open Go.RowKit Go.Proofs
set_option maxHeartbeats 8000000
set_option maxRecDepth 20000
attribute [local irreducible] WalkL Walk
def countTo (q:Nat→Bool):Nat→Nat→Nat
 | 0,i=>i
 | k + 1,i=>if q i then countTo q k (i + 1) else i
def lastsW (p:Plant) (burn:List Int) (skies:List Sky):Nat:=countTo (fun j=>!decide (lvAt p burn skies (j + 1)<p.reserve)) skies.length 0
structure GridOk (g:Grid) (H:Nat):Prop where
 hours:g.hours=H
 pos:1≤H∧H≤48
 sun:g.p.sun.length=H
 needs:g.p.needs.length=H
 scen:g.scen≠[]∧g.scen.length<2 ^ 20
 len:∀ l ∈ g.scen,l.length=H
 rate:0≤g.p.rate∧g.p.rate≤10
 units:0≤g.p.units∧g.p.units≤200
def hardStep (p:Plant) (burn:List Int) (a:List Sky × Int) (l:List Hour):List Sky × Int :=
 if (lastsW p burn (leastW p l):Int)<a.2 then (leastW p l,(lastsW p burn (leastW p l):Int)) else a
def hardF (g:Grid) (burn:List Int):List Sky × Int:=g.scen.foldl (hardStep g.p burn) ([],g.hours + 1)
end Go.Ab
namespace Go.Ab
open Go.RowKit Go.Proofs
set_option maxHeartbeats 8000000
set_option maxRecDepth 20000
attribute [local irreducible] WalkL Walk
theorem z51 (l:List Int) (k:Nat) (x:Int):(intRows l).set k [.i x]=intRows (l.set k x):=by simp [intRows,List.map_set]
def downF (r:Int) (burn:List Int):Nat→Int
 | 0=>-1
 | k + 1=>if getI burn k=r then downF r burn k else k
def planF (g:Grid):Nat→List Int→Int→Option (List Int × Int)
 | 0,_,_=>none
 | f + 1,burn,units =>
  if (hardF g burn).2=g.hours then some (burn,units) else
  if downF g.p.rate burn ((hardF g burn).2.toNat + 1)<0∨units=g.p.units then none else
  planF g f (burn.set (downF g.p.rate burn ((hardF g burn).2.toNat + 1)).toNat (getI burn (downF g.p.rate burn ((hardF g burn).2.toNat + 1)) + 1)) (units + 1)
def planG (g:Grid):Option (List Int × Int):=planF g (g.p.units.toNat + 1) (List.replicate g.hours.toNat 0) 0
def planV:Option (List Int × Int)→DV
 | some (b,u)=>.tup [.sl (intRows b),.i u,.bool true]
 | none=>.tup [.sl [],.i 0,.bool false]
def planP (p:Plant):List Int × Int × Int :=
 if openE p []=0 then (match planG (gridOf p) with
  | some (b,u)=>(b,u,0)
  | none=>([],0,3)) else ([],0,openE p [])
end Go.Ab
namespace Go.Ab
open Go.RowKit Go.Proofs
set_option maxHeartbeats 8000000
set_option maxRecDepth 20000
attribute [local irreducible] WalkL Walk
theorem z1075 (n lo hi:Int):Fn Tryz.prog 51 [.i n,.i lo,.i hi] (.bool (withinB n lo hi)):=by
 refine z14 15 Tryz.call51 Tryz.func51 rfl (by decide) fun J=>?_
 simp only [go_sem,St.start,Tryz.ntmps51,Tryz.results51]
 by_cases h:lo≤n
 ·repeat (first | refine nx ?_ | (refine z10 fun K hK=>?_;simp only [go_sem,h,ge_iff_le];apply hK;clear hK K))
  simp only [go_sem,withinB,h]
 ·repeat (first | refine nx ?_ | (refine z10 fun K hK=>?_;simp only [go_sem,h,ge_iff_le];apply hK;clear hK K))
  simp only [go_sem,withinB,h]
theorem zf53 (s:Span) (lo hi:Int):Fn Tryz.prog 53 [.agg s.row,.i lo,.i hi] (.bool (orderedB s lo hi)):=by
 refine z14 24 Tryz.call53 Tryz.func53 rfl (by decide) fun J=>?_
 simp only [go_sem,St.start,Tryz.ntmps53,Tryz.results53,Span.row]
 by_cases h:lo≤s.lo <;> by_cases h2:s.lo≤s.hi
 all_goals
  repeat (first | refine nx ?_ | (refine z10 fun K hK=>?_;simp only [go_sem,h,h2,ge_iff_le];apply hK;clear hK K))
  simp only [go_sem,orderedB,h,h2]
theorem z1154 (n:Int) (s:Span):Fn Tryz.prog 164 [.i n,.agg s.row] (.bool (withinB n s.lo s.hi)):=by
 have h97:=z1075 n s.lo s.hi
 refine z14 11 Tryz.call164 Tryz.func164 rfl (by decide) fun J=>?_
 simp only [go_sem,St.start,Tryz.ntmps164,Tryz.results164,Span.row]
 repeat (first | refine nx ?_ | (refine z10 fun K hK=>?_;simp only [go_sem];(repeat (first | (refine ⟨_,.lent (hf:=h97) (hd:=rfl) (hr:=rfl),?_⟩;simp only [go_sem]) | (refine ⟨_,.given (hf:=h97) (hd:=rfl) (ha:=rfl),?_⟩;simp only [go_sem])));apply hK;clear hK K))
 simp only [go_sem]
theorem z1198 (F:List (List Hour)) (h0:List Hour) (h:F[0]?=some h0):Fn Tryz.prog 52 [.agg [.sl (scenRows F)]] (.i h0.length):=by
 have g0:=z35 h
 refine z14 9 Tryz.call52 Tryz.func52 rfl (by decide) fun J=>?_
 simp only [go_sem,St.start,Tryz.ntmps52,Tryz.results52]
 repeat (first | refine nx ?_ | (refine z10 fun K hK=>?_;simp only [go_sem,g0];apply hK;clear hK K))
 simp only [go_sem]
theorem zf26 (F:List (List Hour)) (hs:ForeSmall F):Fn Tryz.prog 26 [.agg [.sl (scenRows F)]] (.i (foreF F)):=by
 have h1:=hs.scen
 have h97:=z1075 F.length 1 6
 cases q1:withinB (F.length:Int) 1 6
 ·have e:foreF F=50:=by simp [foreF,badF,q1]
  rw [e]
  rw [q1] at h97
  refine z14 66 Tryz.call26 Tryz.func26 rfl (by decide) fun J=>?_
  simp only [go_sem,St.start,Tryz.ntmps26,Tryz.results26]
  repeat (first | refine z12 rfl ?_ | refine z11 rfl ?_ | refine nx ?_ | (refine z10 fun K hK=>?_;simp only [go_sem];(repeat (first | (refine ⟨_,.lent (hf:=h97) (hd:=rfl) (hr:=rfl),?_⟩;simp only [go_sem]) | (refine ⟨_,.given (hf:=h97) (hd:=rfl) (ha:=rfl),?_⟩;simp only [go_sem])));apply hK;clear hK K))
  simp only [go_sem]
 ·have hl:=z24.1 q1
  rw [q1] at h97
  have h0:=z75 (F:=F) (by omega)
  obtain ⟨H0,hH0⟩:∃ H0,H0=hd0 F:=⟨_,rfl⟩
  rw [← hH0] at h0
  have hm0:H0 ∈ F:=List.mem_of_getElem? h0
  have h71:=z1198 F H0 h0
  have h97b:=z1075 H0.length 1 48
  have hsm:=hs.hours H0 hm0
  have hbadx:∀ x ∈ F,scenB H0 x=false→foreF F=50:=fun x hx hf=>by
   have:F.all (scenB H0)=false:=by
    obtain ⟨i,hi⟩:=List.getElem?_of_mem hx
    exact z195 hi hf
   simp [foreF,badF,← hH0,this]
  cases q2:withinB (H0.length:Int) 1 48
  ·have e:foreF F=50:=hbadx H0 hm0 (by simp [scenB,q2])
   rw [e]
   rw [q2] at h97b
   refine z14 66 Tryz.call26 Tryz.func26 rfl (by decide) fun J=>?_
   simp only [go_sem,St.start,Tryz.ntmps26,Tryz.results26]
   repeat (first | refine z12 rfl ?_ | refine z11 rfl ?_ | refine nx ?_ | (refine z10 fun K hK=>?_;simp only [go_sem];(repeat (first | (refine ⟨_,.lent (hf:=h97) (hd:=rfl) (hr:=rfl),?_⟩;simp only [go_sem]) | (refine ⟨_,.lent (hf:=h71) (hd:=rfl) (hr:=rfl),?_⟩;simp only [go_sem]) | (refine ⟨_,.lent (hf:=h97b) (hd:=rfl) (hr:=rfl),?_⟩;simp only [go_sem]) | (refine ⟨_,.given (hf:=h97) (hd:=rfl) (ha:=rfl),?_⟩;simp only [go_sem]) | (refine ⟨_,.given (hf:=h71) (hd:=rfl) (ha:=rfl),?_⟩;simp only [go_sem]) | (refine ⟨_,.given (hf:=h97b) (hd:=rfl) (ha:=rfl),?_⟩;simp only [go_sem])));apply hK;clear hK K))
   simp only [go_sem]
  ·rw [q2] at h97b
   refine z14 66 Tryz.call26 Tryz.func26 rfl (by decide) fun J=>?_
   simp only [go_sem,St.start,Tryz.ntmps26,Tryz.results26]
   repeat (first | refine z12 rfl ?_ | refine z11 rfl ?_ | refine nx ?_ | (refine z10 fun K hK=>?_;simp only [go_sem];(repeat (first | (refine ⟨_,.lent (hf:=h97) (hd:=rfl) (hr:=rfl),?_⟩;simp only [go_sem]) | (refine ⟨_,.lent (hf:=h71) (hd:=rfl) (hr:=rfl),?_⟩;simp only [go_sem]) | (refine ⟨_,.lent (hf:=h97b) (hd:=rfl) (hr:=rfl),?_⟩;simp only [go_sem]) | (refine ⟨_,.given (hf:=h97) (hd:=rfl) (ha:=rfl),?_⟩;simp only [go_sem]) | (refine ⟨_,.given (hf:=h71) (hd:=rfl) (ha:=rfl),?_⟩;simp only [go_sem]) | (refine ⟨_,.given (hf:=h97b) (hd:=rfl) (ha:=rfl),?_⟩;simp only [go_sem])));apply hK;clear hK K))
   refine z15 (fun (i:Nat)=>[(3,.d (.i i))]) (fun _=>[]) (fun i=>i≤F.length∧(F.take i).all (scenB H0)=true) (fun i=>F.length - i) 0 ?_ ⟨Nat.zero_le _,rfl⟩ ?_
   ·simp only [go_sem]
    refine weA ?_ ?_ <;> simp
   ·intro i ⟨hi,z39⟩
    simp only [go_sem]
    repeat (first | refine nx ?_ | (refine z10 fun K hK=>?_;simp only [go_sem];apply hK;clear hK K))
    refine z13 rfl (fun hb=>?_) (fun hb=>?_)
    ·have hlt:i<F.length:=by simpa using hb
     have hw:IntKind.i64.wrap ((i:Int) + 1)=((i + 1:Nat):Int):=by rw [z17 (by omega)];simp
     obtain ⟨l,hx⟩:∃ l,F[i]?=some l:=⟨_,List.getElem?_eq_getElem hlt⟩
     have hlm:=List.mem_of_getElem? hx
     have hls:=hs.hours l hlm
     have g1:=z35 hx
     cases q3:((l.length:Int) != (H0.length:Int))
     ·have hll:l.length=H0.length:=by
       have:¬ (l.length:Int)≠(H0.length:Int):=by simpa using q3
       omega
      have hw1:withinB (l.length:Int) 1 48=true:=by rw [hll];exact q2
      repeat (first | refine z12 rfl ?_ | refine z11 rfl ?_ | refine nx ?_ | (refine z10 fun K hK=>?_;simp only [go_sem,g1,q3];(repeat (first | (refine ⟨_,.lent (hf:=h71) (hd:=rfl) (hr:=rfl),?_⟩;simp only [go_sem,g1,q3]) | (refine ⟨_,.given (hf:=h71) (hd:=rfl) (ha:=rfl),?_⟩;simp only [go_sem,g1,q3])));apply hK;clear hK K))
      refine z15 (fun (j:Nat)=>[(5,.d (.i j))]) (fun _=>[]) (fun j=>j≤l.length∧(l.take j).all hourB=true) (fun j=>l.length - j) 0 ?_ ⟨Nat.zero_le _,rfl⟩ ?_
      ·simp only [go_sem]
       refine weA ?_ ?_ <;> simp
      ·intro j ⟨hj,hallj⟩
       simp only [go_sem]
       repeat (first | refine nx ?_ | (refine z10 fun K hK=>?_;simp only [go_sem];apply hK;clear hK K))
       refine z13 rfl (fun hb=>?_) (fun hb=>?_)
       ·have hltj:j<l.length:=by simpa using hb
        have hwj:IntKind.i64.wrap ((j:Int) + 1)=((j + 1:Nat):Int):=by rw [z17 (by omega)];simp
        obtain ⟨h,hxj⟩:∃ h,l[j]?=some h:=⟨_,List.getElem?_eq_getElem hltj⟩
        have gj:=z52 hxj
        have k1:=zf53 h.wind 0 200
        have k2:=zf53 h.rain 0 100
        have k3:=zf53 h.temp (-50) 50
        rw [Span.row] at k1 k2 k3
        obtain ⟨b1,e1⟩:∃ b,b=orderedB h.wind 0 200:=⟨_,rfl⟩
        obtain ⟨b2,e2⟩:∃ b,b=orderedB h.rain 0 100:=⟨_,rfl⟩
        obtain ⟨b3,e3⟩:∃ b,b=orderedB h.temp (-50) 50:=⟨_,rfl⟩
        have hh:hourB h=(b1 && (b2 && b3)):=by rw [hourB,e1,e2,e3]
        rw [← e1] at k1
        rw [← e2] at k2
        rw [← e3] at k3
        have hbad:hourB h=false→foreF F=50:=fun hf=>hbadx l hlm (by simp [scenB,z195 hxj hf])
        cases b1
        ·repeat (first | refine z12 rfl ?_ | refine z11 rfl ?_ | refine nx ?_ | (refine z10 fun K hK=>?_;simp only [go_sem,gj,Hour.row];(repeat (first | (refine ⟨_,.lent (hf:=k1) (hd:=rfl) (hr:=rfl),?_⟩;simp only [go_sem,gj,Hour.row]) | (refine ⟨_,.given (hf:=k1) (hd:=rfl) (ha:=rfl),?_⟩;simp only [go_sem,gj,Hour.row])));apply hK;clear hK K))
         simp only [go_sem,hbad (by rw [hh];rfl)]
        ·cases b2
         ·repeat (first | refine z12 rfl ?_ | refine z11 rfl ?_ | refine nx ?_ | (refine z10 fun K hK=>?_;simp only [go_sem,gj,Hour.row];(repeat (first | (refine ⟨_,.lent (hf:=k1) (hd:=rfl) (hr:=rfl),?_⟩;simp only [go_sem,gj,Hour.row]) | (refine ⟨_,.lent (hf:=k2) (hd:=rfl) (hr:=rfl),?_⟩;simp only [go_sem,gj,Hour.row]) | (refine ⟨_,.given (hf:=k1) (hd:=rfl) (ha:=rfl),?_⟩;simp only [go_sem,gj,Hour.row]) | (refine ⟨_,.given (hf:=k2) (hd:=rfl) (ha:=rfl),?_⟩;simp only [go_sem,gj,Hour.row])));apply hK;clear hK K))
          simp only [go_sem,hbad (by rw [hh];rfl)]
         ·cases b3
          ·repeat (first | refine z12 rfl ?_ | refine z11 rfl ?_ | refine nx ?_ | (refine z10 fun K hK=>?_;simp only [go_sem,gj,Hour.row];(repeat (first | (refine ⟨_,.lent (hf:=k1) (hd:=rfl) (hr:=rfl),?_⟩;simp only [go_sem,gj,Hour.row]) | (refine ⟨_,.lent (hf:=k2) (hd:=rfl) (hr:=rfl),?_⟩;simp only [go_sem,gj,Hour.row]) | (refine ⟨_,.lent (hf:=k3) (hd:=rfl) (hr:=rfl),?_⟩;simp only [go_sem,gj,Hour.row]) | (refine ⟨_,.given (hf:=k1) (hd:=rfl) (ha:=rfl),?_⟩;simp only [go_sem,gj,Hour.row]) | (refine ⟨_,.given (hf:=k2) (hd:=rfl) (ha:=rfl),?_⟩;simp only [go_sem,gj,Hour.row]) | (refine ⟨_,.given (hf:=k3) (hd:=rfl) (ha:=rfl),?_⟩;simp only [go_sem,gj,Hour.row])));apply hK;clear hK K))
           simp only [go_sem,hbad (by rw [hh];rfl)]
          ·repeat (first | refine z12 rfl ?_ | refine z11 rfl ?_ | refine nx ?_ | (refine z10 fun K hK=>?_;simp only [go_sem,gj,Hour.row,hwj];(repeat (first | (refine ⟨_,.lent (hf:=k1) (hd:=rfl) (hr:=rfl),?_⟩;simp only [go_sem,gj,Hour.row,hwj]) | (refine ⟨_,.lent (hf:=k2) (hd:=rfl) (hr:=rfl),?_⟩;simp only [go_sem,gj,Hour.row,hwj]) | (refine ⟨_,.lent (hf:=k3) (hd:=rfl) (hr:=rfl),?_⟩;simp only [go_sem,gj,Hour.row,hwj]) | (refine ⟨_,.given (hf:=k1) (hd:=rfl) (ha:=rfl),?_⟩;simp only [go_sem,gj,Hour.row,hwj]) | (refine ⟨_,.given (hf:=k2) (hd:=rfl) (ha:=rfl),?_⟩;simp only [go_sem,gj,Hour.row,hwj]) | (refine ⟨_,.given (hf:=k3) (hd:=rfl) (ha:=rfl),?_⟩;simp only [go_sem,gj,Hour.row,hwj])));apply hK;clear hK K))
           refine ⟨rfl,j + 1,?_,⟨hltj,z106 hxj hallj (by rw [hh];rfl)⟩,by omega⟩
           refine weA ?_ ?_ <;> simp
       ·have he:j=l.length:=by (have:¬ j<l.length:=by simpa using hb);omega
        subst he
        rw [List.take_length] at hallj
        repeat (first | refine nx ?_ | (refine z10 fun K hK=>?_;simp only [go_sem,hw];apply hK;clear hK K))
        refine ⟨rfl,i + 1,?_,⟨hlt,z106 hx z39 (by rw [scenB,hw1,hallj];simp [hll])⟩,by omega⟩
        refine weA ?_ ?_ <;> simp
     ·have hne:¬ (l.length:Int)=(H0.length:Int):=by simpa using q3
      have hf:scenB H0 l=false:=by
       have:((l.length:Int) == (H0.length:Int))=false:=by simpa using hne
       unfold scenB
       rw [this]
       simp
      repeat (first | refine z12 rfl ?_ | refine z11 rfl ?_ | refine nx ?_ | (refine z10 fun K hK=>?_;simp only [go_sem,g1,q3];(repeat (first | (refine ⟨_,.lent (hf:=h71) (hd:=rfl) (hr:=rfl),?_⟩;simp only [go_sem,g1,q3]) | (refine ⟨_,.given (hf:=h71) (hd:=rfl) (ha:=rfl),?_⟩;simp only [go_sem,g1,q3])));apply hK;clear hK K))
      simp only [go_sem,hbadx l hlm hf]
    ·have he:i=F.length:=by (have:¬ i<F.length:=by simpa using hb);omega
     subst he
     rw [List.take_length] at z39
     repeat (first | refine nx ?_ | (refine z10 fun K hK=>?_;simp only [go_sem];apply hK;clear hK K))
     simp only [go_sem,foreF,badF,q1,← hH0,z39]
theorem z1105 (s:Sky):hourB (pointH s)=(withinB s.wind 0 200 && (withinB s.rain 0 100 && withinB s.temp (-50) 50)):=by
 have e:∀ n lo hi:Int,orderedB ⟨n,n⟩ lo hi=withinB n lo hi:=fun n lo hi=>by
  unfold orderedB withinB
  dsimp only
  rw [decide_eq_true (Int.le_refl n),Bool.true_and]
 rw [hourB,pointH,e,e,e]
theorem zf158 (F:List (List Hour)) (h0:List Hour) (x:Int) (h:F[0]?=some h0) (hl:h0.length<2 ^ 30):Fn Tryz.prog 158 [.agg [.sl (scenRows F)],.i x] (.bool (withinB x 0 ((h0.length:Int) - 1))):=by
 have h71:=z1198 F h0 h
 have h97:=z1075 x 0 ((h0.length:Int) - 1)
 have hw:IntKind.i64.wrap ((h0.length:Int) - 1)=(h0.length:Int) - 1:=z17 (by omega)
 refine z14 10 Tryz.call158 Tryz.func158 rfl (by decide) fun J=>?_
 simp only [go_sem,St.start,Tryz.ntmps158,Tryz.results158]
 repeat (first | refine nx ?_ | (refine z10 fun K hK=>?_;simp only [go_sem,hw];(repeat (first | (refine ⟨_,.lent (hf:=h71) (hd:=rfl) (hr:=rfl),?_⟩;simp only [go_sem,hw]) | (refine ⟨_,.lent (hf:=h97) (hd:=rfl) (hr:=rfl),?_⟩;simp only [go_sem,hw]) | (refine ⟨_,.given (hf:=h71) (hd:=rfl) (ha:=rfl),?_⟩;simp only [go_sem,hw]) | (refine ⟨_,.given (hf:=h97) (hd:=rfl) (ha:=rfl),?_⟩;simp only [go_sem,hw])));apply hK;clear hK K))
 simp only [go_sem]
def seenF (F:List (List Hour)) (seen:List Sight):Int:=if badF F then 50 else if sightsB (hd0 F).length seen then 0 else 51
theorem zf120 (F:List (List Hour)) (seen:List Sight) (hs:ForeSmall F) (hsl:seen.length<2 ^ 30):Fn Tryz.prog 120 [.agg [.sl (scenRows F)],.sl (sightRows seen)] (.i (seenF F seen)):=by
 have h86:=zf26 F hs
 cases hb:badF F
 ·have hg:=z156.1 hb
  have hF:=hg.scen
  have hH:=hg.hours
  have e86:foreF F=0:=by simp [foreF,hb]
  rw [e86] at h86
  have h0:=z75 (F:=F) (by omega)
  obtain ⟨H0,hH0⟩:∃ H0,H0=hd0 F:=⟨_,rfl⟩
  rw [← hH0] at h0 hH
  have e0:seenF F seen=if sightsB (H0.length:Int) seen then 0 else 51:=by simp [seenF,hb,← hH0]
  rw [e0]
  cases hlen:decide ((seen.length:Int) > 20)
  ·have hlen':=of_decide_eq_false hlen
   refine z14 67 Tryz.call120 Tryz.func120 rfl (by decide) fun J=>?_
   simp only [go_sem,St.start,Tryz.ntmps120,Tryz.results120]
   repeat (first | refine z12 rfl ?_ | refine z11 rfl ?_ | refine nx ?_ | (refine z10 fun K hK=>?_;simp only [go_sem,hlen];(repeat (first | (refine ⟨_,.lent (hf:=h86) (hd:=rfl) (hr:=rfl),?_⟩;simp only [go_sem,hlen]) | (refine ⟨_,.given (hf:=h86) (hd:=rfl) (ha:=rfl),?_⟩;simp only [go_sem,hlen])));apply hK;clear hK K))
   refine z15 (fun (i:Nat)=>[(5,.d (.i i))]) (fun _=>[]) (fun i=>i≤seen.length∧(seen.take i).all (sightOk H0.length)=true∧((seen.take i).map (·.hour)).Nodup) (fun i=>seen.length - i) 0 ?_ ⟨Nat.zero_le _,rfl,by simp⟩ ?_
   ·simp only [go_sem]
    refine weA ?_ ?_ <;> simp
   ·intro i ⟨hi,z39,hnd⟩
    simp only [go_sem]
    repeat (first | refine nx ?_ | (refine z10 fun K hK=>?_;simp only [go_sem];apply hK;clear hK K))
    refine z13 rfl (fun hb=>?_) (fun hb=>?_)
    ·have hlt:i<seen.length:=by simpa using hb
     have hw:IntKind.i64.wrap ((i:Int) + 1)=((i + 1:Nat):Int):=by rw [z17 (by omega)];simp
     obtain ⟨s,hx⟩:∃ s,seen[i]?=some s:=⟨_,List.getElem?_eq_getElem hlt⟩
     have g1:=z67 hx
     have htk:seen.take (i + 1)=seen.take i++[s]:=by rw [List.take_add_one,hx];rfl
     have k0:=zf158 F H0 s.hour h0 (by omega)
     have k1:=z1075 s.sky.wind 0 200
     have k2:=z1075 s.sky.rain 0 100
     have k3:=z1075 s.sky.temp (-50) 50
     obtain ⟨b0,e0⟩:∃ b,b=withinB s.hour 0 ((H0.length:Int) - 1):=⟨_,rfl⟩
     obtain ⟨b1,e1⟩:∃ b,b=withinB s.sky.wind 0 200:=⟨_,rfl⟩
     obtain ⟨b2,e2⟩:∃ b,b=withinB s.sky.rain 0 100:=⟨_,rfl⟩
     obtain ⟨b3,e3⟩:∃ b,b=withinB s.sky.temp (-50) 50:=⟨_,rfl⟩
     have hh:sightOk H0.length s=(b0 && (b1 && (b2 && b3))):=by rw [sightOk,z1105,e0,e1,e2,e3]
     rw [← e0] at k0
     rw [← e1] at k1
     rw [← e2] at k2
     rw [← e3] at k3
     have hbad:sightOk H0.length s=false→sightsB (H0.length:Int) seen=false:=fun hf=>by rw [sightsB,z195 hx hf];rfl
     cases b0
     ·repeat (first | refine z12 rfl ?_ | refine z11 rfl ?_ | refine nx ?_ | (refine z10 fun K hK=>?_;simp only [go_sem,g1,Sight.row];(repeat (first | (refine ⟨_,.lent (hf:=k0) (hd:=rfl) (hr:=rfl),?_⟩;simp only [go_sem,g1,Sight.row]) | (refine ⟨_,.given (hf:=k0) (hd:=rfl) (ha:=rfl),?_⟩;simp only [go_sem,g1,Sight.row])));apply hK;clear hK K) | (refine z16 (by kernel_rfl) (by kernel_rfl) fun K hK=>?_;simp only [go_sem,g1,Sight.row];(repeat (first | (refine ⟨_,.fn (hf:=k0) (hd:=rfl) (hr:=.inl rfl),?_⟩;simp only [go_sem,g1,Sight.row])));refine ⟨by kernel_rfl,hK _ ?_⟩;clear hK K))
      simp only [go_sem,hbad (by rw [hh];rfl)]
     cases b1
     ·repeat (first | refine z12 rfl ?_ | refine z11 rfl ?_ | refine nx ?_ | (refine z10 fun K hK=>?_;simp only [go_sem,g1,Sight.row];(repeat (first | (refine ⟨_,.lent (hf:=k0) (hd:=rfl) (hr:=rfl),?_⟩;simp only [go_sem,g1,Sight.row]) | (refine ⟨_,.lent (hf:=k1) (hd:=rfl) (hr:=rfl),?_⟩;simp only [go_sem,g1,Sight.row]) | (refine ⟨_,.given (hf:=k0) (hd:=rfl) (ha:=rfl),?_⟩;simp only [go_sem,g1,Sight.row]) | (refine ⟨_,.given (hf:=k1) (hd:=rfl) (ha:=rfl),?_⟩;simp only [go_sem,g1,Sight.row])));apply hK;clear hK K) | (refine z16 (by kernel_rfl) (by kernel_rfl) fun K hK=>?_;simp only [go_sem,g1,Sight.row];(repeat (first | (refine ⟨_,.fn (hf:=k0) (hd:=rfl) (hr:=.inl rfl),?_⟩;simp only [go_sem,g1,Sight.row]) | (refine ⟨_,.fn (hf:=k1) (hd:=rfl) (hr:=.inl rfl),?_⟩;simp only [go_sem,g1,Sight.row])));refine ⟨by kernel_rfl,hK _ ?_⟩;clear hK K))
      simp only [go_sem,hbad (by rw [hh];rfl)]
     cases b2
     ·repeat (first | refine z12 rfl ?_ | refine z11 rfl ?_ | refine nx ?_ | (refine z10 fun K hK=>?_;simp only [go_sem,g1,Sight.row];(repeat (first | (refine ⟨_,.lent (hf:=k0) (hd:=rfl) (hr:=rfl),?_⟩;simp only [go_sem,g1,Sight.row]) | (refine ⟨_,.lent (hf:=k1) (hd:=rfl) (hr:=rfl),?_⟩;simp only [go_sem,g1,Sight.row]) | (refine ⟨_,.lent (hf:=k2) (hd:=rfl) (hr:=rfl),?_⟩;simp only [go_sem,g1,Sight.row]) | (refine ⟨_,.given (hf:=k0) (hd:=rfl) (ha:=rfl),?_⟩;simp only [go_sem,g1,Sight.row]) | (refine ⟨_,.given (hf:=k1) (hd:=rfl) (ha:=rfl),?_⟩;simp only [go_sem,g1,Sight.row]) | (refine ⟨_,.given (hf:=k2) (hd:=rfl) (ha:=rfl),?_⟩;simp only [go_sem,g1,Sight.row])));apply hK;clear hK K) | (refine z16 (by kernel_rfl) (by kernel_rfl) fun K hK=>?_;simp only [go_sem,g1,Sight.row];(repeat (first | (refine ⟨_,.fn (hf:=k0) (hd:=rfl) (hr:=.inl rfl),?_⟩;simp only [go_sem,g1,Sight.row]) | (refine ⟨_,.fn (hf:=k1) (hd:=rfl) (hr:=.inl rfl),?_⟩;simp only [go_sem,g1,Sight.row]) | (refine ⟨_,.fn (hf:=k2) (hd:=rfl) (hr:=.inl rfl),?_⟩;simp only [go_sem,g1,Sight.row])));refine ⟨by kernel_rfl,hK _ ?_⟩;clear hK K))
      simp only [go_sem,hbad (by rw [hh];rfl)]
     cases b3
     ·repeat (first | refine z12 rfl ?_ | refine z11 rfl ?_ | refine nx ?_ | (refine z10 fun K hK=>?_;simp only [go_sem,g1,Sight.row];(repeat (first | (refine ⟨_,.lent (hf:=k0) (hd:=rfl) (hr:=rfl),?_⟩;simp only [go_sem,g1,Sight.row]) | (refine ⟨_,.lent (hf:=k1) (hd:=rfl) (hr:=rfl),?_⟩;simp only [go_sem,g1,Sight.row]) | (refine ⟨_,.lent (hf:=k2) (hd:=rfl) (hr:=rfl),?_⟩;simp only [go_sem,g1,Sight.row]) | (refine ⟨_,.lent (hf:=k3) (hd:=rfl) (hr:=rfl),?_⟩;simp only [go_sem,g1,Sight.row]) | (refine ⟨_,.given (hf:=k0) (hd:=rfl) (ha:=rfl),?_⟩;simp only [go_sem,g1,Sight.row]) | (refine ⟨_,.given (hf:=k1) (hd:=rfl) (ha:=rfl),?_⟩;simp only [go_sem,g1,Sight.row]) | (refine ⟨_,.given (hf:=k2) (hd:=rfl) (ha:=rfl),?_⟩;simp only [go_sem,g1,Sight.row]) | (refine ⟨_,.given (hf:=k3) (hd:=rfl) (ha:=rfl),?_⟩;simp only [go_sem,g1,Sight.row])));apply hK;clear hK K) | (refine z16 (by kernel_rfl) (by kernel_rfl) fun K hK=>?_;simp only [go_sem,g1,Sight.row];(repeat (first | (refine ⟨_,.fn (hf:=k0) (hd:=rfl) (hr:=.inl rfl),?_⟩;simp only [go_sem,g1,Sight.row]) | (refine ⟨_,.fn (hf:=k1) (hd:=rfl) (hr:=.inl rfl),?_⟩;simp only [go_sem,g1,Sight.row]) | (refine ⟨_,.fn (hf:=k2) (hd:=rfl) (hr:=.inl rfl),?_⟩;simp only [go_sem,g1,Sight.row]) | (refine ⟨_,.fn (hf:=k3) (hd:=rfl) (hr:=.inl rfl),?_⟩;simp only [go_sem,g1,Sight.row])));refine ⟨by kernel_rfl,hK _ ?_⟩;clear hK K))
      simp only [go_sem,hbad (by rw [hh];rfl)]
     repeat (first | refine z12 rfl ?_ | refine z11 rfl ?_ | refine nx ?_ | (refine z10 fun K hK=>?_;simp only [go_sem,g1,Sight.row];(repeat (first | (refine ⟨_,.lent (hf:=k0) (hd:=rfl) (hr:=rfl),?_⟩;simp only [go_sem,g1,Sight.row]) | (refine ⟨_,.lent (hf:=k1) (hd:=rfl) (hr:=rfl),?_⟩;simp only [go_sem,g1,Sight.row]) | (refine ⟨_,.lent (hf:=k2) (hd:=rfl) (hr:=rfl),?_⟩;simp only [go_sem,g1,Sight.row]) | (refine ⟨_,.lent (hf:=k3) (hd:=rfl) (hr:=rfl),?_⟩;simp only [go_sem,g1,Sight.row]) | (refine ⟨_,.given (hf:=k0) (hd:=rfl) (ha:=rfl),?_⟩;simp only [go_sem,g1,Sight.row]) | (refine ⟨_,.given (hf:=k1) (hd:=rfl) (ha:=rfl),?_⟩;simp only [go_sem,g1,Sight.row]) | (refine ⟨_,.given (hf:=k2) (hd:=rfl) (ha:=rfl),?_⟩;simp only [go_sem,g1,Sight.row]) | (refine ⟨_,.given (hf:=k3) (hd:=rfl) (ha:=rfl),?_⟩;simp only [go_sem,g1,Sight.row])));apply hK;clear hK K) | (refine z16 (by kernel_rfl) (by kernel_rfl) fun K hK=>?_;simp only [go_sem,g1,Sight.row];(repeat (first | (refine ⟨_,.fn (hf:=k0) (hd:=rfl) (hr:=.inl rfl),?_⟩;simp only [go_sem,g1,Sight.row]) | (refine ⟨_,.fn (hf:=k1) (hd:=rfl) (hr:=.inl rfl),?_⟩;simp only [go_sem,g1,Sight.row]) | (refine ⟨_,.fn (hf:=k2) (hd:=rfl) (hr:=.inl rfl),?_⟩;simp only [go_sem,g1,Sight.row]) | (refine ⟨_,.fn (hf:=k3) (hd:=rfl) (hr:=.inl rfl),?_⟩;simp only [go_sem,g1,Sight.row])));refine ⟨by kernel_rfl,hK _ ?_⟩;clear hK K))
     refine z15 (fun (j:Nat)=>[(7,.d (.i j))]) (fun _=>[]) (fun j=>j≤i∧∀ x ∈ seen.take j,x.hour≠s.hour) (fun j=>i - j) 0 ?_ ⟨Nat.zero_le _,by simp⟩ ?_
     ·simp only [go_sem]
      refine weA ?_ ?_ <;> simp
     ·intro j ⟨hj,hno⟩
      simp only [go_sem]
      repeat (first | refine nx ?_ | (refine z10 fun K hK=>?_;simp only [go_sem];apply hK;clear hK K))
      refine z13 rfl (fun hb=>?_) (fun hb=>?_)
      ·have hltj:j<i:=by simpa using hb
       have hwj:IntKind.i64.wrap ((j:Int) + 1)=((j + 1:Nat):Int):=by rw [z17 (by omega)];simp
       obtain ⟨y,hy⟩:∃ y,seen[j]?=some y:=⟨_,List.getElem?_eq_getElem (by omega)⟩
       have gj:=z67 hy
       cases hq:(y.hour == s.hour)
       ·have hne:y.hour≠s.hour:=by simpa using hq
        repeat (first | refine z12 rfl ?_ | refine z11 rfl ?_ | refine nx ?_ | (refine z10 fun K hK=>?_;simp only [go_sem,gj,g1,Sight.row,hq,hwj];apply hK;clear hK K) | (refine z16 (by kernel_rfl) (by kernel_rfl) fun K hK=>?_;simp only [go_sem,gj,g1,Sight.row,hq,hwj];refine ⟨by kernel_rfl,hK _ ?_⟩;clear hK K))
        refine ⟨rfl,j + 1,?_,⟨hltj,fun x hx2=>?_⟩,by omega⟩
        ·refine weA ?_ ?_ <;> simp
        ·rw [List.take_add_one,hy,List.mem_append] at hx2
         rcases hx2 with hx2 | hx2
         ·exact hno x hx2
         ·have:x=y:=by simpa using hx2
          rw [this];exact hne
       ·have heq:y.hour=s.hour:=by simpa using hq
        have hF:sightsB (H0.length:Int) seen=false:=by
         have:¬ (seen.map (·.hour)).Nodup:=fun hn=>by
          have h3:(((seen.take (i + 1)).map (·.hour))).Nodup:=(List.Sublist.map _ (List.take_sublist _ _)).nodup hn
          rw [htk,List.map_append,List.nodup_append] at h3
          refine h3.2.2 y.hour (List.mem_map.2 ⟨y,?_,rfl⟩) s.hour (by simp) heq
          exact List.mem_of_getElem? (i:=j) (by rw [List.getElem?_take,if_pos hltj];exact hy)
         simp [sightsB,this]
        repeat (first | refine z12 rfl ?_ | refine z11 rfl ?_ | refine nx ?_ | (refine z10 fun K hK=>?_;simp only [go_sem,gj,g1,Sight.row,hq];apply hK;clear hK K) | (refine z16 (by kernel_rfl) (by kernel_rfl) fun K hK=>?_;simp only [go_sem,gj,g1,Sight.row,hq];refine ⟨by kernel_rfl,hK _ ?_⟩;clear hK K))
        simp only [go_sem,hF]
      ·have he:j=i:=by (have:¬ j<i:=by simpa using hb);omega
       subst he
       repeat (first | refine nx ?_ | (refine z10 fun K hK=>?_;simp only [go_sem,hw];apply hK;clear hK K))
       refine ⟨rfl,j + 1,?_,⟨hlt,z106 hx z39 (by rw [hh];rfl),?_⟩,by omega⟩
       ·refine weA ?_ ?_ <;> simp
       ·rw [htk,List.map_append,List.nodup_append]
        refine ⟨hnd,by simp,fun a ha b hb e=>?_⟩
        obtain ⟨z,hz,rfl⟩:=List.mem_map.1 ha
        have:b=s.hour:=by simpa using hb
        exact hno z hz (by rw [e,this])
    ·have he:i=seen.length:=by (have:¬ i<seen.length:=by simpa using hb);omega
     subst he
     rw [List.take_length] at z39 hnd
     have hF:sightsB (H0.length:Int) seen=true:=by
      simp only [sightsB,z39,Bool.true_and,Bool.and_eq_true,decide_eq_true_eq]
      exact ⟨hnd,by omega⟩
     repeat (first | refine nx ?_ | (refine z10 fun K hK=>?_;simp only [go_sem];apply hK;clear hK K))
     simp only [go_sem,hF,if_true]
  ·have hlen':=of_decide_eq_true hlen
   have hF:sightsB (H0.length:Int) seen=false:=by
    have:decide ((seen.length:Int)≤20)=false:=by simp;omega
    simp only [sightsB,this,Bool.and_false]
   rw [hF,if_neg (by decide)]
   refine z14 67 Tryz.call120 Tryz.func120 rfl (by decide) fun J=>?_
   simp only [go_sem,St.start,Tryz.ntmps120,Tryz.results120]
   repeat (first | refine z12 rfl ?_ | refine z11 rfl ?_ | refine nx ?_ | (refine z10 fun K hK=>?_;simp only [go_sem,hlen];(repeat (first | (refine ⟨_,.lent (hf:=h86) (hd:=rfl) (hr:=rfl),?_⟩;simp only [go_sem,hlen]) | (refine ⟨_,.given (hf:=h86) (hd:=rfl) (ha:=rfl),?_⟩;simp only [go_sem,hlen])));apply hK;clear hK K))
   simp only [go_sem]
 ·have e86:foreF F=50:=by simp [foreF,hb]
  have e0:seenF F seen=50:=by simp [seenF,hb]
  rw [e86] at h86
  rw [e0]
  refine z14 67 Tryz.call120 Tryz.func120 rfl (by decide) fun J=>?_
  simp only [go_sem,St.start,Tryz.ntmps120,Tryz.results120]
  repeat (first | refine z12 rfl ?_ | refine z11 rfl ?_ | refine nx ?_ | (refine z10 fun K hK=>?_;simp only [go_sem];(repeat (first | (refine ⟨_,.lent (hf:=h86) (hd:=rfl) (hr:=rfl),?_⟩;simp only [go_sem]) | (refine ⟨_,.given (hf:=h86) (hd:=rfl) (ha:=rfl),?_⟩;simp only [go_sem])));apply hK;clear hK K))
  simp only [go_sem]
end Go.Ab
namespace Go.Ab
open Go.RowKit Go.Proofs
set_option maxHeartbeats 8000000
set_option maxRecDepth 20000
attribute [local irreducible] WalkL Walk
theorem zf134 (s:Sky) (h:Hour):Fn Tryz.prog 134 [.agg s.row,.agg h.row] (.bool (insideB s h)):=by
 have h1:=z1154 s.wind h.wind
 have h2:=z1154 s.rain h.rain
 have h3:=z1154 s.temp h.temp
 rw [Span.row] at h1 h2 h3
 obtain ⟨b1,e1⟩:∃ b,b=withinB s.wind h.wind.lo h.wind.hi:=⟨_,rfl⟩
 obtain ⟨b2,e2⟩:∃ b,b=withinB s.rain h.rain.lo h.rain.hi:=⟨_,rfl⟩
 obtain ⟨b3,e3⟩:∃ b,b=withinB s.temp h.temp.lo h.temp.hi:=⟨_,rfl⟩
 rw [insideB,← e1,← e2,← e3]
 rw [← e1] at h1
 rw [← e2] at h2
 rw [← e3] at h3
 refine z14 24 Tryz.call134 Tryz.func134 rfl (by decide) fun J=>?_
 simp only [go_sem,St.start,Tryz.ntmps134,Tryz.results134,Hour.row,Sky.row]
 cases b1 <;> cases b2
 all_goals
  repeat (first | refine nx ?_ | (refine z10 fun K hK=>?_;simp only [go_sem];(repeat (first | (refine ⟨_,.lent (hf:=h1) (hd:=rfl) (hr:=rfl),?_⟩;simp only [go_sem]) | (refine ⟨_,.lent (hf:=h2) (hd:=rfl) (hr:=rfl),?_⟩;simp only [go_sem]) | (refine ⟨_,.lent (hf:=h3) (hd:=rfl) (hr:=rfl),?_⟩;simp only [go_sem]) | (refine ⟨_,.given (hf:=h1) (hd:=rfl) (ha:=rfl),?_⟩;simp only [go_sem]) | (refine ⟨_,.given (hf:=h2) (hd:=rfl) (ha:=rfl),?_⟩;simp only [go_sem]) | (refine ⟨_,.given (hf:=h3) (hd:=rfl) (ha:=rfl),?_⟩;simp only [go_sem])));apply hK;clear hK K))
  simp only [go_sem]
theorem z1156 (F:List (List Hour)) (seen:List Sight) (hg:ForeGood F) (hsi:sightsB (hd0 F).length seen=true):Fn Tryz.prog 100 [.agg [.sl (scenRows F)],.sl (sightRows seen)] (.sl (intRows (numsOf (possL F seen)))):=by
 obtain ⟨s1,s2,s3⟩:=z148 hsi
 have hF:=hg.scen
 have hH:=hg.hours
 refine z14 50 Tryz.call100 Tryz.func100 rfl (by decide) fun J=>?_
 simp only [go_sem,St.start,Tryz.ntmps100,Tryz.results100]
 repeat (first | refine nx ?_ | (refine z10 fun K hK=>?_;simp only [go_sem];apply hK;clear hK K))
 refine z15 (fun (i:Nat)=>[(6,.d (.i i)),(5,.own 48)]) (fun i=>[(48,some (.arr 3 1 (intRows (numsOf (possFrom seen (F.take i) 0)))))]) (fun i=>i≤F.length) (fun i=>F.length - i) 0 ?_ (Nat.zero_le _) ?_
 ·simp only [go_sem]
  refine z53 [48] ?_ ?_ rfl rfl <;> simp [lessT,lessM,lessB,AV.less]
  all_goals first | done | rfl
 ·intro i hi
  simp only [go_sem]
  repeat (first | refine nx ?_ | (refine z10 fun K hK=>?_;simp only [go_sem];apply hK;clear hK K))
  refine z13 rfl (fun hb=>?_) (fun hb=>?_)
  ·have hlt:i<F.length:=by simpa using hb
   have hw:IntKind.i64.wrap ((i:Int) + 1)=((i + 1:Nat):Int):=by rw [z17 (by omega)];simp
   obtain ⟨l,hl⟩:∃ l,F[i]?=some l:=⟨_,List.getElem?_eq_getElem hlt⟩
   have hll:=hg.len l (List.mem_of_getElem? hl)
   have g1:=z35 hl
   have htk:F.take (i + 1)=F.take i++[l]:=by rw [List.take_add_one,hl];rfl
   have hp:=z150 seen l (F.take i) 0
   have htl:(F.take i).length=i:=by simp;omega
   rw [← htk,htl,Nat.zero_add] at hp
   have hpl:=z79 seen (F.take i) 0
   rw [htl] at hpl
   have hn1:(numsOf (possFrom seen (F.take i) 0)).length + 1≤549755813888:=by simp [numsOf];omega
   repeat (first | refine nx ?_ | (refine z10 fun K hK=>?_;simp only [go_sem];apply hK;clear hK K))
   refine z15 (fun (k:Nat)=>[(8,.d (.i k)),(7,.d (.bool (agreesB (seen.take k) l)))]) (fun _=>[]) (fun k=>k≤seen.length) (fun k=>seen.length - k) 0 ?_ (Nat.zero_le _) ?_
   ·simp only [go_sem]
    refine weA ?_ ?_ <;> simp
    all_goals first | done | rfl
   ·intro k hk
    simp only [go_sem]
    repeat (first | refine nx ?_ | (refine z10 fun K hK=>?_;simp only [go_sem];apply hK;clear hK K))
    refine z13 rfl (fun hb=>?_) (fun hb=>?_)
    ·have hltk:k<seen.length:=by simpa using hb
     have hwk:IntKind.i64.wrap ((k:Int) + 1)=((k + 1:Nat):Int):=by rw [z17 (by omega)];simp
     obtain ⟨s,hsk⟩:∃ s,seen[k]?=some s:=⟨_,List.getElem?_eq_getElem hltk⟩
     have gs:=z67 hsk
     have hr:=s1 s (List.mem_of_getElem? hsk)
     have gr:=z52 (z62 (l:=l) (i:=s.hour) ⟨hr.1,by omega⟩)
     have h90:=zf134 s.sky (hourAt l s.hour)
     rw [Sky.row,Hour.row] at h90
     have hnx:agreesB (seen.take (k + 1)) l=(agreesB (seen.take k) l && insideB s.sky (hourAt l s.hour)):=by
      rw [List.take_add_one,hsk];simp [agreesB]
     cases hq:agreesB (seen.take k) l
     ·rw [hq,Bool.false_and] at hnx
      repeat (first | refine z12 rfl ?_ | refine z11 rfl ?_ | refine nx ?_ | (refine z10 fun K hK=>?_;simp only [go_sem,hwk];apply hK;clear hK K) | (refine z16 (by kernel_rfl) (by kernel_rfl) fun K hK=>?_;simp only [go_sem,hwk];refine ⟨by kernel_rfl,hK _ ?_⟩;clear hK K))
      refine ⟨rfl,k + 1,?_,hltk,by omega⟩
      rw [hnx]
      refine weA ?_ ?_ <;> simp
     ·rw [hq,Bool.true_and] at hnx
      repeat (first | refine z12 rfl ?_ | refine z11 rfl ?_ | refine nx ?_ | (refine z10 fun K hK=>?_;simp only [go_sem,gs,g1,gr,hr.1,Sight.row,Hour.row,hwk];(repeat (first | (refine ⟨_,.lent (hf:=h90) (hd:=rfl) (hr:=rfl),?_⟩;simp only [go_sem,gs,g1,gr,hr.1,Sight.row,Hour.row,hwk]) | (refine ⟨_,.given (hf:=h90) (hd:=rfl) (ha:=rfl),?_⟩;simp only [go_sem,gs,g1,gr,hr.1,Sight.row,Hour.row,hwk])));apply hK;clear hK K) | (refine z16 (by kernel_rfl) (by kernel_rfl) fun K hK=>?_;simp only [go_sem,gs,g1,gr,hr.1,Sight.row,Hour.row,hwk];(repeat (first | (refine ⟨_,.fn (hf:=h90) (hd:=rfl) (hr:=.inl rfl),?_⟩;simp only [go_sem,gs,g1,gr,hr.1,Sight.row,Hour.row,hwk])));refine ⟨by kernel_rfl,hK _ ?_⟩;clear hK K))
      refine ⟨rfl,k + 1,?_,hltk,by omega⟩
      rw [hnx]
      refine weA ?_ ?_ <;> simp
    ·have he:k=seen.length:=by (have:¬ k<seen.length:=by simpa using hb);omega
     subst he
     rw [List.take_length]
     cases hag:agreesB seen l
     ·rw [hag,if_neg (by decide),List.append_nil] at hp
      repeat (first | refine z12 rfl ?_ | refine z11 rfl ?_ | refine nx ?_ | (refine z10 fun K hK=>?_;simp only [go_sem,hw];apply hK;clear hK K))
      refine ⟨rfl,i + 1,?_,hlt,by omega⟩
      rw [hp]
      refine weA ?_ ?_ <;> simp
     ·rw [hag,if_pos rfl] at hp
      repeat (first | refine z12 rfl ?_ | refine z11 rfl ?_ | refine nx ?_ | (refine z10 fun K hK=>?_;simp only [go_sem,hn1,hw];apply hK;clear hK K))
      refine ⟨rfl,i + 1,?_,hlt,by omega⟩
      rw [hp,z671]
      refine weA ?_ ?_ <;> simp
      all_goals first | done | rfl
  ·have he:i=F.length:=by (have:¬ i<F.length:=by simpa using hb);omega
   subst he
   rw [List.take_length]
   repeat (first | refine nx ?_ | (refine z10 fun K hK=>?_;simp only [go_sem];apply hK;clear hK K))
   simp only [go_sem]
   rfl
theorem zf83 (F:List (List Hour)) (seen:List Sight) (hs:ForeSmall F) (hsl:seen.length<2 ^ 30) :
  Fn Tryz.prog 83 [.agg [.sl (scenRows F)],.sl (sightRows seen)] (.tup [.sl (intRows (if lookF F seen 0 true=0 then numsOf (possL F seen) else [])),.i (lookF F seen 0 true)]):=by
 have h68:=zf120 F seen hs hsl
 cases hb:badF F
 ·have hg:=z156.1 hb
  cases hsi:sightsB ((hd0 F).length:Int) seen
  ·have e1:seenF F seen=51:=by simp [seenF,hb,hsi]
   have e2:lookF F seen 0 true=51:=by simp [lookF,hb,hsi]
   rw [e1] at h68
   rw [e2,if_neg (by decide)]
   refine z14 21 Tryz.call83 Tryz.func83 rfl (by decide) fun J=>?_
   simp only [go_sem,St.start,Tryz.ntmps83,Tryz.results83]
   repeat (first | refine z12 rfl ?_ | refine z11 rfl ?_ | refine nx ?_ | (refine z10 fun K hK=>?_;simp only [go_sem];(repeat (first | (refine ⟨_,.lent (hf:=h68) (hd:=rfl) (hr:=rfl),?_⟩;simp only [go_sem]) | (refine ⟨_,.given (hf:=h68) (hd:=rfl) (ha:=rfl),?_⟩;simp only [go_sem])));apply hK;clear hK K))
   simp only [go_sem]
   try rfl
  ·have e1:seenF F seen=0:=by simp [seenF,hb,hsi]
   rw [e1] at h68
   have h69:=z1156 F seen hg hsi
   cases hp:possL F seen with
   | nil =>
    have e2:lookF F seen 0 true=3:=by simp [lookF,hb,hsi,hp]
    rw [hp] at h69
    rw [e2,if_neg (by decide)]
    have e3:intRows (numsOf [])=[]:=rfl
    rw [e3] at h69
    refine z14 21 Tryz.call83 Tryz.func83 rfl (by decide) fun J=>?_
    simp only [go_sem,St.start,Tryz.ntmps83,Tryz.results83]
    repeat (first | refine z12 rfl ?_ | refine z11 rfl ?_ | refine nx ?_ | (refine z10 fun K hK=>?_;simp only [go_sem];(repeat (first | (refine ⟨_,.lent (hf:=h68) (hd:=rfl) (hr:=rfl),?_⟩;simp only [go_sem]) | (refine ⟨_,.lent (hf:=h69) (hd:=rfl) (hr:=rfl),?_⟩;simp only [go_sem]) | (refine ⟨_,.given (hf:=h68) (hd:=rfl) (ha:=rfl),?_⟩;simp only [go_sem]) | (refine ⟨_,.given (hf:=h69) (hd:=rfl) (ha:=rfl),?_⟩;simp only [go_sem])));apply hK;clear hK K))
    simp only [go_sem]
    try rfl
   | cons y ys =>
    have e2:lookF F seen 0 true=0:=by simp [lookF,hb,hsi,hp]
    rw [hp] at h69
    rw [e2,if_pos rfl]
    have hz:((((y::ys).length:Nat):Int) == 0)=false:=by simp;omega
    refine z14 21 Tryz.call83 Tryz.func83 rfl (by decide) fun J=>?_
    simp only [go_sem,St.start,Tryz.ntmps83,Tryz.results83]
    repeat (first | refine z12 rfl ?_ | refine z11 rfl ?_ | refine nx ?_ | (refine z10 fun K hK=>?_;simp only [go_sem,hz,z103];(repeat (first | (refine ⟨_,.lent (hf:=h68) (hd:=rfl) (hr:=rfl),?_⟩;simp only [go_sem,hz,z103]) | (refine ⟨_,.lent (hf:=h69) (hd:=rfl) (hr:=rfl),?_⟩;simp only [go_sem,hz,z103]) | (refine ⟨_,.given (hf:=h68) (hd:=rfl) (ha:=rfl),?_⟩;simp only [go_sem,hz,z103]) | (refine ⟨_,.given (hf:=h69) (hd:=rfl) (ha:=rfl),?_⟩;simp only [go_sem,hz,z103])));apply hK;clear hK K))
    simp only [go_sem]
 ·have e1:seenF F seen=50:=by simp [seenF,hb]
  have e2:lookF F seen 0 true=50:=by simp [lookF,hb]
  rw [e1] at h68
  rw [e2,if_neg (by decide)]
  refine z14 21 Tryz.call83 Tryz.func83 rfl (by decide) fun J=>?_
  simp only [go_sem,St.start,Tryz.ntmps83,Tryz.results83]
  repeat (first | refine z12 rfl ?_ | refine z11 rfl ?_ | refine nx ?_ | (refine z10 fun K hK=>?_;simp only [go_sem];(repeat (first | (refine ⟨_,.lent (hf:=h68) (hd:=rfl) (hr:=rfl),?_⟩;simp only [go_sem]) | (refine ⟨_,.given (hf:=h68) (hd:=rfl) (ha:=rfl),?_⟩;simp only [go_sem])));apply hK;clear hK K))
  simp only [go_sem]
  try rfl
def plantE (p:Plant):Int:=if lookF p.scen p.seen 0 true=0 then (if plantBad p (hoursOf p) then 100 else 0) else lookF p.scen p.seen 0 true
end Go.Ab
namespace Go.Ab
open Go.RowKit Go.Proofs
set_option maxHeartbeats 8000000
set_option maxRecDepth 20000
attribute [local irreducible] WalkL Walk
def eqAll:List Hour→List Sky→Bool
 | [],[]=>true
 | h::l,s::m=>insideB s h && eqAll l m
 | _,_=>false
theorem z1203 (xs:List (List Hour)) (g:Nat) (caps:List DV) (q:(List Hour)→Bool) (hq:∀ s ∈ xs,Fn Tryz.prog g (.sl (hourRows s)::caps) (.bool (q s))) (hl:xs.length<2 ^ 62):Fn Tryz.prog 175 [.sl (scenRows xs),.fn g caps] (.i (idxFrom q xs 0)):=by
 refine z14 19 Tryz.call175 Tryz.func175 rfl (by decide) fun J=>?_
 simp only [go_sem,St.start,Tryz.ntmps175,Tryz.results175]
 repeat (first | refine nx ?_ | (refine z10 fun K hK=>?_;simp only [go_sem];apply hK;clear hK K))
 refine z15 (fun (i:Nat)=>[(8,.d (.i i))]) (fun _=>[]) (fun i=>i≤xs.length∧idxFrom q xs 0=idxFrom q (xs.drop i) i) (fun i=>xs.length - i) 0 ?_ ⟨Nat.zero_le _,rfl⟩ ?_
 ·simp only [go_sem]
  refine weA ?_ ?_ <;> simp
 ·intro i ⟨hi,hq0⟩
  simp only [go_sem]
  repeat (first | refine nx ?_ | (refine z10 fun K hK=>?_;simp only [go_sem];apply hK;clear hK K))
  refine z13 rfl (fun hb=>?_) (fun hb=>?_)
  ·have hlt:i<xs.length:=by simpa using hb
   have hw:IntKind.i64.wrap ((i:Int) + 1)=((i + 1:Nat):Int):=by rw [z17 (by omega)];simp
   obtain ⟨s,hs⟩:∃ s,xs[i]?=some s:=⟨_,List.getElem?_eq_getElem hlt⟩
   rw [z30 hs,idxFrom] at hq0
   repeat (first | refine nx ?_ | (refine z10 fun K hK=>?_;simp only [go_sem];apply hK;clear hK K))
   refine z10 fun K hK=>?_
   simp only [go_sem,hs,List.getElem?_map,z35 hs,hw]
   refine ⟨_,.lent (hf:=hq s (List.mem_of_getElem? hs)) (hd:=z31 _ _ _ _ rfl) (hr:=rfl),?_⟩
   simp only [go_sem]
   apply hK
   clear hK K
   refine z13 rfl (fun hc=>?_) (fun hc=>?_)
   ·rw [hc,if_pos rfl] at hq0
    repeat (first | refine nx ?_ | (refine z10 fun K hK=>?_;simp only [go_sem];apply hK;clear hK K))
    simp only [go_sem,hq0]
   ·rw [hc] at hq0
    repeat (first | refine nx ?_ | (refine z10 fun K hK=>?_;simp only [go_sem,hw];apply hK;clear hK K))
    refine ⟨rfl,i + 1,?_,⟨hlt,hq0⟩,by omega⟩
    refine weA ?_ ?_ <;> simp
  ·have he:i=xs.length:=by (have:¬ i<xs.length:=by simpa using hb);omega
   subst he
   repeat (first | refine nx ?_ | (refine z10 fun K hK=>?_;simp only [go_sem];apply hK;clear hK K))
   simp only [go_sem,hq0,List.drop_length,idxFrom]
theorem zf154 (xs:List (List Hour)) (g:Nat) (caps:List DV) (q:(List Hour)→Bool) (hq:∀ s ∈ xs,Fn Tryz.prog g (.sl (hourRows s)::caps) (.bool (q s))) (hl:xs.length<2 ^ 62):Fn Tryz.prog 154 [.sl (scenRows xs),.fn g caps] (.bool (xs.any q)):=by
 refine z14 9 Tryz.call154 Tryz.func154 rfl (by decide) fun J=>?_
 simp only [go_sem,St.start,Tryz.ntmps154,Tryz.results154]
 repeat (first | refine nx ?_ | (refine z10 fun K hK=>?_;simp only [go_sem];(repeat (first | (refine ⟨_,.lent (hf:=z1203 xs g caps q hq hl) (hd:=rfl) (hr:=rfl),?_⟩;simp only [go_sem]) | (refine ⟨_,.given (hf:=z1203 xs g caps q hq hl) (hd:=rfl) (ha:=rfl),?_⟩;simp only [go_sem])));apply hK;clear hK K))
 simp only [go_sem,z42]
def weatherB (g:Grid) (m:List Sky):Bool:=g.scen.any fun l=>eqAll l m
def levsTo (p:Plant) (burn:List Int) (skies:List Sky) (k:Nat):List Int:=(List.range k).map fun j=>lvAt p burn skies (j + 1)
def lostTo (p:Plant) (burn:List Int) (skies:List Sky):Nat→Int
 | 0=>0
 | k + 1=>wr (lostTo p burn skies k + lostAt p burn skies k)
def levelsE (p:Plant) (burn:List Int) (m:List Sky):Int:=if openE p [burn]=0 then (if weatherB (gridOf p) m then 0 else 102) else openE p [burn]
def levelsP (p:Plant) (burn:List Int) (m:List Sky):List Int × Int × Int :=
 if levelsE p burn m=0 then (levsTo p burn m m.length,lostTo p burn m m.length,0) else ([],0,levelsE p burn m)
def lastsP (p:Plant) (burn:List Int):Int × Int:=if openE p [burn]=0 then ((hardF (gridOf p) burn).2,0) else (0,openE p [burn])
def worstP (p:Plant) (burn:List Int):List Sky × Int :=
 if openE p [burn]=0 then (if (hardF (gridOf p) burn).2=(gridOf p).hours then ([],3) else ((hardF (gridOf p) burn).1,0)) else ([],openE p [burn])
end Go.Ab
namespace Go.Ab
open Go.RowKit Go.Proofs
set_option maxHeartbeats 8000000
set_option maxRecDepth 40000
attribute [local irreducible] WalkL Walk
def exH (lo hi:Int):Hour:=⟨⟨lo,hi⟩,⟨0,0⟩,⟨0,10⟩⟩
def exF:List (List Hour):=[[exH 10 20,exH 10 20,exH 10 20,exH 10 20,exH 30 60,exH 30 60],[exH 15 45,exH 15 45,exH 10 20,exH 10 20,exH 10 20,exH 10 20]]
def exP:Plant:=⟨exF,[],[0,40,80,80,40,0],1,12,50,100,150,20,50,2,9,[60,60,60,60,90,90]⟩
end Go.Ab
namespace Go.Ab
open Go.RowKit Go.Proofs
set_option maxHeartbeats 8000000
set_option maxRecDepth 20000
attribute [local irreducible] WalkL Walk
def farL (F:List (List Hour)):Bool:=F.any fun l=>decide ((l.length:Int) > 50)
def far5 (F:List (List Hour)) (seen:List Sight):Bool :=
 (decide ((F.length:Int) > 8) || decide ((seen.length:Int) > 22)) || (farL F || (decide (foreF F=0) && (decide ((F.length:Int) > 4) || decide (((hd0 F).length:Int) > 12))))
theorem z976 (F:List (List Hour)):foreF F=0∨foreF F=50:=by
 unfold foreF
 split
 ·exact Or.inr rfl
 ·exact Or.inl rfl
theorem z1052 {F:List (List Hour)} (h:foreF F=0):badF F=false:=by
 cases hb:badF F with
 | false=>rfl
 | true=>simp [foreF,hb] at h
theorem zf54 (F:List (List Hour)) (seen:List Sight) (hs:ForeSmall F):Fn Tryz.prog 54 [.agg [.sl (scenRows F)],.sl (sightRows seen)] (.bool (far5 F seen)):=by
 have h1:=hs.scen
 have h86:=zf26 F hs
 cases q1:decide ((F.length:Int) > 8)
 case true =>
  refine z14 44 Tryz.call54 Tryz.func54 rfl (by decide) fun J=>?_
  simp only [go_sem,St.start,Tryz.ntmps54,Tryz.results54]
  repeat (first | refine z12 rfl ?_ | refine z11 rfl ?_ | refine nx ?_ | (refine z10 fun K hK=>?_;simp only [go_sem,q1];apply hK;clear hK K))
  simp only [go_sem,far5,q1]
 case false =>
 cases q2:decide ((seen.length:Int) > 22)
 case true =>
  refine z14 44 Tryz.call54 Tryz.func54 rfl (by decide) fun J=>?_
  simp only [go_sem,St.start,Tryz.ntmps54,Tryz.results54]
  repeat (first | refine z12 rfl ?_ | refine z11 rfl ?_ | refine nx ?_ | (refine z10 fun K hK=>?_;simp only [go_sem,q1,q2];apply hK;clear hK K))
  simp only [go_sem,far5,q1,q2]
 case false =>
 refine z14 44 Tryz.call54 Tryz.func54 rfl (by decide) fun J=>?_
 simp only [go_sem,St.start,Tryz.ntmps54,Tryz.results54]
 repeat (first | refine z12 rfl ?_ | refine z11 rfl ?_ | refine nx ?_ | (refine z10 fun K hK=>?_;simp only [go_sem,q1,q2];apply hK;clear hK K))
 refine z15 (fun (i:Nat)=>[(5,.d (.i i))]) (fun _=>[]) (fun i=>i≤F.length∧farL (F.take i)=false) (fun i=>F.length - i) 0 ?_ ⟨Nat.zero_le _,rfl⟩ ?_
 ·simp only [go_sem]
  refine weA ?_ ?_ <;> simp
 ·intro i ⟨hi,z39⟩
  simp only [go_sem]
  repeat (first | refine nx ?_ | (refine z10 fun K hK=>?_;simp only [go_sem];apply hK;clear hK K))
  refine z13 rfl (fun hb=>?_) (fun hb=>?_)
  ·have hlt:i<F.length:=by simpa using hb
   have hw:IntKind.i64.wrap ((i:Int) + 1)=((i + 1:Nat):Int):=by rw [z17 (by omega)];simp
   obtain ⟨l,hx⟩:∃ l,F[i]?=some l:=⟨_,List.getElem?_eq_getElem hlt⟩
   have g1:=z35 hx
   cases q3:decide ((l.length:Int) > 50)
   ·repeat (first | refine z12 rfl ?_ | refine z11 rfl ?_ | refine nx ?_ | (refine z10 fun K hK=>?_;simp only [go_sem,g1,q3,hw];apply hK;clear hK K))
    refine ⟨rfl,i + 1,?_,⟨hlt,z238 hx z39 q3⟩,by omega⟩
    refine weA ?_ ?_ <;> simp
   ·have e:farL F=true:=z984 hx q3
    repeat (first | refine z12 rfl ?_ | refine z11 rfl ?_ | refine nx ?_ | (refine z10 fun K hK=>?_;simp only [go_sem,g1,q3];apply hK;clear hK K))
    simp only [go_sem,far5,e]
  ·have he:i=F.length:=by (have:¬ i<F.length:=by simpa using hb);omega
   subst he
   rw [List.take_length] at z39
   rcases z976 F with e0 | e0
   ·rw [e0] at h86
    have hg:=z156.1 (z1052 e0)
    have h0:=z75 (F:=F) (by have:=hg.scen;omega)
    have h71:=z1198 F _ h0
    change Fn Tryz.prog 52 _ (.i (hd0 F).length) at h71
    cases q4:decide ((F.length:Int) > 4)
    ·repeat (first | refine z12 rfl ?_ | refine z11 rfl ?_ | refine nx ?_ | (refine z10 fun K hK=>?_;simp only [go_sem,q4];(repeat (first | (refine ⟨_,.lent (hf:=h86) (hd:=rfl) (hr:=rfl),?_⟩;simp only [go_sem,q4]) | (refine ⟨_,.lent (hf:=h71) (hd:=rfl) (hr:=rfl),?_⟩;simp only [go_sem,q4]) | (refine ⟨_,.given (hf:=h86) (hd:=rfl) (ha:=rfl),?_⟩;simp only [go_sem,q4]) | (refine ⟨_,.given (hf:=h71) (hd:=rfl) (ha:=rfl),?_⟩;simp only [go_sem,q4])));apply hK;clear hK K))
     simp only [go_sem,far5,q1,q2,z39,e0,q4]
    ·repeat (first | refine z12 rfl ?_ | refine z11 rfl ?_ | refine nx ?_ | (refine z10 fun K hK=>?_;simp only [go_sem,q4];(repeat (first | (refine ⟨_,.lent (hf:=h86) (hd:=rfl) (hr:=rfl),?_⟩;simp only [go_sem,q4]) | (refine ⟨_,.lent (hf:=h71) (hd:=rfl) (hr:=rfl),?_⟩;simp only [go_sem,q4]) | (refine ⟨_,.given (hf:=h86) (hd:=rfl) (ha:=rfl),?_⟩;simp only [go_sem,q4]) | (refine ⟨_,.given (hf:=h71) (hd:=rfl) (ha:=rfl),?_⟩;simp only [go_sem,q4])));apply hK;clear hK K))
     simp only [go_sem,far5,q1,q2,z39,e0,q4]
   ·rw [e0] at h86
    repeat (first | refine z12 rfl ?_ | refine z11 rfl ?_ | refine nx ?_ | (refine z10 fun K hK=>?_;simp only [go_sem];(repeat (first | (refine ⟨_,.lent (hf:=h86) (hd:=rfl) (hr:=rfl),?_⟩;simp only [go_sem]) | (refine ⟨_,.given (hf:=h86) (hd:=rfl) (ha:=rfl),?_⟩;simp only [go_sem])));apply hK;clear hK K))
    simp only [go_sem,far5,q1,q2,z39,e0]
def far10 (p:Plant):Bool :=
 (far5 p.scen p.seen || (decide ((p.sun.length:Int) > 100) || decide ((p.needs.length:Int) > 100))) ||
 (decide (plantE p=0) && (decide ((p.sun.length:Int) > 5) || (decide ((p.scen.length:Int) > 3) || decide (p.rate > 2))))
def validB (p:Plant):Bool:=!far10 p && decide (plantE p=0)
def isBurnB (p:Plant) (l:List Int):Bool:=(l.all fun n=>withinB n 0 p.rate) && (((l.length:Int) == p.sun.length) && decide (sumI l≤p.units))
end Go.Ab
namespace Go.Ab
open Go.RowKit Go.Proofs
set_option maxHeartbeats 8000000
set_option maxRecDepth 20000
attribute [local irreducible] WalkL Walk
def skyB (s t:Sky):Bool:=(s.wind == t.wind) && ((s.rain == t.rain) && (s.temp == t.temp))
def inAt (l:List Hour) (m:List Sky) (j:Nat):Bool:=insideB (skyAt m j) (hourAt l (j:Int))
def inTo (l:List Hour) (m:List Sky):Nat→Bool
 | 0=>true
 | k + 1=>inTo l m k && inAt l m k
def seenEq (seen:List Sight) (m:List Sky):Bool:=seen.all fun s=>skyB (skyAt m s.hour.toNat) s.sky
def scenAt (F:List (List Hour)) (k:Int):List Hour:=F.getD k.toNat []
def weB (F:List (List Hour)) (seen:List Sight) (m:List Sky):Bool :=
 ((m.length:Int) == (hd0 F).length) && (seenEq seen m && (numsOf (possL F seen)).any fun k=>inTo (scenAt F k) m m.length)
theorem z1117 {F:List (List Hour)} {seen:List Sight} {i:Nat} {k:Int} (h:(numsOf (possL F seen))[i]?=some k) :
  0≤k∧∃ l,F[k.toNat]?=some l∧scenAt F k=l∧agreesB seen l=true∧(possL F seen)[i]?=some (k.toNat,seenHours seen l):=by
 simp only [numsOf,List.getElem?_map,Option.map_eq_some_iff] at h
 obtain ⟨⟨j,l'⟩,h1,rfl⟩:=h
 obtain ⟨l,h2,h3,h4,h5⟩:=z294 F 0 i j l' h1
 rw [Nat.sub_zero] at h3
 refine ⟨by omega,l,?_,?_,h5,?_⟩
 ·simpa using h3
 ·simp [scenAt,h3]
 ·simpa [← h4] using h1
end Go.Ab
namespace Go.Ab
open Go.RowKit Go.Proofs
set_option maxHeartbeats 8000000
set_option maxRecDepth 20000
attribute [local irreducible] WalkL Walk
theorem zf33 (F:List (List Hour)) (hs:ForeSmall F):Fn Tryz.prog 33 [.agg [.sl (scenRows F)]] (.agg [.sl (scenRows F)]):=by
 have h1:=hs.scen
 refine z14 27 Tryz.call33 Tryz.func33 rfl (by decide) fun J=>?_
 simp only [go_sem,St.start,Tryz.ntmps33,Tryz.results33]
 repeat (first | refine nx ?_ | (refine z10 fun K hK=>?_;simp only [go_sem];apply hK;clear hK K))
 refine z15 (fun (i:Nat)=>[(4,.d (.i i))]) (fun i=>[(3,some (.box [.own 24])),(24,some (.arr 72 1 (scenRows (F.take i))))]) (fun i=>i≤F.length) (fun i=>F.length - i) 0 ?_ (Nat.zero_le _) ?_
 ·simp only [go_sem]
  refine z53 [24] ?_ ?_ rfl rfl <;> simp [lessT,lessM,lessB,AV.less]
  all_goals first | done | rfl | exact ⟨rfl,rfl⟩
 ·intro i hi
  simp only [go_sem]
  repeat (first | refine nx ?_ | (refine z10 fun K hK=>?_;simp only [go_sem];apply hK;clear hK K))
  refine z13 rfl (fun hb=>?_) (fun hb=>?_)
  ·have hlt:i<F.length:=by simpa using hb
   have hw:IntKind.i64.wrap ((i:Int) + 1)=((i + 1:Nat):Int):=by rw [z17 (by omega)];simp
   obtain ⟨l,hx⟩:∃ l,F[i]?=some l:=⟨_,List.getElem?_eq_getElem hlt⟩
   have g1:=z35 hx
   have hl:=hs.hours l (List.mem_of_getElem? hx)
   have hl1:l.length≤549755813888:=by omega
   have e:scenRows (F.take (i + 1))=scenRows (F.take i)++[[.sl (hourRows l)]]:=by rw [List.take_add_one,hx];simp [scenRows]
   obtain ⟨A,hA⟩:∃ A,A=F.take i:=⟨_,rfl⟩
   have hAl:A.length=i:=by rw [hA];simp;omega
   have hA1:A.length + 1≤549755813888:=by omega
   rw [← hA] at e ⊢
   repeat (first | refine nx ?_ | (refine z10 fun K hK=>?_;simp only [go_sem];apply hK;clear hK K))
   refine z128 [21] (by kernel_rfl) (by kernel_rfl) fun K hK=>?_
   simp only [go_sem,g1,hl1,hA1,List.nil_append]
   refine ⟨by kernel_rfl,hK _ ?_⟩
   clear hK K
   repeat (first | refine nx ?_ | (refine z10 fun K hK=>?_;simp only [go_sem,hw];apply hK;clear hK K))
   refine ⟨rfl,i + 1,?_,hlt,by omega⟩
   rw [e]
   refine weA ?_ ?_ <;> simp
   all_goals first | done | rfl | exact ⟨rfl,rfl⟩
  ·have he:i=F.length:=by (have:¬ i<F.length:=by simpa using hb);omega
   subst he
   rw [List.take_length]
   repeat (first | refine nx ?_ | (refine z10 fun K hK=>?_;simp only [go_sem];apply hK;clear hK K))
   simp only [go_sem]
end Go.Ab
namespace Go.Ab
open Go.RowKit Go.Proofs
set_option maxHeartbeats 4000000
set_option maxRecDepth 20000
structure PlantGood (p:Plant):Prop where
 fore:ForeGood p.scen
 sights:sightsB (hd0 p.scen).length p.seen=true
 poss:possL p.scen p.seen≠[]
 sun:p.sun.length=(hd0 p.scen).length
 needs:p.needs.length=(hd0 p.scen).length
 sunIn:∀ x ∈ p.sun,0≤x∧x≤10000
 needsIn:∀ x ∈ p.needs,0≤x∧x≤20000
 gain:0≤p.gain∧p.gain≤100
 start:0≤p.start∧p.start≤p.stop∧p.stop≤200
 capacity:0≤p.capacity∧p.capacity≤100000
 charge:0≤p.charge∧p.charge≤p.capacity
 reserve:0≤p.reserve∧p.reserve≤p.capacity
 gas:0≤p.gas∧p.gas≤10000
 rate:0≤p.rate∧p.rate≤10
 units:0≤p.units∧p.units≤200
theorem z458 {l:List Hour} {i:Nat} {x:Hour} {j:Nat} (hi:i<l.length):hourAt (l.set i x) (j:Int)=if i=j then x else hourAt l (j:Int):=by
 unfold hourAt
 rw [Int.toNat_natCast,List.getD_eq_getElem?_getD,List.getD_eq_getElem?_getD,List.getElem?_set]
 by_cases h:i=j
 ·subst h;simp [hi]
 ·simp [h]
theorem z278:∀ {seen:List Sight} {l:List Hour} (j:Nat),(∀ s ∈ seen,0≤s.hour∧s.hour.toNat<l.length)→(seen.map (·.hour)).Nodup →
  (∀ s ∈ seen,s.hour=j→hourAt (seenHours seen l) (j:Int)=pointH s.sky)∧((∀ s ∈ seen,s.hour≠j)→hourAt (seenHours seen l) (j:Int)=hourAt l (j:Int))
 | [],l,j,_,_=>⟨fun s hs=>by simp at hs,fun _=>rfl⟩
 | s::seen,l,j,hr,hn=>by
  have hs:=hr s (by simp)
  simp only [List.map_cons,List.nodup_cons] at hn
  have ih:=z278 (seen:=seen) (l:=l.set s.hour.toNat (pointH s.sky)) j (fun x hx=>by have:=hr x (by simp [hx]);simpa using this) hn.2
  have e:seenHours (s::seen) l=seenHours seen (l.set s.hour.toNat (pointH s.sky)):=rfl
  rw [e]
  constructor
  ·intro x hx hj
   rcases List.mem_cons.1 hx with rfl | hx
   ·have hno:∀ y ∈ seen,y.hour≠j:=fun y hy he=>hn.1 (List.mem_map.2 ⟨y,hy,by rw [he,hj]⟩)
    rw [ih.2 hno,z458 hs.2,if_pos (by omega)]
   ·exact ih.1 x hx hj
  ·intro hno
   have h1:=hno s (by simp)
   rw [ih.2 (fun y hy=>hno y (by simp [hy])),z458 hs.2,if_neg (by omega)]
def SkyOk (s:Sky):Prop:=(0≤s.wind∧s.wind≤200)∧(0≤s.rain∧s.rain≤100)
def yieldI (p:Plant) (h:Int) (s:Sky):Int:=(getI p.sun h * (100 - s.rain)) / 100 + if withinB s.wind p.start p.stop then p.gain * s.wind else 0
theorem z155 {l:List Int} {a b:Int} (h:∀ x ∈ l,a≤x∧x≤b) (ha:a≤0∧0≤b) (i:Int):a≤getI l i∧getI l i≤b:=by
 unfold getI
 rw [List.getD_eq_getElem?_getD]
 cases hx:l[i.toNat]? with
 | none=>exact ha
 | some x=>exact h x (List.mem_of_getElem? hx)
end Go.Ab
namespace Go.Ab
open Go.RowKit Go.Proofs
set_option maxHeartbeats 4000000
set_option maxRecDepth 20000
def levI (c cap:Int) (net:Nat→Int):Nat→Int
 | 0=>c
 | k + 1=>min (levI c cap net k + net k) cap
def pre (b:Nat→Int):Nat→Int
 | 0=>0
 | k + 1=>pre b k + b k
def LastsAll (p:Plant) (burn:List Int):Prop:=∀ l ∈ (gridOf p).scen,∀ j<p.sun.length,p.reserve≤lvAt p burn (leastW p l) (j + 1)
def preB (b:List Int) (k:Nat):Int:=pre (fun j=>getI b j) k
structure Step (p:Plant) (b:List Int) (u:Int):Prop where
 len:b.length=p.sun.length
 rng:∀ x ∈ b,0≤x∧x≤p.rate
 sum:sumI b=u
 top:u≤p.units
 zero:∀ j:Nat,getI b (j:Int)≠0→(j:Int)≤(hardF (gridOf p) b).2
 late:∀ c,isBurnB p c=true→LastsAll p c→∀ j≤p.sun.length,preB b j≤preB c j
end Go.Ab
namespace Go.Ab
open Go.RowKit Go.Proofs
set_option maxHeartbeats 4000000
set_option maxRecDepth 20000
attribute [local irreducible] WalkL Walk
structure Limits where
 wind:Int
 rain:Int
 temp:Span
def Limits.row (l:Limits):List DV:=[.i l.wind,.i l.rain,.i l.temp.lo,.i l.temp.hi]
def limB (l:Limits):Bool:=withinB l.wind 0 200 && (withinB l.rain 0 100 && orderedB l.temp (-50) 50)
theorem z1175 {l:Limits}:limB l=true↔(0≤l.wind∧l.wind≤200)∧(0≤l.rain∧l.rain≤100)∧(-50≤l.temp.lo∧l.temp.lo≤l.temp.hi∧l.temp.hi≤50):=by
 unfold limB
 rw [Bool.and_eq_true,Bool.and_eq_true,z24,z24,z335]
theorem zf84 (l:Limits):Fn Tryz.prog 84 [.agg l.row] (.bool (limB l)):=by
 have h1:=z1075 l.wind 0 200
 have h2:=z1075 l.rain 0 100
 have h3:=zf53 l.temp (-50) 50
 rw [Span.row] at h3
 obtain ⟨b1,e1⟩:∃ b,b=withinB l.wind 0 200:=⟨_,rfl⟩
 obtain ⟨b2,e2⟩:∃ b,b=withinB l.rain 0 100:=⟨_,rfl⟩
 obtain ⟨b3,e3⟩:∃ b,b=orderedB l.temp (-50) 50:=⟨_,rfl⟩
 rw [limB,← e1,← e2,← e3]
 rw [← e1] at h1
 rw [← e2] at h2
 rw [← e3] at h3
 refine z14 16 Tryz.call84 Tryz.func84 rfl (by decide) fun J=>?_
 simp only [go_sem,St.start,Tryz.ntmps84,Tryz.results84,Limits.row]
 cases b1 <;> cases b2
 all_goals
  repeat (first | refine nx ?_ | (refine z10 fun K hK=>?_;simp only [go_sem];(repeat (first | (refine ⟨_,.lent (hf:=h1) (hd:=rfl) (hr:=rfl),?_⟩;simp only [go_sem]) | (refine ⟨_,.lent (hf:=h2) (hd:=rfl) (hr:=rfl),?_⟩;simp only [go_sem]) | (refine ⟨_,.lent (hf:=h3) (hd:=rfl) (hr:=rfl),?_⟩;simp only [go_sem]) | (refine ⟨_,.given (hf:=h1) (hd:=rfl) (ha:=rfl),?_⟩;simp only [go_sem]) | (refine ⟨_,.given (hf:=h2) (hd:=rfl) (ha:=rfl),?_⟩;simp only [go_sem]) | (refine ⟨_,.given (hf:=h3) (hd:=rfl) (ha:=rfl),?_⟩;simp only [go_sem])));apply hK;clear hK K))
  simp only [go_sem]
theorem zf148 (l:Limits):Fn Tryz.prog 148 [.agg l.row] (.bool (limB l)):=by
 have h1:=z372 l.wind 0 200
 have h2:=z372 l.rain 0 100
 have h3:=z1080 l.temp (-50) 50
 rw [Span.row] at h3
 obtain ⟨b1,e1⟩:∃ b,b=withinB l.wind 0 200:=⟨_,rfl⟩
 obtain ⟨b2,e2⟩:∃ b,b=withinB l.rain 0 100:=⟨_,rfl⟩
 obtain ⟨b3,e3⟩:∃ b,b=orderedB l.temp (-50) 50:=⟨_,rfl⟩
 rw [limB,← e1,← e2,← e3]
 rw [← e1] at h1
 rw [← e2] at h2
 rw [← e3] at h3
 refine z14 19 Tryz.call148 Tryz.func148 rfl (by decide) fun J=>?_
 simp only [go_sem,St.start,Tryz.ntmps148,Tryz.results148,Limits.row]
 cases b1 <;> cases b2
 all_goals
  repeat (first | refine nx ?_ | (refine z10 fun K hK=>?_;simp only [go_sem];(repeat (first | (refine ⟨_,.lent (hf:=h1) (hd:=rfl) (hr:=rfl),?_⟩;simp only [go_sem]) | (refine ⟨_,.lent (hf:=h2) (hd:=rfl) (hr:=rfl),?_⟩;simp only [go_sem]) | (refine ⟨_,.lent (hf:=h3) (hd:=rfl) (hr:=rfl),?_⟩;simp only [go_sem]) | (refine ⟨_,.given (hf:=h1) (hd:=rfl) (ha:=rfl),?_⟩;simp only [go_sem]) | (refine ⟨_,.given (hf:=h2) (hd:=rfl) (ha:=rfl),?_⟩;simp only [go_sem]) | (refine ⟨_,.given (hf:=h3) (hd:=rfl) (ha:=rfl),?_⟩;simp only [go_sem])));apply hK;clear hK K))
  simp only [go_sem]
def limE (l:Limits):Int:=if limB l then 0 else 52
theorem zf112 (l:Limits):Fn Tryz.prog 112 [.agg l.row] (.i (limE l)):=by
 have h:=zf148 l
 unfold limE
 obtain ⟨b,eb⟩:∃ b,b=limB l:=⟨_,rfl⟩
 rw [← eb] at h ⊢
 rw [Limits.row] at h
 cases b
 all_goals
  refine z14 6 Tryz.call112 Tryz.func112 rfl (by decide) fun J=>?_
  simp only [go_sem,St.start,Tryz.ntmps112,Tryz.results112,Limits.row]
  repeat (first | refine z12 rfl ?_ | refine z11 rfl ?_ | refine nx ?_ | (refine z10 fun K hK=>?_;simp only [go_sem];(repeat (first | (refine ⟨_,.lent (hf:=h) (hd:=rfl) (hr:=rfl),?_⟩;simp only [go_sem]) | (refine ⟨_,.given (hf:=h) (hd:=rfl) (ha:=rfl),?_⟩;simp only [go_sem])));apply hK;clear hK K))
  simp only [go_sem]
def keptB (s:Sky) (l:Limits):Bool:=decide (s.wind≤l.wind) && (decide (s.rain≤l.rain) && withinB s.temp l.temp.lo l.temp.hi)
def alwaysB (l:Limits) (h:Hour):Bool:=decide (h.wind.hi≤l.wind) && (decide (h.rain.hi≤l.rain) && (decide (l.temp.lo≤h.temp.lo) && decide (h.temp.hi≤l.temp.hi)))
def everB (l:Limits) (h:Hour):Bool:=decide (h.wind.lo≤l.wind) && (decide (h.rain.lo≤l.rain) && decide (max l.temp.lo h.temp.lo≤min l.temp.hi h.temp.hi))
theorem zf77 (l:Limits) (h:Hour):Fn Tryz.prog 77 [.agg l.row,.agg h.row] (.bool (alwaysB l h)):=by
 refine z14 41 Tryz.call77 Tryz.func77 rfl (by decide) fun J=>?_
 simp only [go_sem,St.start,Tryz.ntmps77,Tryz.results77,Limits.row,Hour.row]
 cases q1:decide (h.wind.hi≤l.wind) <;> cases q2:decide (h.rain.hi≤l.rain) <;> cases q3:decide (l.temp.lo≤h.temp.lo)
 all_goals
  repeat (first | refine nx ?_ | (refine z10 fun K hK=>?_;simp only [go_sem,q1,q2,q3];apply hK;clear hK K))
  simp only [go_sem,alwaysB,q1,q2,q3]
theorem zf76 (l:Limits) (h:Hour):Fn Tryz.prog 76 [.agg l.row,.agg h.row] (.bool (everB l h)):=by
 refine z14 40 Tryz.call76 Tryz.func76 rfl (by decide) fun J=>?_
 simp only [go_sem,St.start,Tryz.ntmps76,Tryz.results76,Limits.row,Hour.row]
 cases q1:decide (h.wind.lo≤l.wind) <;> cases q2:decide (h.rain.lo≤l.rain)
 all_goals
  repeat (first | refine nx ?_ | (refine z10 fun K hK=>?_;simp only [go_sem,q1,q2];apply hK;clear hK K))
  simp only [go_sem,everB,q1,q2]
theorem zf114 (l:Limits) (hs:List Hour) (i:Nat) (h:Hour) (hi:hs[i]?=some h):Fn Tryz.prog 114 [.sl (hourRows hs),.i i,.ptr l.row 0] (.bool (alwaysB l h)):=by
 have g1:=z52 hi
 have h43:=zf77 l h
 rw [Limits.row,Hour.row] at h43
 refine z14 12 Tryz.call114 Tryz.func114 rfl (by decide) fun J=>?_
 simp only [go_sem,St.start,Tryz.ntmps114,Tryz.results114,Limits.row]
 repeat (first | refine nx ?_ | (refine z10 fun K hK=>?_;simp only [go_sem];apply hK;clear hK K))
 refine z16 (by kernel_rfl) (by kernel_rfl) fun K hK=>?_
 simp only [go_sem,g1,Hour.row]
 refine ⟨_,.fn (hf:=h43) (hd:=rfl) (hr:=.inr rfl),?_⟩
 simp only [go_sem]
 refine ⟨by kernel_rfl,hK _ ?_⟩
 clear hK K
 repeat (first | refine nx ?_ | (refine z10 fun K hK=>?_;simp only [go_sem];apply hK;clear hK K))
 simp only [go_sem]
theorem zf116 (l:Limits) (hs:List Hour) (i:Nat) (h:Hour) (hi:hs[i]?=some h):Fn Tryz.prog 116 [.sl (hourRows hs),.i i,.ptr l.row 0] (.bool (everB l h)):=by
 have g1:=z52 hi
 have h46:=zf76 l h
 rw [Limits.row,Hour.row] at h46
 refine z14 12 Tryz.call116 Tryz.func116 rfl (by decide) fun J=>?_
 simp only [go_sem,St.start,Tryz.ntmps116,Tryz.results116,Limits.row]
 repeat (first | refine nx ?_ | (refine z10 fun K hK=>?_;simp only [go_sem];apply hK;clear hK K))
 refine z16 (by kernel_rfl) (by kernel_rfl) fun K hK=>?_
 simp only [go_sem,g1,Hour.row]
 refine ⟨_,.fn (hf:=h46) (hd:=rfl) (hr:=.inr rfl),?_⟩
 simp only [go_sem]
 refine ⟨by kernel_rfl,hK _ ?_⟩
 clear hK K
 repeat (first | refine nx ?_ | (refine z10 fun K hK=>?_;simp only [go_sem];apply hK;clear hK K))
 simp only [go_sem]
def hullS (a b:Span):Span:=⟨min a.lo b.lo,max a.hi b.hi⟩
theorem z1155 (a b:Span):Fn Tryz.prog 111 [.agg a.row,.agg b.row] (.agg (hullS a b).row):=by
 refine z14 16 Tryz.call111 Tryz.func111 rfl (by decide) fun J=>?_
 simp only [go_sem,St.start,Tryz.ntmps111,Tryz.results111,Span.row]
 repeat (first | refine nx ?_ | (refine z10 fun K hK=>?_;simp only [go_sem];apply hK;clear hK K))
 simp only [go_sem,hullS,Span.row]
theorem z1153 (n:Int):Fn Tryz.prog 165 [.i n] (.agg [.i n,.i n]):=by
 refine z14 6 Tryz.call165 Tryz.func165 rfl (by decide) fun J=>?_
 simp only [go_sem,St.start,Tryz.ntmps165,Tryz.results165]
 repeat (first | refine nx ?_ | (refine z10 fun K hK=>?_;simp only [go_sem];apply hK;clear hK K))
 simp only [go_sem]
end Go.Ab
namespace Go.Ab
open Go.RowKit Go.Proofs
set_option maxHeartbeats 4000000
set_option maxRecDepth 20000
attribute [local irreducible] WalkL Walk
def hullH (a b:Hour):Hour:=⟨hullS a.wind b.wind,hullS a.rain b.rain,hullS a.temp b.temp⟩
def hullAll (S:List (List Hour)) (h:Int):Hour:=S.foldl (fun o l=>hullH o (hourAt l h)) (hourAt (hd0 S) h)
def rangeF (F:List (List Hour)) (seen:List Sight) (h:Int):Hour × Int :=
 if lookF F seen 0 (withinB h 0 ((hd0 F).length - 1))=0 then (hullAll (scensOf (possL F seen)) h,0) else (noHour,lookF F seen 0 (withinB h 0 ((hd0 F).length - 1)))
theorem z1056 {α:Type} {q:α→Bool}:∀ {l:List α} {i:Nat} {x:α},l[i]?=some x→(l.take i).any q=false→q x=true→l.find? q=some x
 | [],i,x,h,_,_=>by simp at h
 | y::l,0,x,h,_,hq=>by
  simp at h
  subst h
  simp [hq]
 | y::l,i + 1,x,h,h0,hq=>by
  simp only [List.take_succ_cons,List.any_cons,Bool.or_eq_false_iff] at h0
  rw [List.find?_cons,h0.1]
  exact z1056 (by simpa using h) h0.2 hq
theorem z1055 {α:Type} {q:α→Bool} {l:List α} (h:l.any q=false):l.find? q=none:=by
 rw [List.find?_eq_none]
 intro x hx hq
 rw [List.any_eq_false] at h
 exact h x hx hq
def atF (seen:List Sight) (l:List Hour) (h:Int):Hour:=match seen.find? (fun s=>s.hour == h) with
 | some s=>pointH s.sky
 | none=>hourAt l h
theorem atF_eq {seen:List Sight} {l:List Hour} (hr:∀ s ∈ seen,0≤s.hour∧s.hour.toNat<l.length) (hn:(seen.map (·.hour)).Nodup) (j:Nat):atF seen l (j:Int)=hourAt (seenHours seen l) (j:Int):=by
 have h:=z278 (seen:=seen) (l:=l) j hr hn
 unfold atF
 cases hf:seen.find? (fun s=>s.hour == (j:Int)) with
 | none =>
  rw [List.find?_eq_none] at hf
  exact (h.2 fun s hs he=>hf s hs (by simpa using he)).symm
 | some s =>
  exact (h.1 s (List.mem_of_find?_eq_some hf) (by have:=List.find?_some hf;simpa using this)).symm
theorem zf135 (F:List (List Hour)) (seen:List Sight) (l:List Hour) (k h:Int) (hsl:seen.length<2 ^ 30) (hk:0≤k) (hl:F[k.toNat]?=some l) (hh:0≤h∧h.toNat<l.length) :
  Fn Tryz.prog 135 [.agg [.sl (scenRows F)],.sl (sightRows seen),.i k,.i h] (.agg (atF seen l h).row):=by
 refine z14 48 Tryz.call135 Tryz.func135 rfl (by decide) fun J=>?_
 simp only [go_sem,St.start,Tryz.ntmps135,Tryz.results135]
 repeat (first | refine nx ?_ | (refine z10 fun K hK=>?_;simp only [go_sem];apply hK;clear hK K))
 refine z15 (fun (i:Nat)=>[(9,.d (.i i))]) (fun _=>[]) (fun i=>i≤seen.length∧(seen.take i).any (fun s=>s.hour == h)=false) (fun i=>seen.length - i) 0 ?_ ⟨Nat.zero_le _,rfl⟩ ?_
 ·simp only [go_sem]
  refine weA ?_ ?_ <;> simp
 ·intro i ⟨hi,z39⟩
  simp only [go_sem]
  repeat (first | refine nx ?_ | (refine z10 fun K hK=>?_;simp only [go_sem];apply hK;clear hK K))
  refine z13 rfl (fun hb=>?_) (fun hb=>?_)
  ·have hlt:i<seen.length:=by simpa using hb
   have hw:IntKind.i64.wrap ((i:Int) + 1)=((i + 1:Nat):Int):=by rw [z17 (by omega)];simp
   obtain ⟨s,hx⟩:∃ s,seen[i]?=some s:=⟨_,List.getElem?_eq_getElem hlt⟩
   have g1:=z67 hx
   cases q:(s.hour == h)
   ·repeat (first | refine z12 rfl ?_ | refine z11 rfl ?_ | refine nx ?_ | (refine z10 fun K hK=>?_;simp only [go_sem,g1,Sight.row,q,hw];apply hK;clear hK K))
    refine ⟨rfl,i + 1,?_,⟨hlt,z238 hx z39 q⟩,by omega⟩
    refine weA ?_ ?_ <;> simp
   ·have e:atF seen l h=pointH s.sky:=by unfold atF;rw [z1056 hx z39 q]
    rw [e]
    repeat (first | refine z12 rfl ?_ | refine z11 rfl ?_ | refine nx ?_ | (refine z10 fun K hK=>?_;simp only [go_sem,g1,Sight.row,q];apply hK;clear hK K))
    refine z16 (by kernel_rfl) (by kernel_rfl) fun K hK=>?_
    simp only [go_sem]
    refine ⟨_,.fn (hf:=z1153 s.sky.wind) (hd:=rfl) (hr:=.inl rfl),?_⟩
    simp only [go_sem]
    refine ⟨_,.fn (hf:=z1153 s.sky.rain) (hd:=rfl) (hr:=.inl rfl),?_⟩
    simp only [go_sem]
    refine ⟨_,.fn (hf:=z1153 s.sky.temp) (hd:=rfl) (hr:=.inl rfl),?_⟩
    simp only [go_sem]
    refine ⟨by kernel_rfl,hK _ ?_⟩
    clear hK K
    repeat (first | refine nx ?_ | (refine z10 fun K hK=>?_;simp only [go_sem];apply hK;clear hK K))
    simp only [go_sem,pointH,Hour.row]
  ·have he:i=seen.length:=by (have:¬ i<seen.length:=by simpa using hb);omega
   subst he
   rw [List.take_length] at z39
   have e:atF seen l h=hourAt l h:=by unfold atF;rw [z1055 z39]
   have g1:=z35 hl
   have g2:=z52 (z62 hh)
   have k1:=hh.1
   rw [e]
   repeat (first | refine nx ?_ | (refine z10 fun K hK=>?_;simp only [go_sem,g1,g2,Hour.row,hk,k1];apply hK;clear hK K))
   simp only [go_sem,Hour.row]
theorem z1045 {S:List (List Hour)} {h:Int} {i:Nat} {l:List Hour} (hl:S[i]?=some l) (b:Hour) :
  (S.take (i + 1)).foldl (fun o l=>hullH o (hourAt l h)) b=hullH ((S.take i).foldl (fun o l=>hullH o (hourAt l h)) b) (hourAt l h):=z32 _ _ _ _ _ hl
theorem zf70 (F:List (List Hour)) (seen:List Sight) (h:Int) (hs:ForeSmall F) (hsl:seen.length<2 ^ 30) :
  Fn Tryz.prog 70 [.agg [.sl (scenRows F)],.sl (sightRows seen),.i h] (.tup [.agg (rangeF F seen h).1.row,.i (rangeF F seen h).2]):=by
 obtain ⟨t,ht⟩:∃ t,t=withinB h 0 ((hd0 F).length - 1):=⟨_,rfl⟩
 have h39:=z1081 F seen 0 t hs hsl
 have h52:=z372 h 0 ((hd0 F).length - 1)
 rw [← ht] at h52
 obtain ⟨e,he⟩:∃ e,e=lookF F seen 0 t:=⟨_,rfl⟩
 have hr:rangeF F seen h=if e=0 then (hullAll (scensOf (possL F seen)) h,0) else (noHour,e):=by rw [he,ht];rfl
 rw [hr]
 rw [← he] at h39
 have hF:=hs.scen
 -- how many hours there are
 have hhd:(hd0 F).length<2 ^ 30:=by
  cases F with
  | nil=>simp [hd0]
  | cons a l=>exact hs.hours a (by simp)
 have wH:IntKind.i64.wrap (((hd0 F).length:Int) - 1)=(hd0 F).length - 1:=z17 (by omega)
 refine z14 80 Tryz.call70 Tryz.func70 rfl (by decide) fun J=>?_
 simp only [go_sem,St.start,Tryz.ntmps70,Tryz.results70]
 repeat (first | refine nx ?_ | (refine z10 fun K hK=>?_;simp only [go_sem];apply hK;clear hK K))
 cases q1:decide ((F.length:Int) > 0)
 ·have hF0:F=[]:=by
   have:=of_decide_eq_false q1
   exact List.length_eq_zero_iff.1 (by omega)
  subst hF0
  have he50:e=50:=he
  have h0:¬ e=0:=by omega
  have wH1:IntKind.i64.wrap (-1)=-1:=z17 (by decide)
  have e2:(((hd0 ([]:List (List Hour))).length:Int) - 1)=-1:=rfl
  rw [e2] at h52
  rw [if_neg h0] at h39
  have hz:(e != 0)=true:=by simpa using h0
  repeat (first | refine z12 rfl ?_ | refine z11 rfl ?_ | refine nx ?_ | (refine z10 fun K hK=>?_;simp only [go_sem,q1];apply hK;clear hK K))
  refine z16 (by kernel_rfl) (by kernel_rfl) fun K hK=>?_
  simp only [go_sem,wH1]
  refine ⟨_,.fn (hf:=h52) (hd:=rfl) (hr:=.inr rfl),?_⟩
  simp only [go_sem]
  refine ⟨_,.fn (hf:=h39) (hd:=rfl) (hr:=.inr rfl),?_⟩
  simp only [go_sem]
  refine ⟨by kernel_rfl,hK _ ?_⟩
  clear hK K
  repeat (first | refine z12 rfl ?_ | refine z11 rfl ?_ | refine nx ?_ | (refine z10 fun K hK=>?_;simp only [go_sem,hz];apply hK;clear hK K))
  simp only [go_sem,noHour,Hour.row,if_neg h0]
  try rfl
 ·have hg0:(scenRows F)[0]?=some [.sl (hourRows (hd0 F))]:=z35 (z75 (by have:=of_decide_eq_true q1;omega))
  repeat (first | refine z12 rfl ?_ | refine z11 rfl ?_ | refine nx ?_ | (refine z10 fun K hK=>?_;simp only [go_sem,q1,hg0];apply hK;clear hK K))
  refine z16 (by kernel_rfl) (by kernel_rfl) fun K hK=>?_
  simp only [go_sem,wH]
  refine ⟨_,.fn (hf:=h52) (hd:=rfl) (hr:=.inr rfl),?_⟩
  simp only [go_sem]
  refine ⟨_,.fn (hf:=h39) (hd:=rfl) (hr:=.inr rfl),?_⟩
  simp only [go_sem]
  refine ⟨by kernel_rfl,hK _ ?_⟩
  clear hK K
  by_cases h0:e=0
  ·rw [if_pos h0,lookV] at *
   have hz:(e != 0)=false:=by simp [h0]
   rw [h0] at he
   obtain ⟨hgood,hsi,hne,hin⟩:ForeGood F∧sightsB (hd0 F).length seen=true∧possL F seen≠[]∧t=true:=by
    unfold lookF at he
    cases hb:badF F
    ·cases hq:sightsB (hd0 F).length seen
     ·rw [hb,hq] at he;simp at he
     ·cases t
      ·rw [hb,hq] at he;simp at he
      ·refine ⟨z156.1 hb,rfl,?_,rfl⟩
       intro hc
       rw [hb,hq,hc] at he
       simp at he
    ·rw [hb] at he;simp at he
   rw [hin] at ht
   have hwi:=z24.1 ht.symm
   obtain ⟨S,hS⟩:∃ S,S=scensOf (possL F seen):=⟨_,rfl⟩
   rw [← hS]
   have hlen:∀ l ∈ S,h.toNat<l.length:=fun l hl=>by
    rw [hS] at hl
    obtain ⟨x,hx,rfl⟩:=List.mem_map.1 hl
    obtain ⟨k,hk⟩:=List.getElem?_of_mem hx
    obtain ⟨l0,_,hl0,e1,_⟩:=z294 F 0 k x.1 x.2 hk
    rw [e1,z101,hgood.len l0 (List.mem_of_getElem? hl0)]
    omega
   have hSne:S≠[]:=fun hc=>hne (by rw [hS] at hc;exact List.map_eq_nil_iff.1 hc)
   have hSl:S.length≤F.length:=by rw [hS,scensOf,List.length_map];exact z79 _ _ _
   obtain ⟨s0,hs0⟩:∃ s0,S[0]?=some s0:=by
    cases S with
    | nil=>exact absurd rfl hSne
    | cons a l=>exact ⟨a,rfl⟩
   have ehd:hd0 S=s0:=by
    cases S with
    | nil=>exact absurd rfl hSne
    | cons a l=>simp at hs0;subst hs0;rfl
   have g0:=z35 hs0
   have k0:=hwi.1
   have g1:=z52 (z62 (l:=s0) (i:=h) ⟨hwi.1,hlen s0 (List.mem_of_getElem? hs0)⟩)
   have z39:hullAll S h=S.foldl (fun o l=>hullH o (hourAt l h)) (hourAt s0 h):=by unfold hullAll;rw [ehd]
   rw [z39]
   obtain ⟨b0,hb0⟩:∃ b0,b0=hourAt s0 h:=⟨_,rfl⟩
   rw [← hb0] at g1 ⊢
   repeat (first | refine z12 rfl ?_ | refine z11 rfl ?_ | refine nx ?_ | (refine z10 fun K hK=>?_;simp only [go_sem,hz,g0,g1,k0,Hour.row];apply hK;clear hK K))
   refine z15 (fun (i:Nat)=>[(54,.d (.i i)),(13,.undef),(14,.undef)]) (fun i=>[(11,some (.box (((S.take i).foldl (fun o l=>hullH o (hourAt l h)) b0).row.map AV.d)))]) (fun i=>i≤S.length) (fun i=>S.length - i) 0 ?_ (Nat.zero_le _) ?_
   ·simp only [go_sem,Hour.row,List.take_zero,List.foldl_nil,List.map_cons,List.map_nil]
    refine weA ?_ ?_ <;> simp
    all_goals first | done | rfl
   ·intro i hi
    obtain ⟨o,ho⟩:∃ o,o=(S.take i).foldl (fun o l=>hullH o (hourAt l h)) b0:=⟨_,rfl⟩
    rw [← ho]
    simp only [go_sem,Hour.row,List.map_cons,List.map_nil]
    repeat (first | refine nx ?_ | (refine z10 fun K hK=>?_;simp only [go_sem];apply hK;clear hK K))
    refine z13 rfl (fun hb=>?_) (fun hb=>?_)
    ·have hlt:i<S.length:=by simpa using hb
     have hw:IntKind.i64.wrap ((i:Int) + 1)=((i + 1:Nat):Int):=by rw [z17 (by omega)];simp
     obtain ⟨l,hx⟩:∃ l,S[i]?=some l:=⟨_,List.getElem?_eq_getElem hlt⟩
     have g3:=z35 hx
     have g4:=z52 (z62 (l:=l) (i:=h) ⟨hwi.1,hlen l (List.mem_of_getElem? hx)⟩)
     have hst:=z1045 (h:=h) hx b0
     rw [← ho] at hst
     obtain ⟨y,hy⟩:∃ y,y=hourAt l h:=⟨_,rfl⟩
     rw [← hy] at g4 hst
     have c1:=z1155 o.wind y.wind
     have c2:=z1155 o.rain y.rain
     have c3:=z1155 o.temp y.temp
     rw [Span.row,Span.row,Span.row] at c1 c2 c3
     repeat (first | refine nx ?_ | (refine z10 fun K hK=>?_;simp only [go_sem,g3,g4,k0,Hour.row];apply hK;clear hK K))
     refine z16 (by kernel_rfl) (by kernel_rfl) fun K hK=>?_
     simp only [go_sem]
     refine ⟨_,.fn (hf:=c1) (hd:=rfl) (hr:=.inl rfl),?_⟩
     simp only [go_sem]
     refine ⟨_,.fn (hf:=c2) (hd:=rfl) (hr:=.inl rfl),?_⟩
     simp only [go_sem]
     refine ⟨_,.fn (hf:=c3) (hd:=rfl) (hr:=.inl rfl),?_⟩
     simp only [go_sem]
     refine ⟨by kernel_rfl,hK _ ?_⟩
     clear hK K
     repeat (first | refine nx ?_ | (refine z10 fun K hK=>?_;simp only [go_sem,hw];apply hK;clear hK K))
     refine ⟨rfl,i + 1,?_,hlt,by omega⟩
     rw [hst]
     refine weA ?_ ?_ <;> simp
     all_goals first | done | rfl | simp [hullH,Hour.row]
    ·have he:i=S.length:=by (have:¬ i<S.length:=by simpa using hb);omega
     subst he
     rw [List.take_length] at ho
     rw [← ho]
     repeat (first | refine nx ?_ | (refine z10 fun K hK=>?_;simp only [go_sem];apply hK;clear hK K))
     simp only [go_sem,h0]
  ·rw [if_neg h0] at *
   have hz:(e != 0)=true:=by simpa using h0
   repeat (first | refine z12 rfl ?_ | refine z11 rfl ?_ | refine nx ?_ | (refine z10 fun K hK=>?_;simp only [go_sem,hz];apply hK;clear hK K))
   simp only [go_sem,noHour,Hour.row,if_neg h0]
   try rfl
end Go.Ab
namespace Go.Ab
open Go.RowKit Go.Proofs
set_option maxHeartbeats 4000000
set_option maxRecDepth 20000
attribute [local irreducible] WalkL Walk
def boolRows (l:List Bool):List (List DV):=l.map fun x=>[.bool x]
theorem z291 (l:List Bool):(boolRows l).length=l.length:=by simp [boolRows]
theorem z362 {l:List Bool} {i:Nat} {x:Bool} (h:l[i]?=some x):(boolRows l)[i]?=some [.bool x]:=by simp [boolRows,h]
theorem z542 (l:List Bool):headIs 1 (boolRows l)=true:=by cases l <;> rfl
theorem z160 (l:List Bool) (x:Bool):boolRows (l++[x])=boolRows l++[[.bool x]]:=by simp [boolRows]
def spanRows (l:List Span):List (List DV):=l.map Span.row
theorem z644 (l:List Span):(spanRows l).length=l.length:=by simp [spanRows]
theorem z326 {l:List Span} {i:Nat} {x:Span} (h:l[i]?=some x):(spanRows l)[i]?=some x.row:=by simp [spanRows,h]
theorem z516 (l:List Span):headIs 2 (spanRows l)=true:=by cases l <;> rfl
theorem z515 (l:List Span) (x:Span):spanRows (l++[x])=spanRows l++[x.row]:=by simp [spanRows]
theorem z84 (l:List Bool):rowsFlat (boolRows l):=z78 (by intro x d hd;simp at hd;subst hd;rfl) l
theorem z82 (l:List Span):rowsFlat (spanRows l):=z78 (by intro x d hd;simp [Span.row] at hd;rcases hd with rfl | rfl <;> rfl) l
attribute [go_sem] z291 z542 z644 z516
theorem zf75 (l:List Hour) (g:Nat) (a:DV) (q:Hour→Bool) (hq:∀ h ∈ l,Fn Tryz.prog g [a,.agg h.row] (.bool (q h))) (hl:l.length<2 ^ 30):Fn Tryz.prog 75 [.sl (hourRows l),.bnd g [a]] (.sl (boolRows (l.map q))):=by
 refine z14 21 Tryz.call75 Tryz.func75 rfl (by decide) fun J=>?_
 simp only [go_sem,St.start,Tryz.ntmps75,Tryz.results75]
 repeat (first | refine nx ?_ | (refine z10 fun K hK=>?_;simp only [go_sem];apply hK;clear hK K))
 refine z15 (fun (i:Nat)=>[(9,.d (.i i)),(4,.own 18)]) (fun i=>[(18,some (.arr 4 1 (boolRows ((l.take i).map q))))]) (fun i=>i≤l.length) (fun i=>l.length - i) 0 ?_ (Nat.zero_le _) ?_
 ·simp only [go_sem]
  refine z53 [18] ?_ ?_ rfl rfl <;> simp [lessT,lessM,lessB,AV.less]
  all_goals first | done | rfl
 ·intro i hi
  simp only [go_sem]
  repeat (first | refine nx ?_ | (refine z10 fun K hK=>?_;simp only [go_sem];apply hK;clear hK K))
  refine z13 rfl (fun hb=>?_) (fun hb=>?_)
  ·have hlt:i<l.length:=by simpa using hb
   have hw:IntKind.i64.wrap ((i:Int) + 1)=((i + 1:Nat):Int):=by rw [z17 (by omega)];simp
   obtain ⟨h,hx⟩:∃ h,l[i]?=some h:=⟨_,List.getElem?_eq_getElem hlt⟩
   have g1:=z52 hx
   have hq1:=hq h (List.mem_of_getElem? hx)
   rw [Hour.row] at hq1
   have htk:(l.take (i + 1)).map q=(l.take i).map q++[q h]:=by rw [List.take_add_one,hx];simp
   obtain ⟨A,hA⟩:∃ A,A=(l.take i).map q:=⟨_,rfl⟩
   have hAl:A.length=i:=by rw [hA];simp;omega
   have hn:A.length + 1≤549755813888:=by omega
   rw [← hA] at htk ⊢
   repeat (first | refine nx ?_ | (refine z10 fun K hK=>?_;simp only [go_sem,g1,Hour.row,hn,hw];(repeat (first | (refine ⟨_,.lent (hf:=hq1) (hd:=rfl) (hr:=rfl),?_⟩;simp only [go_sem,g1,Hour.row,hn,hw]) | (refine ⟨_,.given (hf:=hq1) (hd:=rfl) (ha:=rfl),?_⟩;simp only [go_sem,g1,Hour.row,hn,hw])));apply hK;clear hK K))
   refine ⟨rfl,i + 1,?_,hlt,by omega⟩
   rw [htk,z160]
   refine weA ?_ ?_ <;> simp
   all_goals first | done | rfl
  ·have he:i=l.length:=by (have:¬ i<l.length:=by simpa using hb);omega
   subst he
   rw [List.take_length]
   repeat (first | refine nx ?_ | (refine z10 fun K hK=>?_;simp only [go_sem];apply hK;clear hK K))
   simp only [go_sem]
def beginsFrom (n:Int):List Bool→Nat→Int→Int
 | [],_,_=>-1
 | b::l,i,run=>if (if b then run + 1 else 0)=n then (i:Int) + 1 - n else beginsFrom n l (i + 1) (if b then run + 1 else 0)
def beginsF (l:List Bool) (n:Int):Int:=beginsFrom n l 0 0
theorem zf74 (l:List Bool) (n:Int) (hn:1≤n∧n≤1000) (hl:l.length<2 ^ 30):Fn Tryz.prog 74 [.sl (boolRows l),.i n] (.i (beginsF l n)):=by
 obtain ⟨S,hS⟩:∃ S,S=beginsF l n:=⟨_,rfl⟩
 rw [← hS]
 refine z14 27 Tryz.call74 Tryz.func74 rfl (by decide) fun J=>?_
 simp only [go_sem,St.start,Tryz.ntmps74,Tryz.results74]
 repeat (first | refine nx ?_ | (refine z10 fun K hK=>?_;simp only [go_sem];apply hK;clear hK K))
 refine z15 (fun (a:Nat × Int)=>[(10,.d (.i a.1)),(5,.d (.i a.2)),(6,.undef),(7,.undef)]) (fun _=>[]) (fun a=>a.1≤l.length∧(0≤a.2∧a.2≤a.1)∧S=beginsFrom n (l.drop a.1) a.1 a.2) (fun a=>l.length - a.1) (0,0) ?_ ⟨Nat.zero_le _,⟨Int.le_refl _,Int.le_refl _⟩,hS⟩ ?_
 ·simp only [go_sem]
  refine weA ?_ ?_ <;> simp
  all_goals first | done | rfl
 ·rintro ⟨i,run⟩ ⟨hi,⟨r0,r1⟩,hs⟩
  dsimp only at hi r0 r1 hs
  simp only [go_sem]
  repeat (first | refine nx ?_ | (refine z10 fun K hK=>?_;simp only [go_sem];apply hK;clear hK K))
  refine z13 rfl (fun hb=>?_) (fun hb=>?_)
  ·have hlt:i<l.length:=by simpa using hb
   have hw:IntKind.i64.wrap ((i:Int) + 1)=((i + 1:Nat):Int):=by rw [z17 (by omega)];simp
   obtain ⟨b,hx⟩:∃ b,l[i]?=some b:=⟨_,List.getElem?_eq_getElem hlt⟩
   have g1:=z362 hx
   have wr1:IntKind.i64.wrap (run + 1)=run + 1:=z17 (by omega)
   have wr2:IntKind.i64.wrap ((i:Int) + 1 - n)=(i:Int) + 1 - n:=z17 (by omega)
   have hw':IntKind.i64.wrap ((i:Int) + 1)=(i:Int) + 1:=by rw [hw];omega
   rw [z30 hx,beginsFrom] at hs
   cases b
   ·have n0:¬ ((0:Int)=n):=by omega
    have n1:((0:Int) == n)=false:=by simp;omega
    simp only [Bool.false_eq_true,if_false,if_neg n0] at hs
    repeat (first | refine z12 rfl ?_ | refine z11 rfl ?_ | refine nx ?_ | (refine z10 fun K hK=>?_;simp only [go_sem,g1,wr1,n1,hw];apply hK;clear hK K))
    refine ⟨rfl,(i + 1,0),?_,⟨hlt,⟨Int.le_refl _,by dsimp only;omega⟩,hs⟩,by dsimp only;omega⟩
    refine weA ?_ ?_ <;> simp
    all_goals first | done | rfl
   ·simp only [if_true] at hs
    cases q:(run + 1 == n)
    ·have n0:¬ (run + 1=n):=by simpa using q
     rw [if_neg n0] at hs
     repeat (first | refine z12 rfl ?_ | refine z11 rfl ?_ | refine nx ?_ | (refine z10 fun K hK=>?_;simp only [go_sem,g1,wr1,q,hw];apply hK;clear hK K))
     refine ⟨rfl,(i + 1,run + 1),?_,⟨hlt,⟨by dsimp only;omega,by dsimp only;omega⟩,hs⟩,by dsimp only;omega⟩
     refine weA ?_ ?_ <;> simp
     all_goals first | done | rfl
    ·have n0:run + 1=n:=by simpa using q
     rw [if_pos n0] at hs
     rw [hs]
     repeat (first | refine z12 rfl ?_ | refine z11 rfl ?_ | refine nx ?_ | (refine z10 fun K hK=>?_;simp only [go_sem,g1,wr1,q,hw',wr2];apply hK;clear hK K))
     simp only [go_sem]
  ·have he:i=l.length:=by (have:¬ i<l.length:=by simpa using hb);omega
   subst he
   rw [List.drop_length,beginsFrom] at hs
   rw [hs]
   repeat (first | refine nx ?_ | (refine z10 fun K hK=>?_;simp only [go_sem];apply hK;clear hK K))
   simp only [go_sem]
def addSpan (l:List Span) (i:Int):List Span:=match l.getLast? with
 | some s=>if s.hi == i - 1 then l.dropLast++[⟨s.lo,i⟩] else l++[⟨i,i⟩]
 | none=>[⟨i,i⟩]
def spansQ (q:Nat→Bool):Nat→List Span
 | 0=>[]
 | n + 1=>if q n then addSpan (spansQ q n) (n:Int) else spansQ q n
theorem z251 (q:Nat→Bool):∀ n,(spansQ q n).length≤n
 | 0=>Nat.le_refl _
 | n + 1=>by
  have ih:=z251 q n
  rw [spansQ]
  split
  ·unfold addSpan
   split
   ·split
    ·rename_i h _
     have:(spansQ q n)≠[]:=fun hc=>by rw [hc] at h;simp at h
     have:=List.length_pos_iff.2 this
     simp
     omega
    ·simp;omega
   ·simp
  ·omega
theorem z454 {α:Type}:∀ (l:List α),l=[]∨∃ a x,l=a++[x]
 | []=>.inl rfl
 | x::l=>.inr ⟨(x::l).dropLast,(x::l).getLast (by simp),(List.dropLast_concat_getLast (by simp)).symm⟩
theorem z371 (A:List Span) (s:Span) (i:Int):addSpan (A++[s]) i=if s.hi == i - 1 then A++[⟨s.lo,i⟩] else A++[s]++[⟨i,i⟩]:=by
 unfold addSpan
 simp
theorem zf149 (n:Nat) (g:Nat) (caps:List DV) (q:Nat→Bool) (hq:∀ i,i<n→Fn Tryz.prog g (.i i::caps) (.bool (q i))) (hn:n<2 ^ 30):FnS Tryz.prog 149 [.i n,.fn g caps] 34 2 (spanRows (spansQ q n)):=by
 refine z132 45 Tryz.call149 Tryz.func149 rfl (by decide) fun J=>?_
 simp only [go_sem,St.start,Tryz.ntmps149,Tryz.results149]
 repeat (first | refine nx ?_ | (refine z10 fun K hK=>?_;simp only [go_sem];apply hK;clear hK K))
 refine z15 (fun (i:Nat)=>[(8,.d (.i i)),(4,.own 19),(5,.undef),(6,.undef),(20,.undef),(25,.undef)]) (fun i=>[(19,some (.arr 34 2 (spanRows (spansQ q i))))]) (fun i=>i≤n) (fun i=>n - i) 0 ?_ (Nat.zero_le _) ?_
 ·simp only [go_sem]
  refine z53 [19] ?_ ?_ rfl rfl <;> simp [lessT,lessM,lessB,AV.less]
  all_goals first | done | rfl
 ·intro i hi
  simp only [go_sem]
  repeat (first | refine nx ?_ | (refine z10 fun K hK=>?_;simp only [go_sem];apply hK;clear hK K))
  refine z13 rfl (fun hb=>?_) (fun hb=>?_)
  ·have hlt:i<n:=by simpa using hb
   have hw:IntKind.i64.wrap ((i:Int) + 1)=((i + 1:Nat):Int):=by rw [z17 (by omega)];simp
   have hq1:=hq i hlt
   have hlen:=z251 q i
   have e1:spansQ q (i + 1)=if q i then addSpan (spansQ q i) (i:Int) else spansQ q i:=rfl
   obtain ⟨L,hL⟩:∃ L,L=spansQ q i:=⟨_,rfl⟩
   rw [← hL] at e1 hlen ⊢
   have wi:IntKind.i64.wrap ((i:Int) - 1)=(i:Int) - 1:=z17 (by omega)
   have hn1:L.length + 1≤549755813888:=by omega
   rcases z454 L with hLe | ⟨A,s,hLe⟩
   ·subst hLe
    have e0:(([]:List Span).length:Int)=0:=rfl
    have wl:IntKind.i64.wrap (0 - 1)=-1:=z17 (by decide)
    repeat (first | refine nx ?_ | (refine z10 fun K hK=>?_;simp only [go_sem,wl];apply hK;clear hK K))
    refine z10 fun K hK=>?_
    simp only [go_sem]
    refine ⟨_,.lent (hf:=hq1) (hd:=z31 _ _ _ _ rfl) (hr:=rfl),?_⟩
    simp only [go_sem]
    apply hK
    clear hK K
    cases qi:q i
    ·rw [qi] at e1
     simp only [Bool.false_eq_true,if_false] at e1
     repeat (first | refine z12 rfl ?_ | refine z11 rfl ?_ | refine nx ?_ | (refine z10 fun K hK=>?_;simp only [go_sem,hw];apply hK;clear hK K))
     refine ⟨rfl,i + 1,?_,hlt,by omega⟩
     rw [e1]
     refine weA ?_ ?_ <;> simp
     all_goals first | done | rfl
    ·rw [qi] at e1
     simp only [if_true] at e1
     have d0:decide ((-1:Int) ≥ 0)=false:=by decide
     have e2:addSpan [] (i:Int)=[⟨i,i⟩]:=rfl
     rw [e2] at e1
     have e3:spanRows []=[]:=rfl
     repeat (first | refine z12 rfl ?_ | refine z11 rfl ?_ | refine nx ?_ | (refine z10 fun K hK=>?_;simp only [go_sem,d0,hw,hn1,e3,List.nil_append];apply hK;clear hK K))
     refine ⟨rfl,i + 1,?_,hlt,by omega⟩
     rw [e1]
     refine weA ?_ ?_ <;> simp
     all_goals first | done | rfl
   ·have hAl:L.length=A.length + 1:=by rw [hLe];simp
    have wl:IntKind.i64.wrap ((L.length:Int) - 1)=(A.length:Int):=by rw [z17 (by omega)];omega
    have g1:(spanRows L)[A.length]?=some s.row:=z326 (by rw [hLe];simp)
    have hA1:A.length<L.length:=by omega
    have d0:decide ((A.length:Int) ≥ 0)=true:=by simp
    repeat (first | refine nx ?_ | (refine z10 fun K hK=>?_;simp only [go_sem,wl];apply hK;clear hK K))
    refine z10 fun K hK=>?_
    simp only [go_sem]
    refine ⟨_,.lent (hf:=hq1) (hd:=z31 _ _ _ _ rfl) (hr:=rfl),?_⟩
    simp only [go_sem]
    apply hK
    clear hK K
    cases qi:q i
    ·rw [qi] at e1
     simp only [Bool.false_eq_true,if_false] at e1
     repeat (first | refine z12 rfl ?_ | refine z11 rfl ?_ | refine nx ?_ | (refine z10 fun K hK=>?_;simp only [go_sem,hw];apply hK;clear hK K))
     refine ⟨rfl,i + 1,?_,hlt,by omega⟩
     rw [e1]
     refine weA ?_ ?_ <;> simp
     all_goals first | done | rfl
    ·rw [qi] at e1
     simp only [if_true] at e1
     rw [hLe,z371] at e1
     cases q3:(s.hi == (i:Int) - 1)
     ·rw [q3] at e1
      simp only [Bool.false_eq_true,if_false] at e1
      rw [← hLe] at e1
      repeat (first | refine z12 rfl ?_ | refine z11 rfl ?_ | refine nx ?_ | (refine z10 fun K hK=>?_;simp only [go_sem,d0,g1,hA1,Span.row,wi,q3,hw,hn1];apply hK;clear hK K))
      refine ⟨rfl,i + 1,?_,hlt,by omega⟩
      rw [e1,z515]
      refine weA ?_ ?_ <;> simp
      all_goals first | done | rfl
     ·rw [q3] at e1
      simp only [if_true] at e1
      have e4:(spanRows L).set A.length [.i s.lo,.i (i:Int)]=spanRows (A++[⟨s.lo,i⟩]):=by rw [hLe];simp [spanRows,Span.row]
      repeat (first | refine z12 rfl ?_ | refine z11 rfl ?_ | refine nx ?_ | (refine z10 fun K hK=>?_;simp only [go_sem,d0,g1,hA1,Span.row,wi,q3,hw,hn1];apply hK;clear hK K))
      refine ⟨rfl,i + 1,?_,hlt,by omega⟩
      rw [e1,← e4]
      refine weA ?_ ?_ <;> simp
      all_goals first | done | rfl
  ·have he:i=n:=by (have:¬ i<n:=by simpa using hb);omega
   subst he
   repeat (first | refine nx ?_ | (refine z10 fun K hK=>?_;simp only [go_sem];apply hK;clear hK K))
   simp only [go_sem]
end Go.Ab
namespace Go.Ab
open Go.RowKit Go.Proofs
set_option maxHeartbeats 4000000
set_option maxRecDepth 20000
attribute [local irreducible] WalkL Walk
theorem z333 (m:List (Option Blk)) (x y:AV) (d e:DV) (caps:List DV) (h:reify m deep x=some d) (k:reify m deep y=some e):allSome ((x::y::caps.map AV.d).map (reify m deep))=some (d::e::caps):=by
 have:=z31 m y e caps k
 rw [List.map_cons,h]
 simp only [allSome,this,Option.map_some]
def outV (N:List Int) (S:List (List Hour)) (H:Nat):DV:=.ptr [.sl (intRows N),.sl (scenRows S),.i H] 0
theorem zf174 (s:List Hour) (g:Nat) (caps:List DV) (b:Bool) (hq:Fn Tryz.prog g (.sl (hourRows s)::caps) (.bool b)):Fn Tryz.prog 174 [.sl (hourRows s),.ptr [.fn g caps] 0] (.bool (!b)):=by
 refine z14 8 Tryz.call174 Tryz.func174 rfl (by decide) fun J=>?_
 simp only [go_sem,St.start,Tryz.ntmps174,Tryz.results174]
 repeat (first | refine nx ?_ | (refine z10 fun K hK=>?_;simp only [go_sem];apply hK;clear hK K))
 refine z10 fun K hK=>?_
 simp only [go_sem]
 refine ⟨_,.lent (hf:=hq) (hd:=z31 _ _ _ _ rfl) (hr:=rfl),?_⟩
 simp only [go_sem]
 apply hK
 clear hK K
 repeat (first | refine nx ?_ | (refine z10 fun K hK=>?_;simp only [go_sem];apply hK;clear hK K))
 simp only [go_sem]
theorem zf151 (xs:List (List Hour)) (g:Nat) (caps:List DV) (q:List Hour→Bool) (hq:∀ s ∈ xs,Fn Tryz.prog g (.sl (hourRows s)::caps) (.bool (q s))) (hl:xs.length<2 ^ 62):Fn Tryz.prog 151 [.sl (scenRows xs),.fn g caps] (.bool (xs.all q)):=by
 have h:=zf154 xs 174 [.ptr [.fn g caps] 0] (fun s=>!q s) (fun s hs=>zf174 s g caps (q s) (hq s hs)) hl
 refine z14 9 Tryz.call151 Tryz.func151 rfl (by decide) fun J=>?_
 simp only [go_sem,St.start,Tryz.ntmps151,Tryz.results151]
 repeat (first | refine nx ?_ | (refine z10 fun K hK=>?_;simp only [go_sem];(repeat (first | (refine ⟨_,.lent (hf:=h) (hd:=rfl) (hr:=rfl),?_⟩;simp only [go_sem]) | (refine ⟨_,.given (hf:=h) (hd:=rfl) (ha:=rfl),?_⟩;simp only [go_sem])));apply hK;clear hK K))
 simp only [go_sem,z164]
theorem zf152 (l:List Hour) (h:Int) (g:Nat) (caps:List DV) (b:Bool) (hq:Fn Tryz.prog g (.sl (hourRows l)::.i h::caps) (.bool b)):Fn Tryz.prog 152 [.sl (hourRows l),.ptr [.fn g caps] 0,.ptr [.i h] 0] (.bool b):=by
 refine z14 9 Tryz.call152 Tryz.func152 rfl (by decide) fun J=>?_
 simp only [go_sem,St.start,Tryz.ntmps152,Tryz.results152]
 repeat (first | refine nx ?_ | (refine z10 fun K hK=>?_;simp only [go_sem];apply hK;clear hK K))
 refine z10 fun K hK=>?_
 simp only [go_sem]
 refine ⟨_,.lent (hf:=hq) (hd:=z333 _ _ _ _ _ _ rfl rfl) (hr:=rfl),?_⟩
 simp only [go_sem]
 apply hK
 clear hK K
 repeat (first | refine nx ?_ | (refine z10 fun K hK=>?_;simp only [go_sem];apply hK;clear hK K))
 simp only [go_sem]
theorem zf155 (l:List Hour) (h:Int) (g:Nat) (caps:List DV) (b:Bool) (hq:Fn Tryz.prog g (.sl (hourRows l)::.i h::caps) (.bool b)):Fn Tryz.prog 155 [.sl (hourRows l),.ptr [.fn g caps] 0,.ptr [.i h] 0] (.bool b):=by
 refine z14 9 Tryz.call155 Tryz.func155 rfl (by decide) fun J=>?_
 simp only [go_sem,St.start,Tryz.ntmps155,Tryz.results155]
 repeat (first | refine nx ?_ | (refine z10 fun K hK=>?_;simp only [go_sem];apply hK;clear hK K))
 refine z10 fun K hK=>?_
 simp only [go_sem]
 refine ⟨_,.lent (hf:=hq) (hd:=z333 _ _ _ _ _ _ rfl rfl) (hr:=rfl),?_⟩
 simp only [go_sem]
 apply hK
 clear hK K
 repeat (first | refine nx ?_ | (refine z10 fun K hK=>?_;simp only [go_sem];apply hK;clear hK K))
 simp only [go_sem]
theorem zf150 (N:List Int) (S:List (List Hour)) (H:Nat) (h:Int) (g:Nat) (caps:List DV) (q:List Hour→Bool) (hq:∀ l ∈ S,Fn Tryz.prog g (.sl (hourRows l)::.i h::caps) (.bool (q l))) (hS:S.length<2 ^ 30) :
  Fn Tryz.prog 150 [.i h,.ptr [outV N S H] 0,.ptr [.fn g caps] 0] (.bool (S.all q)):=by
 have h79:=zf151 S 152 [.ptr [.fn g caps] 0,.ptr [.i h] 0] q (fun l hl=>zf152 l h g caps (q l) (hq l hl)) (by omega)
 refine z14 11 Tryz.call150 Tryz.func150 rfl (by decide) fun J=>?_
 simp only [go_sem,St.start,Tryz.ntmps150,Tryz.results150,outV]
 repeat (first | refine nx ?_ | (refine z10 fun K hK=>?_;simp only [go_sem];(repeat (first | (refine ⟨_,.lent (hf:=h79) (hd:=rfl) (hr:=rfl),?_⟩;simp only [go_sem]) | (refine ⟨_,.given (hf:=h79) (hd:=rfl) (ha:=rfl),?_⟩;simp only [go_sem])));apply hK;clear hK K))
 simp only [go_sem]
theorem zf153 (N:List Int) (S:List (List Hour)) (H:Nat) (h:Int) (g:Nat) (caps:List DV) (q:List Hour→Bool) (hq:∀ l ∈ S,Fn Tryz.prog g (.sl (hourRows l)::.i h::caps) (.bool (q l))) (hS:S.length<2 ^ 30) :
  Fn Tryz.prog 153 [.i h,.ptr [outV N S H] 0,.ptr [.fn g caps] 0] (.bool (S.any q)):=by
 have h82:=zf154 S 155 [.ptr [.fn g caps] 0,.ptr [.i h] 0] q (fun l hl=>zf155 l h g caps (q l) (hq l hl)) (by omega)
 refine z14 11 Tryz.call153 Tryz.func153 rfl (by decide) fun J=>?_
 simp only [go_sem,St.start,Tryz.ntmps153,Tryz.results153,outV]
 repeat (first | refine nx ?_ | (refine z10 fun K hK=>?_;simp only [go_sem];(repeat (first | (refine ⟨_,.lent (hf:=h82) (hd:=rfl) (hr:=rfl),?_⟩;simp only [go_sem]) | (refine ⟨_,.given (hf:=h82) (hd:=rfl) (ha:=rfl),?_⟩;simp only [go_sem])));apply hK;clear hK K))
 simp only [go_sem]
theorem zf113 (N:List Int) (S:List (List Hour)) (H:Nat) (g:Nat) (caps:List DV) (q:List Hour→Nat→Bool) (hq:∀ l ∈ S,∀ i,i<H→Fn Tryz.prog g (.sl (hourRows l)::.i i::caps) (.bool (q l i))) (hS:S.length<2 ^ 30) (hH:H<2 ^ 30) :
  FnS Tryz.prog 113 [outV N S H,.fn g caps] 34 2 (spanRows (spansQ (fun i=>S.all fun l=>q l i) H)):=by
 have h68:=zf149 H 150 [.ptr [outV N S H] 0,.ptr [.fn g caps] 0] (fun i=>S.all fun l=>q l i) (fun i hi=>zf150 N S H i g caps (fun l=>q l i) (fun l hl=>hq l hl i hi) hS) hH
 rw [outV] at h68
 refine z132 11 Tryz.call113 Tryz.func113 rfl (by decide) fun J=>?_
 simp only [go_sem,St.start,Tryz.ntmps113,Tryz.results113,outV]
 repeat (first | refine nx ?_ | (refine z10 fun K hK=>?_;simp only [go_sem];apply hK;clear hK K))
 refine z10 fun K hK=>?_
 simp only [go_sem]
 refine ⟨_,.lentS (hdst:=rfl) (hf:=h68) (hd:=rfl) (hr:=by first | exact z33 _ | exact z83 _ | exact z74 _ | exact z98 _ | exact z82 _ | exact z84 _) (hfr:=rfl),?_⟩
 simp only [go_sem]
 apply hK
 clear hK K
 repeat (first | refine nx ?_ | (refine z10 fun K hK=>?_;simp only [go_sem];apply hK;clear hK K))
 simp only [go_sem]
theorem zf115 (N:List Int) (S:List (List Hour)) (H:Nat) (g:Nat) (caps:List DV) (q:List Hour→Nat→Bool) (hq:∀ l ∈ S,∀ i,i<H→Fn Tryz.prog g (.sl (hourRows l)::.i i::caps) (.bool (q l i))) (hS:S.length<2 ^ 30) (hH:H<2 ^ 30) :
  FnS Tryz.prog 115 [outV N S H,.fn g caps] 34 2 (spanRows (spansQ (fun i=>S.any fun l=>q l i) H)):=by
 have h68:=zf149 H 153 [.ptr [outV N S H] 0,.ptr [.fn g caps] 0] (fun i=>S.any fun l=>q l i) (fun i hi=>zf153 N S H i g caps (fun l=>q l i) (fun l hl=>hq l hl i hi) hS) hH
 rw [outV] at h68
 refine z132 11 Tryz.call115 Tryz.func115 rfl (by decide) fun J=>?_
 simp only [go_sem,St.start,Tryz.ntmps115,Tryz.results115,outV]
 repeat (first | refine nx ?_ | (refine z10 fun K hK=>?_;simp only [go_sem];apply hK;clear hK K))
 refine z10 fun K hK=>?_
 simp only [go_sem]
 refine ⟨_,.lentS (hdst:=rfl) (hf:=h68) (hd:=rfl) (hr:=by first | exact z33 _ | exact z83 _ | exact z74 _ | exact z98 _ | exact z82 _ | exact z84 _) (hfr:=rfl),?_⟩
 simp only [go_sem]
 apply hK
 clear hK K
 repeat (first | refine nx ?_ | (refine z10 fun K hK=>?_;simp only [go_sem];apply hK;clear hK K))
 simp only [go_sem]
theorem z190 {F:List (List Hour)} {seen:List Sight} {err:Int} {told:Bool} (h:lookF F seen err told=0):ForeGood F∧sightsB (hd0 F).length seen=true∧possL F seen≠[]∧err=0∧told=true:=by
 unfold lookF at h
 cases hb:badF F
 ·cases hq:sightsB (hd0 F).length seen
  ·rw [hb,hq] at h;simp at h
  ·rw [hb,hq] at h
   simp only [Bool.false_eq_true,if_false,if_true] at h
   by_cases he:err=0
   ·rw [if_pos he] at h
    cases told
    ·simp at h
    ·simp only [if_true] at h
     refine ⟨z156.1 hb,rfl,?_,he,rfl⟩
     intro hc
     rw [hc] at h
     simp at h
   ·rw [if_neg he] at h
    exact absurd h he
 ·rw [hb] at h;simp at h
theorem z329 {F:List (List Hour)} {seen:List Sight} (hg:ForeGood F):∀ s ∈ scensOf (possL F seen),s.length=(hd0 F).length:=fun s hs=>by
 obtain ⟨x,hx,rfl⟩:=List.mem_map.1 hs
 obtain ⟨k,hk⟩:=List.getElem?_of_mem hx
 obtain ⟨l0,_,hl0,e1,_⟩:=z294 F 0 k x.1 x.2 hk
 rw [e1,z101,hg.len l0 (List.mem_of_getElem? hl0)]
theorem z328 {F:List (List Hour)} {seen:List Sight}:(scensOf (possL F seen)).length≤F.length:=by rw [scensOf,List.length_map];exact z79 _ _ _
theorem z1036 (F:List (List Hour)) (seen:List Sight):lookV F seen=outV (numsOf (possL F seen)) (scensOf (possL F seen)) (hd0 F).length:=rfl
def keepsF (F:List (List Hour)) (seen:List Sight) (l:Limits):List Span × List Span × Int :=
 if lookF F seen (limE l) true=0 then (spansQ (fun i=>(scensOf (possL F seen)).all fun s=>alwaysB l (hourAt s (i:Int))) (hd0 F).length,spansQ (fun i=>(scensOf (possL F seen)).any fun s=>everB l (hourAt s (i:Int))) (hd0 F).length,0) else ([],[],lookF F seen (limE l) true)
theorem zf71 (F:List (List Hour)) (seen:List Sight) (l:Limits) (hs:ForeSmall F) (hsl:seen.length<2 ^ 30) :
  Fn Tryz.prog 71 [.agg [.sl (scenRows F)],.sl (sightRows seen),.agg l.row] (.tup [.sl (spanRows (keepsF F seen l).1),.sl (spanRows (keepsF F seen l).2.1),.i (keepsF F seen l).2.2]):=by
 have h40:=zf112 l
 have h39:=z1081 F seen (limE l) true hs hsl
 obtain ⟨le,hle⟩:∃ e,e=limE l:=⟨_,rfl⟩
 obtain ⟨e,he⟩:∃ e,e=lookF F seen (limE l) true:=⟨_,rfl⟩
 unfold keepsF
 rw [← he] at h39 ⊢
 rw [← hle] at h39 h40
 by_cases h0:e=0
 ·rw [if_pos h0,z1036] at h39
  rw [if_pos h0]
  have hz:(e != 0)=false:=by simp [h0]
  rw [h0] at he
  obtain ⟨hg,hsi,hne,_,_⟩:=z190 he.symm
  have z39:=z329 (seen:=seen) hg
  have hSl:=z328 (F:=F) (seen:=seen)
  have hH:=hg.hours
  have hF:=hg.scen
  obtain ⟨N,hN⟩:∃ N,N=numsOf (possL F seen):=⟨_,rfl⟩
  obtain ⟨S,hS⟩:∃ S,S=scensOf (possL F seen):=⟨_,rfl⟩
  obtain ⟨H,hHe⟩:∃ H,H=(hd0 F).length:=⟨_,rfl⟩
  rw [← hN,← hS,← hHe] at h39
  rw [← hS] at z39 hSl
  rw [← hHe] at z39 hH
  have h41:=zf113 N S H 114 [.ptr l.row 0] (fun s i=>alwaysB l (hourAt s (i:Int))) (fun s hs i hi=>zf114 l s i _ (z62 (i:=(i:Int)) ⟨by omega,by rw [z39 s hs];omega⟩)) (by omega) (by omega)
  have h44:=zf115 N S H 116 [.ptr l.row 0] (fun s i=>everB l (hourAt s (i:Int))) (fun s hs i hi=>zf116 l s i _ (z62 (i:=(i:Int)) ⟨by omega,by rw [z39 s hs];omega⟩)) (by omega) (by omega)
  rw [← hS,← hHe]
  obtain ⟨A,hA⟩:∃ A,A=spansQ (fun i=>S.all fun s=>alwaysB l (hourAt s (i:Int))) H:=⟨_,rfl⟩
  obtain ⟨B,hB⟩:∃ B,B=spansQ (fun i=>S.any fun s=>everB l (hourAt s (i:Int))) H:=⟨_,rfl⟩
  rw [← hA] at h41
  rw [← hB] at h44
  rw [← hA,← hB]
  rw [outV] at h39 h41 h44
  rw [Limits.row] at h40 h41 h44
  refine z14 31 Tryz.call71 Tryz.func71 rfl (by decide) fun J=>?_
  simp only [go_sem,St.start,Tryz.ntmps71,Tryz.results71,Limits.row]
  repeat (first | refine nx ?_ | (refine z10 fun K hK=>?_;simp only [go_sem];apply hK;clear hK K))
  refine z16 (by kernel_rfl) (by kernel_rfl) fun K hK=>?_
  simp only [go_sem]
  refine ⟨_,.fn (hf:=h40) (hd:=rfl) (hr:=.inr rfl),?_⟩
  simp only [go_sem]
  refine ⟨_,.fn (hf:=h39) (hd:=rfl) (hr:=.inr rfl),?_⟩
  simp only [go_sem]
  refine ⟨by kernel_rfl,hK _ ?_⟩
  clear hK K
  repeat (first | refine z12 rfl ?_ | refine z11 rfl ?_ | refine nx ?_ | (refine z10 fun K hK=>?_;simp only [go_sem,hz];apply hK;clear hK K))
  refine z10 fun K hK=>?_
  simp only [go_sem]
  refine ⟨_,.lentS (hdst:=rfl) (hf:=h41) (hd:=rfl) (hr:=by first | exact z33 _ | exact z83 _ | exact z74 _ | exact z98 _ | exact z82 _ | exact z84 _) (hfr:=rfl),?_⟩
  simp only [go_sem]
  refine ⟨_,.lentS (hdst:=rfl) (hf:=h44) (hd:=rfl) (hr:=by first | exact z33 _ | exact z83 _ | exact z74 _ | exact z98 _ | exact z82 _ | exact z84 _) (hfr:=rfl),?_⟩
  simp only [go_sem]
  apply hK
  clear hK K
  repeat (first | refine nx ?_ | (refine z10 fun K hK=>?_;simp only [go_sem];apply hK;clear hK K))
  simp only [go_sem]
 ·rw [if_neg h0] at h39
  rw [if_neg h0]
  have hz:(e != 0)=true:=by simpa using h0
  rw [Limits.row] at h40
  have e3:spanRows []=[]:=rfl
  refine z14 31 Tryz.call71 Tryz.func71 rfl (by decide) fun J=>?_
  simp only [go_sem,St.start,Tryz.ntmps71,Tryz.results71,Limits.row]
  repeat (first | refine nx ?_ | (refine z10 fun K hK=>?_;simp only [go_sem];apply hK;clear hK K))
  refine z16 (by kernel_rfl) (by kernel_rfl) fun K hK=>?_
  simp only [go_sem]
  refine ⟨_,.fn (hf:=h40) (hd:=rfl) (hr:=.inr rfl),?_⟩
  simp only [go_sem]
  refine ⟨_,.fn (hf:=h39) (hd:=rfl) (hr:=.inr rfl),?_⟩
  simp only [go_sem]
  refine ⟨by kernel_rfl,hK _ ?_⟩
  clear hK K
  repeat (first | refine z12 rfl ?_ | refine z11 rfl ?_ | refine nx ?_ | (refine z10 fun K hK=>?_;simp only [go_sem,hz];apply hK;clear hK K))
  simp only [go_sem,e3]
  try rfl
end Go.Ab
namespace Go.Ab
open Go.RowKit Go.Proofs
set_option maxHeartbeats 8000000
set_option maxRecDepth 20000
attribute [local irreducible] WalkL Walk
theorem zf73 (F:List (List Hour)) (seen:List Sight) (l:Limits) (n:Int) (hs:ForeSmall F) (hsl:seen.length<2 ^ 30) :
  Fn Tryz.prog 73 [.agg [.sl (scenRows F)],.sl (sightRows seen),.agg l.row,.i n]
   (.tup [if lookF F seen (limE l) (withinB n 1 48)=0 then lookV F seen else .nilptr,.i (lookF F seen (limE l) (withinB n 1 48))]):=by
 have h40:=zf112 l
 have h52:=z372 n 1 48
 have h39:=z1081 F seen (limE l) (withinB n 1 48) hs hsl
 obtain ⟨le,hle⟩:∃ e,e=limE l:=⟨_,rfl⟩
 obtain ⟨w,hw⟩:∃ e,e=withinB n 1 48:=⟨_,rfl⟩
 rw [← hle,← hw] at h39 ⊢
 rw [← hle] at h40
 rw [← hw] at h52
 obtain ⟨e,he⟩:∃ e,e=lookF F seen le w:=⟨_,rfl⟩
 rw [← he] at h39 ⊢
 rw [Limits.row] at h40
 by_cases h0:e=0
 ·rw [if_pos h0,lookV] at h39
  rw [if_pos h0,lookV]
  refine z14 20 Tryz.call73 Tryz.func73 rfl (by decide) fun J=>?_
  simp only [go_sem,St.start,Tryz.ntmps73,Tryz.results73,Limits.row]
  repeat (first | refine nx ?_ | (refine z10 fun K hK=>?_;simp only [go_sem];apply hK;clear hK K))
  refine z16 (by kernel_rfl) (by kernel_rfl) fun K hK=>?_
  simp only [go_sem]
  refine ⟨_,.fn (hf:=h40) (hd:=rfl) (hr:=.inr rfl),?_⟩
  simp only [go_sem]
  refine ⟨_,.fn (hf:=h52) (hd:=rfl) (hr:=.inr rfl),?_⟩
  simp only [go_sem]
  refine ⟨_,.fn (hf:=h39) (hd:=rfl) (hr:=.inr rfl),?_⟩
  simp only [go_sem]
  refine ⟨by kernel_rfl,hK _ ?_⟩
  clear hK K
  repeat (first | refine nx ?_ | (refine z10 fun K hK=>?_;simp only [go_sem];apply hK;clear hK K))
  simp only [go_sem]
 ·rw [if_neg h0] at h39
  rw [if_neg h0]
  refine z14 20 Tryz.call73 Tryz.func73 rfl (by decide) fun J=>?_
  simp only [go_sem,St.start,Tryz.ntmps73,Tryz.results73,Limits.row]
  repeat (first | refine nx ?_ | (refine z10 fun K hK=>?_;simp only [go_sem];apply hK;clear hK K))
  refine z16 (by kernel_rfl) (by kernel_rfl) fun K hK=>?_
  simp only [go_sem]
  refine ⟨_,.fn (hf:=h40) (hd:=rfl) (hr:=.inr rfl),?_⟩
  simp only [go_sem]
  refine ⟨_,.fn (hf:=h52) (hd:=rfl) (hr:=.inr rfl),?_⟩
  simp only [go_sem]
  refine ⟨_,.fn (hf:=h39) (hd:=rfl) (hr:=.inr rfl),?_⟩
  simp only [go_sem]
  refine ⟨by kernel_rfl,hK _ ?_⟩
  clear hK K
  repeat (first | refine nx ?_ | (refine z10 fun K hK=>?_;simp only [go_sem];apply hK;clear hK K))
  simp only [go_sem]
def winFirst (l:Limits) (n:Int) (S:List (List Hour)) (H:Int):Int:=S.foldl (fun f s=>if decide (beginsF (s.map (everB l)) n ≥ 0) then min f (beginsF (s.map (everB l)) n) else f) H
def winLast (l:Limits) (n:Int) (S:List (List Hour)):Int:=S.foldl (fun a s=>max a (beginsF (s.map (alwaysB l)) n)) (-1)
def winNever (l:Limits) (n:Int) (S:List (List Hour)):Bool:=S.any fun s=>decide (beginsF (s.map (alwaysB l)) n<0)
def windowF (F:List (List Hour)) (seen:List Sight) (l:Limits) (n:Int):Int × Int × Int :=
 if lookF F seen (limE l) (withinB n 1 48)=0 then
  (if winFirst l n (scensOf (possL F seen)) (hd0 F).length=(hd0 F).length then -1 else winFirst l n (scensOf (possL F seen)) (hd0 F).length,if winNever l n (scensOf (possL F seen)) then -1 else winLast l n (scensOf (possL F seen)),0)
 else (0,0,lookF F seen (limE l) (withinB n 1 48))
theorem zf40 (F:List (List Hour)) (seen:List Sight) (l:Limits) (n:Int) (hs:ForeSmall F) (hsl:seen.length<2 ^ 30) :
  Fn Tryz.prog 40 [.agg [.sl (scenRows F)],.sl (sightRows seen),.agg l.row,.i n] (.tup [.i (windowF F seen l n).1,.i (windowF F seen l n).2.1,.i (windowF F seen l n).2.2]):=by
 have h47:=zf73 F seen l n hs hsl
 obtain ⟨e,he⟩:∃ e,e=lookF F seen (limE l) (withinB n 1 48):=⟨_,rfl⟩
 unfold windowF
 rw [← he] at h47 ⊢
 by_cases h0:e=0
 ·rw [if_pos h0,lookV] at h47
  rw [if_pos h0]
  have hz:(e != 0)=false:=by simp [h0]
  rw [h0] at he
  obtain ⟨hg,hsi,hne,_,hn⟩:=z190 he.symm
  have hn:=z24.1 hn
  have z39:=z329 (seen:=seen) hg
  have hSl:=z328 (F:=F) (seen:=seen)
  have hH:=hg.hours
  have hF:=hg.scen
  obtain ⟨N,hN⟩:∃ N,N=numsOf (possL F seen):=⟨_,rfl⟩
  obtain ⟨S,hS⟩:∃ S,S=scensOf (possL F seen):=⟨_,rfl⟩
  obtain ⟨H,hHe⟩:∃ H,H=(hd0 F).length:=⟨_,rfl⟩
  rw [← hN,← hS,← hHe] at h47
  rw [← hS,← hHe]
  rw [← hS] at z39 hSl
  rw [← hHe] at z39 hH
  rw [Limits.row] at h47
  obtain ⟨A,hA⟩:∃ A,A=winFirst l n S H:=⟨_,rfl⟩
  obtain ⟨B,hB⟩:∃ B,B=winLast l n S:=⟨_,rfl⟩
  obtain ⟨C,hC⟩:∃ C,C=winNever l n S:=⟨_,rfl⟩
  rw [← hA,← hB,← hC]
  refine z14 79 Tryz.call40 Tryz.func40 rfl (by decide) fun J=>?_
  simp only [go_sem,St.start,Tryz.ntmps40,Tryz.results40,Limits.row]
  repeat (first | refine z12 rfl ?_ | refine z11 rfl ?_ | refine nx ?_ | (refine z10 fun K hK=>?_;simp only [go_sem,hz];(repeat (first | (refine ⟨_,.lent (hf:=h47) (hd:=rfl) (hr:=rfl),?_⟩;simp only [go_sem,hz]) | (refine ⟨_,.given (hf:=h47) (hd:=rfl) (ha:=rfl),?_⟩;simp only [go_sem,hz])));apply hK;clear hK K))
  refine z15 (fun (i:Nat)=>[(40,.d (.i i)),(8,.d (.i (winFirst l n (S.take i) H))),(9,.d (.i (winLast l n (S.take i)))),(13,.d (.bool (winNever l n (S.take i))))]) (fun _=>[]) (fun i=>i≤S.length) (fun i=>S.length - i) 0 ?_ (Nat.zero_le _) ?_
  ·simp only [go_sem]
   refine weA ?_ ?_ <;> simp
   all_goals first | done | rfl | exact ⟨rfl,rfl⟩ | exact ⟨rfl,rfl,rfl⟩
  ·intro i hi
   obtain ⟨a,ha⟩:∃ a,a=winFirst l n (S.take i) H:=⟨_,rfl⟩
   obtain ⟨b,hb0⟩:∃ b,b=winLast l n (S.take i):=⟨_,rfl⟩
   obtain ⟨c,hc0⟩:∃ c,c=winNever l n (S.take i):=⟨_,rfl⟩
   rw [← ha,← hb0,← hc0]
   simp only [go_sem]
   repeat (first | refine nx ?_ | (refine z10 fun K hK=>?_;simp only [go_sem];apply hK;clear hK K))
   refine z13 rfl (fun hb=>?_) (fun hb=>?_)
   ·have hlt:i<S.length:=by simpa using hb
    have hw:IntKind.i64.wrap ((i:Int) + 1)=((i + 1:Nat):Int):=by rw [z17 (by omega)];simp
    obtain ⟨s,hx⟩:∃ s,S[i]?=some s:=⟨_,List.getElem?_eq_getElem hlt⟩
    have g1:=z35 hx
    have hsH:=z39 s (List.mem_of_getElem? hx)
    have c1:=zf75 s 76 (.agg l.row) (everB l) (fun h _=>zf76 l h) (by omega)
    have c2:=zf75 s 77 (.agg l.row) (alwaysB l) (fun h _=>zf77 l h) (by omega)
    have c3:=zf74 (s.map (everB l)) n ⟨by omega,by omega⟩ (by simp;omega)
    have c4:=zf74 (s.map (alwaysB l)) n ⟨by omega,by omega⟩ (by simp;omega)
    have n1:winFirst l n (S.take (i + 1)) H=if decide (beginsF (s.map (everB l)) n ≥ 0) then min a (beginsF (s.map (everB l)) n) else a:=by rw [ha];exact z32 _ _ _ _ _ hx
    have n2:winLast l n (S.take (i + 1))=max b (beginsF (s.map (alwaysB l)) n):=by rw [hb0];exact z32 _ _ _ _ _ hx
    have n3:winNever l n (S.take (i + 1))=(c || decide (beginsF (s.map (alwaysB l)) n<0)):=by
     rw [hc0];unfold winNever;rw [List.take_add_one,hx];simp
    obtain ⟨x,hx1⟩:∃ x,x=beginsF (s.map (everB l)) n:=⟨_,rfl⟩
    obtain ⟨y,hy1⟩:∃ y,y=beginsF (s.map (alwaysB l)) n:=⟨_,rfl⟩
    rw [← hx1] at c3 n1
    rw [← hy1] at c4 n2 n3
    rw [Limits.row] at c1 c2
    cases qx:decide (x ≥ 0) <;> cases c
    all_goals
     rw [qx] at n1
     simp only [Bool.false_eq_true,if_false,if_true,Bool.false_or,Bool.true_or] at n1 n3
     repeat (first | refine z12 rfl ?_ | refine z11 rfl ?_ | refine nx ?_ | (refine z10 fun K hK=>?_;simp only [go_sem,g1,qx,hw];(repeat (first | (refine ⟨_,.lent (hf:=c1) (hd:=rfl) (hr:=rfl),?_⟩;simp only [go_sem,g1,qx,hw]) | (refine ⟨_,.lent (hf:=c3) (hd:=rfl) (hr:=rfl),?_⟩;simp only [go_sem,g1,qx,hw]) | (refine ⟨_,.lent (hf:=c2) (hd:=rfl) (hr:=rfl),?_⟩;simp only [go_sem,g1,qx,hw]) | (refine ⟨_,.lent (hf:=c4) (hd:=rfl) (hr:=rfl),?_⟩;simp only [go_sem,g1,qx,hw]) | (refine ⟨_,.given (hf:=c1) (hd:=rfl) (ha:=rfl),?_⟩;simp only [go_sem,g1,qx,hw]) | (refine ⟨_,.given (hf:=c3) (hd:=rfl) (ha:=rfl),?_⟩;simp only [go_sem,g1,qx,hw]) | (refine ⟨_,.given (hf:=c2) (hd:=rfl) (ha:=rfl),?_⟩;simp only [go_sem,g1,qx,hw]) | (refine ⟨_,.given (hf:=c4) (hd:=rfl) (ha:=rfl),?_⟩;simp only [go_sem,g1,qx,hw])));apply hK;clear hK K))
     refine ⟨rfl,i + 1,?_,hlt,by omega⟩
     rw [n1,n2,n3]
     refine weA ?_ ?_ <;> simp
     all_goals first | done | rfl | exact ⟨rfl,rfl⟩ | exact ⟨rfl,rfl,rfl⟩
   ·have he:i=S.length:=by (have:¬ i<S.length:=by simpa using hb);omega
    subst he
    rw [List.take_length,← hA] at ha
    rw [List.take_length,← hB] at hb0
    rw [List.take_length,← hC] at hc0
    subst ha hb0 hc0
    cases qa:(a == (H:Int)) <;> cases c
    all_goals
     have qa':(a=(H:Int))=((a == (H:Int))=true):=by simp
     repeat (first | refine z12 rfl ?_ | refine z11 rfl ?_ | refine nx ?_ | (refine z10 fun K hK=>?_;simp only [go_sem,qa];apply hK;clear hK K))
     simp only [go_sem,qa',qa,h0,Bool.false_eq_true,if_false,if_true]
 ·rw [if_neg h0] at h47
  rw [if_neg h0]
  have hz:(e != 0)=true:=by simpa using h0
  rw [Limits.row] at h47
  refine z14 79 Tryz.call40 Tryz.func40 rfl (by decide) fun J=>?_
  simp only [go_sem,St.start,Tryz.ntmps40,Tryz.results40,Limits.row]
  repeat (first | refine z12 rfl ?_ | refine z11 rfl ?_ | refine nx ?_ | (refine z10 fun K hK=>?_;simp only [go_sem,hz];(repeat (first | (refine ⟨_,.lent (hf:=h47) (hd:=rfl) (hr:=rfl),?_⟩;simp only [go_sem,hz]) | (refine ⟨_,.given (hf:=h47) (hd:=rfl) (ha:=rfl),?_⟩;simp only [go_sem,hz])));apply hK;clear hK K))
  simp only [go_sem]
  try rfl
def gapAt (b:List Bool) (n:Int) (k:Nat):Int:=if decide (beginsF (b.drop k) n ≥ 0) then beginsF (b.drop k) n + n - 1 else (b.length:Int) - k
def gapTo (b:List Bool) (n:Int):Nat→Int→Int
 | 0,g=>g
 | k + 1,g=>max (gapTo b n k g) (gapAt b n k)
def gapS (l:Limits) (n:Int) (S:List (List Hour)):Int:=S.foldl (fun g s=>gapTo (s.map (alwaysB l)) n s.length g) 0
def gapF (F:List (List Hour)) (seen:List Sight) (l:Limits) (n:Int):Int × Int :=
 if lookF F seen (limE l) (withinB n 1 48)=0 then (gapS l n (scensOf (possL F seen)),0) else (0,lookF F seen (limE l) (withinB n 1 48))
end Go.Ab
namespace Go.Ab
open Go.RowKit Go.Proofs
set_option maxHeartbeats 8000000
set_option maxRecDepth 20000
attribute [local irreducible] WalkL Walk
def inSpans (l:List Span) (n:Int):Bool:=l.any fun s=>withinB n s.lo s.hi
end Go.Ab
namespace Go.Ab
open Go.RowKit Go.Proofs
set_option maxHeartbeats 8000000
set_option maxRecDepth 20000
attribute [local irreducible] WalkL Walk
end Go.Ab
namespace Go.Ab
open Go.RowKit Go.Proofs
set_option maxHeartbeats 4000000
set_option maxRecDepth 20000
structure RealX where
 seen:List Sight
 skies:List Sky
 lim:Limits
 len:Int
def RealX.cells (x:RealX):List DV:=[.sl (sightRows x.seen),.sl (skyRows x.skies),.i x.lim.wind,.i x.lim.rain,.i x.lim.temp.lo,.i x.lim.temp.hi,.i x.len]
structure EaseX where
 sight:Sight
 wind:Int
 rain:Int
 temp:Int
 less:Int
def EaseX.cells (y:EaseX):List DV:=[.i y.sight.hour,.i y.sight.sky.wind,.i y.sight.sky.rain,.i y.sight.sky.temp,.i y.wind,.i y.rain,.i y.temp,.i y.less]
theorem z987 {A:List Span} {n:Nat} (hA:∀ s ∈ A,0≤s.lo∧s.lo≤s.hi∧s.hi<(n:Int)):∀ s ∈ addSpan A (n:Int),0≤s.lo∧s.lo≤s.hi∧s.hi<((n + 1:Nat):Int):=by
 rcases z454 A with rfl | ⟨B,s,rfl⟩
 ·intro x hx
  simp only [addSpan,List.getLast?_nil,List.mem_singleton] at hx
  subst hx
  dsimp only
  omega
 ·rw [z371]
  have hs:=hA s (by simp)
  intro x hx
  split at hx
  ·rcases List.mem_append.1 hx with hx | hx
   ·have:=hA x (by simp [hx]);omega
   ·simp only [List.mem_singleton] at hx
    subst hx
    dsimp only
    omega
  ·rcases List.mem_append.1 hx with hx | hx
   ·have:=hA x hx;omega
   ·simp only [List.mem_singleton] at hx
    subst hx
    dsimp only
    omega
theorem z643 (q:Nat→Bool):∀ n,∀ s ∈ spansQ q n,0≤s.lo∧s.lo≤s.hi∧s.hi<(n:Int)
 | 0=>fun s hs=>by simp [spansQ] at hs
 | n + 1=>by
  have ih:=z643 q n
  rw [spansQ]
  split
  ·exact z987 ih
  ·intro s hs
   have:=ih s hs
   omega
theorem z348 {s:Sky} {h:Hour}:insideB s h=true↔(h.wind.lo≤s.wind∧s.wind≤h.wind.hi)∧(h.rain.lo≤s.rain∧s.rain≤h.rain.hi)∧(h.temp.lo≤s.temp∧s.temp≤h.temp.hi):=by
 simp [insideB,withinB]
theorem z889 {s:Sky} {l:Limits}:keptB s l=true↔s.wind≤l.wind∧s.rain≤l.rain∧l.temp.lo≤s.temp∧s.temp≤l.temp.hi:=by simp [keptB,withinB]
theorem z985 {l:Limits} {h:Hour}:alwaysB l h=true↔h.wind.hi≤l.wind∧h.rain.hi≤l.rain∧l.temp.lo≤h.temp.lo∧h.temp.hi≤l.temp.hi:=by simp [alwaysB]
theorem z1138 {l:Limits} {h:Hour}:everB l h=true↔h.wind.lo≤l.wind∧h.rain.lo≤l.rain∧max l.temp.lo h.temp.lo≤min l.temp.hi h.temp.hi:=by simp [everB]
theorem z876 {x:Sky} {l:Limits} {h:Hour} (hi:insideB x h=true) (ha:alwaysB l h=true):keptB x l=true:=by
 rw [z348] at hi
 rw [z985] at ha
 rw [z889]
 omega
theorem z1041 {x:Sky} {l:Limits} {h:Hour} (hi:insideB x h=true) (hk:keptB x l=true):everB l h=true:=by
 rw [z348] at hi
 rw [z889] at hk
 rw [z1138]
 omega
def IsBegin (l:List Bool) (n h:Nat):Prop:=∀ k,h≤k→k<h + n→l[k]?=some true
theorem z215 {n:Nat} (hn:1≤n) (L:List Bool):∀ (b:List Bool) (i run:Nat),L.drop i=b→run<n→run≤i→(∀ k,i - run≤k→k<i→L[k]?=some true)→(run<i→L[i - run - 1]?=some false)→(∀ h,h + n≤i→¬ IsBegin L n h) →
  (beginsFrom (n:Int) b i run=-1∧∀ h,¬ IsBegin L n h)∨∃ r:Nat,beginsFrom (n:Int) b i run=r∧IsBegin L n r∧∀ h<r,¬ IsBegin L n h
 | [],i,run,hd,h1,h2,h3,h4,h5=>by
  refine .inl ⟨rfl,fun h hb=>?_⟩
  have hl:L.length≤i:=by
   have:=congrArg List.length hd
   simp at this
   omega
  have:=hb (h + n - 1) (by omega) (by omega)
  have:h + n - 1<L.length:=(List.getElem?_eq_some_iff.1 this).1
  exact h5 h (by omega) hb
 | x::b,i,run,hd,h1,h2,h3,h4,h5=>by
  have hx:L[i]?=some x:=by
   have:=congrArg (·[0]?) hd
   simpa using this
  have hd':L.drop (i + 1)=b:=by
   have:=congrArg List.tail hd
   simpa using this
  rw [beginsFrom]
  cases x
  ·simp only [Bool.false_eq_true,if_false]
   rw [if_neg (by omega)]
   refine z215 hn L b (i + 1) 0 hd' (by omega) (by omega) (fun k _ _=>by omega) (fun _=>by simpa using hx) ?_
   intro h hh hb
   by_cases hc:h + n≤i
   ·exact h5 h hc hb
   ·have:=hb i (by omega) (by omega)
    rw [hx] at this
    cases this
  ·simp only [if_true]
   by_cases he:(run:Int) + 1=n
   ·rw [if_pos he]
    refine .inr ⟨i - run,by omega,fun k hk1 hk2=>?_,fun h hh=>h5 h (by omega)⟩
    by_cases hk:k=i
    ·rw [hk];exact hx
    ·exact h3 k hk1 (by omega)
   ·rw [if_neg he]
    have:=z215 hn L b (i + 1) (run + 1) hd' (by omega) (by omega) (fun k hk1 hk2=>by
     by_cases hk:k=i
     ·rw [hk];exact hx
     ·exact h3 k (by omega) (by omega)) (fun hlt=>by
      have:=h4 (by omega)
      rw [show i + 1 - (run + 1) - 1=i - run - 1 by omega]
      exact this) ?_
    ·simpa using this
    ·intro h hh hb
     by_cases hc:h + n≤i
     ·exact h5 h hc hb
     ·by_cases hr:run<i
      ·have e:=hb (i - run - 1) (by omega) (by omega)
       rw [h4 hr] at e
       cases e
      ·omega
theorem z214 {n:Nat} (hn:1≤n) (l:List Bool):(beginsF l n=-1∧∀ h,¬ IsBegin l n h)∨∃ r:Nat,beginsF l n=r∧IsBegin l n r∧∀ h<r,¬ IsBegin l n h:=by
 have:=z215 hn l l 0 0 rfl (by omega) (by omega) (fun k _ h=>by omega) (fun h=>by omega) (fun h hh=>by omega)
 exact this
theorem z723 {n:Nat} (hn:1≤n) {l:List Bool} {h:Nat} (hb:IsBegin l n h):0≤beginsF l n∧beginsF l n≤h:=by
 rcases z214 hn l with ⟨_,h2⟩ | ⟨r,h1,h2,h3⟩
 ·exact absurd hb (h2 h)
 ·rw [h1]
  refine ⟨by omega,?_⟩
  by_cases hc:h<r
  ·exact absurd hb (h3 h hc)
  ·omega
theorem z365 {n:Nat} (hn:1≤n) {l:List Bool} (h:0≤beginsF l n):IsBegin l n (beginsF l n).toNat:=by
 rcases z214 hn l with ⟨h1,_⟩ | ⟨r,h1,h2,h3⟩
 ·omega
 ·rw [h1];simpa using h2
theorem z466 {n:Nat} (hn:1≤n) {l:List Bool} (h:0≤beginsF l n):beginsF l n + n≤l.length:=by
 have:=z365 hn h ((beginsF l n).toNat + n - 1) (by omega) (by omega)
 have:=(List.getElem?_eq_some_iff.1 this).1
 omega
theorem z1071 {n:Nat} (hn:1≤n) {l:List Bool} {h:Nat} (hb:IsBegin l n h) (hm:∀ h'<h,¬ IsBegin l n h'):beginsF l n=h:=by
 have:=z723 hn hb
 by_cases hc:(beginsF l n).toNat<h
 ·exact absurd (z365 hn this.1) (hm _ hc)
 ·omega
theorem z1070 {n:Nat} (hn:1≤n) {l:List Bool} (hm:∀ h':Nat,¬ IsBegin l n h'):beginsF l n=-1:=by
 rcases z214 hn l with ⟨h1,_⟩ | ⟨r,h1,h2,h3⟩
 ·exact h1
 ·exact absurd h2 (hm r)
def LeB (A B:List Bool):Prop:=∀ k:Nat,A[k]?=some true→B[k]?=some true
theorem LeB.drop {A B:List Bool} (h:LeB A B) (k:Nat):LeB (A.drop k) (B.drop k):=fun i hi=>by
 rw [List.getElem?_drop] at hi ⊢
 exact h _ hi
theorem z161 {n:Nat} (hn:1≤n) {A B:List Bool} (h:LeB A B) (hA:0≤beginsF A n):0≤beginsF B n∧beginsF B n≤beginsF A n:=by
 have:=z723 hn (l:=B) (h:=(beginsF A n).toNat) (fun k h1 h2=>h k (z365 hn hA k h1 h2))
 omega
theorem z975 {n:Nat} (hn:1≤n) {A B:List Bool} (h:LeB A B) (hl:A.length=B.length) {k:Nat} (hk:k≤A.length):gapAt B n k≤gapAt A n k:=by
 unfold gapAt
 by_cases hA:0≤beginsF (A.drop k) n
 ·have:=z161 hn (h.drop k) hA
  rw [if_pos (show decide (beginsF (A.drop k) n ≥ 0)=true by simpa using hA),if_pos (show decide (beginsF (B.drop k) n ≥ 0)=true by simpa using this.1)]
  omega
 ·rw [if_neg (show ¬ decide (beginsF (A.drop k) n ≥ 0)=true by simpa using hA)]
  by_cases hB:0≤beginsF (B.drop k) n
  ·have:=z466 hn hB
   rw [List.length_drop] at this
   rw [if_pos (show decide (beginsF (B.drop k) n ≥ 0)=true by simpa using hB)]
   omega
  ·rw [if_neg (show ¬ decide (beginsF (B.drop k) n ≥ 0)=true by simpa using hB)]
   omega
theorem z893 {b:List Bool} {n:Int} {G:Int}:∀ (k:Nat) (g:Int),gapTo b n k g≤G↔g≤G∧∀ j<k,gapAt b n j≤G
 | 0,g=>by simp [gapTo]
 | k + 1,g=>by
  rw [gapTo,Int.max_le,z893 k g]
  constructor
  ·rintro ⟨⟨h1,h2⟩,h3⟩
   refine ⟨h1,fun j hj=>?_⟩
   rcases Nat.lt_succ_iff_lt_or_eq.1 hj with h | rfl
   ·exact h2 j h
   ·exact h3
  ·rintro ⟨h1,h2⟩
   exact ⟨⟨h1,fun j hj=>h2 j (by omega)⟩,h2 k (by omega)⟩
theorem z703 {l:Limits} {n:Int} {G:Int}:∀ (S:List (List Hour)) (g:Int),S.foldl (fun g s=>gapTo (s.map (alwaysB l)) n s.length g) g≤G↔g≤G∧∀ s ∈ S,∀ j<s.length,gapAt (s.map (alwaysB l)) n j≤G
 | [],g=>by simp
 | s::S,g=>by
  rw [List.foldl_cons,z703 S,z893]
  simp only [List.mem_cons,forall_eq_or_imp,and_assoc]
theorem z1182 {l:Limits} {n:Int} {G:Int} {S:List (List Hour)}:gapS l n S≤G↔0≤G∧∀ s ∈ S,∀ j<s.length,gapAt (s.map (alwaysB l)) n j≤G:=z703 S 0
theorem z199 {l:Limits} {n G:Int}:∀ (S:List (List Hour)) (H:Int),G≤winFirst l n S H↔G≤H∧∀ s ∈ S,0≤beginsF (s.map (everB l)) n→G≤beginsF (s.map (everB l)) n
 | [],H=>by simp [winFirst]
 | s::S,H=>by
  have ih:=z199 (l:=l) (n:=n) (G:=G) S
  unfold winFirst at ih ⊢
  rw [List.foldl_cons,ih]
  simp only [List.mem_cons,forall_eq_or_imp]
  by_cases h:0≤beginsF (s.map (everB l)) n
  ·rw [if_pos (by simpa using h),Int.le_min]
   constructor
   ·rintro ⟨⟨h1,h2⟩,h3⟩;exact ⟨h1,fun _=>h2,h3⟩
   ·rintro ⟨h1,h2,h3⟩;exact ⟨⟨h1,h2 h⟩,h3⟩
  ·rw [if_neg (by simpa using h)]
   constructor
   ·rintro ⟨h1,h3⟩;exact ⟨h1,fun hc=>absurd hc h,h3⟩
   ·rintro ⟨h1,_,h3⟩;exact ⟨h1,h3⟩
theorem z269 {l:Limits} {n G:Int}:∀ (S:List (List Hour)) (a:Int),S.foldl (fun a s=>max a (beginsF (s.map (alwaysB l)) n)) a≤G↔a≤G∧∀ s ∈ S,beginsF (s.map (alwaysB l)) n≤G
 | [],a=>by simp
 | s::S,a=>by
  rw [List.foldl_cons,z269 S,Int.max_le]
  simp only [List.mem_cons,forall_eq_or_imp,and_assoc]
theorem z905 {l:Limits} {n G:Int} {S:List (List Hour)}:winLast l n S≤G↔-1≤G∧∀ s ∈ S,beginsF (s.map (alwaysB l)) n≤G:=z269 S _
def keptL (m:List Sky) (l:Limits):List Bool:=m.map fun x=>keptB x l
theorem z886 {s:List Hour} {q:Hour→Bool} {k:Nat} (hk:k<s.length):(s.map q)[k]?=some (q (hourAt s (k:Int))):=by
 rw [List.getElem?_map]
 have:=z62 (l:=s) (i:=(k:Int)) ⟨by omega,by omega⟩
 rw [Int.toNat_natCast] at this
 rw [this]
 rfl
theorem z890 {m:List Sky} {l:Limits} {k:Nat} (hk:k<m.length):(keptL m l)[k]?=some (keptB (skyAt m k) l):=by
 rw [keptL,List.getElem?_map,z1012 hk]
 rfl
theorem z683 {m:List Sky} {l:Limits} {s:List Hour} (hl:s.length=m.length) (hin:∀ j<m.length,insideB (skyAt m j) (hourAt s (j:Int))=true) :
  LeB (s.map (alwaysB l)) (keptL m l)∧LeB (keptL m l) (s.map (everB l)):=by
 constructor
 ·intro k hk
  have hlt:k<s.length:=by have:=(List.getElem?_eq_some_iff.1 hk).1;simpa using this
  rw [z886 hlt] at hk
  rw [z890 (by omega)]
  rw [z876 (hin k (by omega)) (by simpa using hk)]
 ·intro k hk
  have hlt:k<m.length:=by have:=(List.getElem?_eq_some_iff.1 hk).1;simpa [keptL] using this
  rw [z890 hlt] at hk
  rw [z886 (by omega),z1041 (hin k hlt) (by simpa using hk)]
theorem comes {S:List (List Hour)} {m:List Sky} {l:Limits} {n:Nat} (hn:1≤n) {s:List Hour} (hs:s ∈ S) (hl:s.length=m.length) (hin:∀ j<m.length,insideB (skyAt m j) (hourAt s (j:Int))=true) :
  (0≤beginsF (keptL m l) n→0≤winFirst l n S m.length∧winFirst l n S m.length≤beginsF (keptL m l) n∧winFirst l n S m.length<m.length) ∧
  (winNever l n S=false→0≤beginsF (keptL m l) n∧beginsF (keptL m l) n≤winLast l n S∧winFirst l n S m.length≤winLast l n S) ∧
  ∀ k<m.length,gapAt (keptL m l) n k≤gapS l n S:=by
 obtain ⟨hA,hE⟩:=z683 (l:=l) hl hin
 have hf:=(z199 S _).1 (Int.le_refl (winFirst l (n:Int) S m.length))
 have hla:=z905.1 (Int.le_refl (winLast l (n:Int) S))
 have hga:=z1182.1 (Int.le_refl (gapS l (n:Int) S))
 refine ⟨fun hb=>?_,fun hnv=>?_,fun k hk=>?_⟩
 ·have h1:=z161 hn hE hb
  have h2:=hf.2 s hs h1.1
  have h3:=z466 hn hb
  have h4:(keptL m l).length=m.length:=by simp [keptL]
  refine ⟨(z199 S _).2 ⟨by omega,fun _ _ h=>h⟩,by omega,by omega⟩
 ·have hs0:0≤beginsF (s.map (alwaysB l)) n:=by
   unfold winNever at hnv
   have:=List.any_eq_false.1 hnv s hs
   simpa using this
  have h1:=z161 hn hA hs0
  have h2:=hla.2 s hs
  have h3:=z161 hn hE h1.1
  have h4:=hf.2 s hs h3.1
  exact ⟨h1.1,by omega,by omega⟩
 ·have h1:=hga.2 s hs k (by omega)
  have h2:=z975 hn hA (by simp [keptL,hl]) (k:=k) (by rw [List.length_map];omega)
  omega
end Go.Ab
namespace Go.Ab
open Go.RowKit Go.Proofs
set_option maxHeartbeats 4000000
set_option maxRecDepth 20000
def widerL (l:Limits) (wind rain temp:Int):Limits:=⟨min 200 (l.wind + wind),min 100 (l.rain + rain),⟨max (-50) (l.temp.lo - temp),min 50 (l.temp.hi + temp)⟩⟩
def withinS (A B:List Span) (H:Nat):Bool:=(List.range H).all fun h=>!(inSpans A (h:Int)) || inSpans B (h:Int)
end Go.Ab
namespace Go.Ab
open Go.RowKit Go.Proofs
set_option maxHeartbeats 4000000
set_option maxRecDepth 20000
attribute [local irreducible] WalkL Walk
structure Carrier where
 lift:Int
 heat:Int
 cost:Int
 lim:Limits
def Carrier.row (c:Carrier):List DV:=[.i c.lift,.i c.heat,.i c.cost,.i c.lim.wind,.i c.lim.rain,.i c.lim.temp.lo,.i c.lim.temp.hi]
def carrRows (l:List Carrier):List (List DV):=l.map Carrier.row
theorem z18 (l:List Carrier):(carrRows l).length=l.length:=by simp [carrRows]
theorem z126 {l:List Carrier} {i:Nat} {x:Carrier} (h:l[i]?=some x):(carrRows l)[i]?=some x.row:=by simp [carrRows,h]
theorem z159 (l:List Carrier):headIs 7 (carrRows l)=true:=by cases l <;> rfl
structure Supply where
 scen:List (List Hour)
 seen:List Sight
 stock:Int
 reserve:Int
 room:Int
 use:Span
 carr:List Carrier
def Supply.cells (s:Supply):List DV:=[.sl (scenRows s.scen),.sl (sightRows s.seen),.i s.stock,.i s.reserve,.i s.room,.i s.use.lo,.i s.use.hi,.sl (carrRows s.carr)]
structure SuppSmall (s:Supply):Prop where
 fore:ForeSmall s.scen
 seen:s.seen.length<2 ^ 30
 carr:s.carr.length<2 ^ 30
theorem z1076 (n lo hi:Int):Fn Tryz.prog 39 [.i n,.i lo,.i hi] (.bool (withinB n lo hi)):=by
 refine z14 15 Tryz.call39 Tryz.func39 rfl (by decide) fun J=>?_
 simp only [go_sem,St.start,Tryz.ntmps39,Tryz.results39]
 by_cases h:lo≤n
 ·repeat (first | refine nx ?_ | (refine z10 fun K hK=>?_;simp only [go_sem,h];apply hK;clear hK K))
  simp only [go_sem,withinB,h]
 ·repeat (first | refine nx ?_ | (refine z10 fun K hK=>?_;simp only [go_sem,h];apply hK;clear hK K))
  simp only [go_sem,withinB,h]
theorem z1077 (n lo hi:Int):Fn Tryz.prog 65 [.i n,.i lo,.i hi] (.bool (withinB n lo hi)):=by
 refine z14 15 Tryz.call65 Tryz.func65 rfl (by decide) fun J=>?_
 simp only [go_sem,St.start,Tryz.ntmps65,Tryz.results65]
 by_cases h:n ≥ lo
 ·repeat (first | refine nx ?_ | (refine z10 fun K hK=>?_;simp only [go_sem,h];apply hK;clear hK K))
  simp only [go_sem,withinB,h]
 ·repeat (first | refine nx ?_ | (refine z10 fun K hK=>?_;simp only [go_sem,h];apply hK;clear hK K))
  simp only [go_sem,withinB,h]
theorem zf105 (s:Span) (lo hi:Int):Fn Tryz.prog 105 [.agg s.row,.i lo,.i hi] (.bool (orderedB s lo hi)):=by
 refine z14 24 Tryz.call105 Tryz.func105 rfl (by decide) fun J=>?_
 simp only [go_sem,St.start,Tryz.ntmps105,Tryz.results105,Span.row]
 by_cases h:lo≤s.lo <;> by_cases h2:s.lo≤s.hi
 all_goals
  repeat (first | refine nx ?_ | (refine z10 fun K hK=>?_;simp only [go_sem,h,h2];apply hK;clear hK K))
  simp only [go_sem,orderedB,h,h2]
theorem zf106 (l:Limits):Fn Tryz.prog 106 [.agg l.row] (.bool (limB l)):=by
 have h1:=z1076 l.wind 0 200
 have h2:=z1076 l.rain 0 100
 have h3:=zf105 l.temp (-50) 50
 rw [Span.row] at h3
 obtain ⟨b1,e1⟩:∃ b,b=withinB l.wind 0 200:=⟨_,rfl⟩
 obtain ⟨b2,e2⟩:∃ b,b=withinB l.rain 0 100:=⟨_,rfl⟩
 obtain ⟨b3,e3⟩:∃ b,b=orderedB l.temp (-50) 50:=⟨_,rfl⟩
 rw [limB,← e1,← e2,← e3]
 rw [← e1] at h1
 rw [← e2] at h2
 rw [← e3] at h3
 refine z14 16 Tryz.call106 Tryz.func106 rfl (by decide) fun J=>?_
 simp only [go_sem,St.start,Tryz.ntmps106,Tryz.results106,Limits.row]
 cases b1 <;> cases b2
 all_goals
  repeat (first | refine nx ?_ | (refine z10 fun K hK=>?_;simp only [go_sem];(repeat (first | (refine ⟨_,.lent (hf:=h1) (hd:=rfl) (hr:=rfl),?_⟩;simp only [go_sem]) | (refine ⟨_,.lent (hf:=h2) (hd:=rfl) (hr:=rfl),?_⟩;simp only [go_sem]) | (refine ⟨_,.lent (hf:=h3) (hd:=rfl) (hr:=rfl),?_⟩;simp only [go_sem]) | (refine ⟨_,.given (hf:=h1) (hd:=rfl) (ha:=rfl),?_⟩;simp only [go_sem]) | (refine ⟨_,.given (hf:=h2) (hd:=rfl) (ha:=rfl),?_⟩;simp only [go_sem]) | (refine ⟨_,.given (hf:=h3) (hd:=rfl) (ha:=rfl),?_⟩;simp only [go_sem])));apply hK;clear hK K))
  simp only [go_sem]
def carrBad (c:Carrier):Bool:=!withinB c.lift 0 1000 || (!withinB c.heat 0 50 || (!withinB c.cost 0 10000 || !limB c.lim))
theorem zf107 (c:Carrier):Fn Tryz.prog 107 [.agg c.row,.ptr [.fn 106 []] 0] (.bool (carrBad c)):=by
 have h1:=z1076 c.lift 0 1000
 have h2:=z1076 c.heat 0 50
 have h3:=z1076 c.cost 0 10000
 have h4:=zf106 c.lim
 rw [Limits.row] at h4
 obtain ⟨b1,e1⟩:∃ b,b=withinB c.lift 0 1000:=⟨_,rfl⟩
 obtain ⟨b2,e2⟩:∃ b,b=withinB c.heat 0 50:=⟨_,rfl⟩
 obtain ⟨b3,e3⟩:∃ b,b=withinB c.cost 0 10000:=⟨_,rfl⟩
 obtain ⟨b4,e4⟩:∃ b,b=limB c.lim:=⟨_,rfl⟩
 rw [carrBad,← e1,← e2,← e3,← e4]
 rw [← e1] at h1
 rw [← e2] at h2
 rw [← e3] at h3
 rw [← e4] at h4
 refine z14 27 Tryz.call107 Tryz.func107 rfl (by decide) fun J=>?_
 simp only [go_sem,St.start,Tryz.ntmps107,Tryz.results107,Carrier.row]
 cases b1 <;> cases b2 <;> cases b3
 all_goals
  repeat (first | refine nx ?_ | (refine z10 fun K hK=>?_;simp only [go_sem];(repeat (first | (refine ⟨_,.lent (hf:=h1) (hd:=rfl) (hr:=rfl),?_⟩;simp only [go_sem]) | (refine ⟨_,.lent (hf:=h2) (hd:=rfl) (hr:=rfl),?_⟩;simp only [go_sem]) | (refine ⟨_,.lent (hf:=h3) (hd:=rfl) (hr:=rfl),?_⟩;simp only [go_sem]) | (refine ⟨_,.lent (hf:=h4) (hd:=rfl) (hr:=rfl),?_⟩;simp only [go_sem]) | (refine ⟨_,.given (hf:=h1) (hd:=rfl) (ha:=rfl),?_⟩;simp only [go_sem]) | (refine ⟨_,.given (hf:=h2) (hd:=rfl) (ha:=rfl),?_⟩;simp only [go_sem]) | (refine ⟨_,.given (hf:=h3) (hd:=rfl) (ha:=rfl),?_⟩;simp only [go_sem]) | (refine ⟨_,.given (hf:=h4) (hd:=rfl) (ha:=rfl),?_⟩;simp only [go_sem])));apply hK;clear hK K))
  simp only [go_sem]
theorem zf140 (xs:List Carrier) (g:Nat) (caps:List DV) (q:Carrier→Bool) (hq:∀ s ∈ xs,Fn Tryz.prog g (.agg s.row::caps) (.bool (q s))) (hl:xs.length<2 ^ 62):Fn Tryz.prog 140 [.sl (carrRows xs),.fn g caps] (.i (idxFrom q xs 0)):=by
 refine z14 19 Tryz.call140 Tryz.func140 rfl (by decide) fun J=>?_
 simp only [go_sem,St.start,Tryz.ntmps140,Tryz.results140]
 repeat (first | refine nx ?_ | (refine z10 fun K hK=>?_;simp only [go_sem];apply hK;clear hK K))
 refine z15 (fun (i:Nat)=>[(8,.d (.i i))]) (fun _=>[]) (fun i=>i≤xs.length∧idxFrom q xs 0=idxFrom q (xs.drop i) i) (fun i=>xs.length - i) 0 ?_ ⟨Nat.zero_le _,rfl⟩ ?_
 ·simp only [go_sem]
  refine weA ?_ ?_ <;> simp
 ·intro i ⟨hi,hq0⟩
  simp only [go_sem]
  repeat (first | refine nx ?_ | (refine z10 fun K hK=>?_;simp only [go_sem];apply hK;clear hK K))
  refine z13 rfl (fun hb=>?_) (fun hb=>?_)
  ·rw [z18] at hb
   have hlt:i<xs.length:=by simpa using hb
   have hw:IntKind.i64.wrap ((i:Int) + 1)=((i + 1:Nat):Int):=by rw [z17 (by omega)];simp
   obtain ⟨s,hs⟩:∃ s,xs[i]?=some s:=⟨_,List.getElem?_eq_getElem hlt⟩
   rw [z30 hs,idxFrom] at hq0
   repeat (first | refine nx ?_ | (refine z10 fun K hK=>?_;simp only [go_sem];apply hK;clear hK K))
   refine z10 fun K hK=>?_
   simp only [go_sem,hs,List.getElem?_map,z126 hs,Carrier.row,hw]
   refine ⟨_,.lent (hf:=hq s (List.mem_of_getElem? hs)) (hd:=z31 _ _ _ _ rfl) (hr:=rfl),?_⟩
   simp only [go_sem]
   apply hK
   clear hK K
   refine z13 rfl (fun hc=>?_) (fun hc=>?_)
   ·rw [hc,if_pos rfl] at hq0
    repeat (first | refine nx ?_ | (refine z10 fun K hK=>?_;simp only [go_sem];apply hK;clear hK K))
    simp only [go_sem,hq0]
   ·rw [hc] at hq0
    repeat (first | refine nx ?_ | (refine z10 fun K hK=>?_;simp only [go_sem,hw];apply hK;clear hK K))
    refine ⟨rfl,i + 1,?_,⟨hlt,hq0⟩,by omega⟩
    refine weA ?_ ?_ <;> simp
  ·rw [z18] at hb
   have he:i=xs.length:=by (have:¬ i<xs.length:=by simpa using hb);omega
   subst he
   repeat (first | refine nx ?_ | (refine z10 fun K hK=>?_;simp only [go_sem];apply hK;clear hK K))
   simp only [go_sem,hq0,List.drop_length,idxFrom]
theorem zf108 (xs:List Carrier) (g:Nat) (caps:List DV) (q:Carrier→Bool) (hq:∀ s ∈ xs,Fn Tryz.prog g (.agg s.row::caps) (.bool (q s))) (hl:xs.length<2 ^ 62):Fn Tryz.prog 108 [.sl (carrRows xs),.fn g caps] (.bool (xs.any q)):=by
 refine z14 9 Tryz.call108 Tryz.func108 rfl (by decide) fun J=>?_
 simp only [go_sem,St.start,Tryz.ntmps108,Tryz.results108]
 repeat (first | refine nx ?_ | (refine z10 fun K hK=>?_;simp only [go_sem];(repeat (first | (refine ⟨_,.lent (hf:=zf140 xs g caps q hq hl) (hd:=rfl) (hr:=rfl),?_⟩;simp only [go_sem]) | (refine ⟨_,.given (hf:=zf140 xs g caps q hq hl) (hd:=rfl) (ha:=rfl),?_⟩;simp only [go_sem])));apply hK;clear hK K))
 simp only [go_sem,z42]
def storeBad (s:Supply):Bool:=!withinB s.room 0 5000 || (!withinB s.stock 0 s.room || (!withinB s.reserve 0 s.room || !orderedB s.use 0 500))
def carrsBad (s:Supply):Bool:=decide ((s.carr.length:Int) > 4) || s.carr.any carrBad
def suppE (s:Supply):Int:=if lookF s.scen s.seen 0 true=0 then (if storeBad s then 60 else if carrsBad s then 61 else 0) else lookF s.scen s.seen 0 true
theorem zf69 (s:Supply) (hs:SuppSmall s):Fn Tryz.prog 69 [.agg s.cells] (.i (suppE s)):=by
 have h53:=zf104 s.scen s.seen hs.fore hs.seen
 have k3:=zf105 s.use 0 500
 rw [Span.row] at k3
 have h57:=zf108 s.carr 107 [.ptr [.fn 106 []] 0] carrBad (fun c _=>zf107 c) (by have:=hs.carr;omega)
 have hcl:=hs.carr
 obtain ⟨L,hL⟩:∃ L,L=s.carr.length:=⟨_,rfl⟩
 refine z14 58 Tryz.call69 Tryz.func69 rfl (by decide) fun J=>?_
 simp only [go_sem,St.start,Tryz.ntmps69,Tryz.results69,Supply.cells]
 obtain ⟨e,he⟩:∃ e,e=lookF s.scen s.seen 0 true:=⟨_,rfl⟩
 rw [suppE,← he]
 rw [← he] at h53
 by_cases h0:e=0
 ·rw [if_pos h0]
  have hz:(e != 0)=false:=by simp [h0]
  repeat (first | refine z12 rfl ?_ | refine z11 rfl ?_ | refine nx ?_ | (refine z10 fun K hK=>?_;simp only [go_sem,hz];(repeat (first | (refine ⟨_,.lent (hf:=h53) (hd:=rfl) (hr:=rfl),?_⟩;simp only [go_sem,hz]) | (refine ⟨_,.given (hf:=h53) (hd:=rfl) (ha:=rfl),?_⟩;simp only [go_sem,hz])));apply hK;clear hK K))
  refine z56 [(46,.d (.bool (storeBad s)))] [] ?_ ?_
  ·refine z10 fun K hK=>?_
   simp only [go_sem]
   refine ⟨_,.lent (hf:=z1076 s.room 0 5000) (hd:=rfl) (hr:=rfl),?_⟩
   simp only [go_sem]
   by_cases ho0:(!withinB s.room 0 5000)=true
   ·simp only [go_sem,ho0]
    apply hK
    clear hK K
    refine z21 ?_
    refine z19 ?_
    refine ⟨rfl,?_⟩
    rw [show (storeBad s)=(true) from by simp [storeBad,ho0]]
    simp only [go_sem]
    refine weA ?_ ?_ <;> simp
   ·simp only [go_sem,ho0]
    refine ⟨_,.lent (hf:=z1076 s.stock 0 s.room) (hd:=rfl) (hr:=rfl),?_⟩
    simp only [go_sem,ho0]
    by_cases ho1:(!withinB s.stock 0 s.room)=true
    ·simp only [go_sem,ho0,ho1]
     apply hK
     clear hK K
     refine z21 ?_
     refine z19 ?_
     refine ⟨rfl,?_⟩
     rw [show (storeBad s)=(true) from by simp [storeBad,ho0,ho1]]
     simp only [go_sem]
     refine weA ?_ ?_ <;> simp
    ·simp only [go_sem,ho0,ho1]
     refine ⟨_,.lent (hf:=z1076 s.reserve 0 s.room) (hd:=rfl) (hr:=rfl),?_⟩
     simp only [go_sem,ho0,ho1]
     by_cases ho2:(!withinB s.reserve 0 s.room)=true
     ·simp only [go_sem,ho0,ho1,ho2]
      apply hK
      clear hK K
      refine z21 ?_
      refine z19 ?_
      refine ⟨rfl,?_⟩
      rw [show (storeBad s)=(true) from by simp [storeBad,ho0,ho1,ho2]]
      simp only [go_sem]
      refine weA ?_ ?_ <;> simp
     ·simp only [go_sem,ho0,ho1,ho2]
      refine ⟨_,.lent (hf:=k3) (hd:=rfl) (hr:=rfl),?_⟩
      simp only [go_sem,ho0,ho1,ho2]
      apply hK
      clear hK K
      refine z21 ?_
      refine z19 ?_
      refine ⟨rfl,?_⟩
      rw [show (storeBad s)=(!orderedB s.use 0 500) from by simp [storeBad,ho0,ho1,ho2]]
      simp only [go_sem]
      refine weA ?_ ?_ <;> simp
  ·simp only [go_sem]
   repeat (first | refine nx ?_ | (refine z10 fun K hK=>?_;simp only [go_sem];apply hK;clear hK K))
   refine z13 rfl (fun hc=>?_) (fun hc=>?_)
   ·repeat (first | refine nx ?_ | (refine z10 fun K hK=>?_;simp only [go_sem];apply hK;clear hK K))
    simp only [go_sem,hc]
   ·repeat (first | refine nx ?_ | (refine z10 fun K hK=>?_;simp only [go_sem];apply hK;clear hK K))
    simp only [go_sem,hc]
    cases q:decide (((carrRows s.carr).length:Int) > 4)
    ·have hq:carrsBad s=s.carr.any carrBad:=by rw [z18] at q;rw [carrsBad,q,Bool.false_or]
     rw [hq]
     obtain ⟨b,hb⟩:∃ b,b=s.carr.any carrBad:=⟨_,rfl⟩
     rw [← hb] at h57 ⊢
     repeat (first | refine nx ?_ | (refine z10 fun K hK=>?_;simp only [go_sem,q];(repeat (first | (refine ⟨_,.lent (hf:=h57) (hd:=rfl) (hr:=rfl),?_⟩;simp only [go_sem,q]) | (refine ⟨_,.given (hf:=h57) (hd:=rfl) (ha:=rfl),?_⟩;simp only [go_sem,q])));apply hK;clear hK K))
     refine z13 rfl (fun hc=>?_) (fun hc=>?_)
     ·repeat (first | refine nx ?_ | (refine z10 fun K hK=>?_;simp only [go_sem];apply hK;clear hK K))
      simp only [go_sem,hc]
     ·repeat (first | refine nx ?_ | (refine z10 fun K hK=>?_;simp only [go_sem];apply hK;clear hK K))
      simp only [go_sem,hc]
    ·have hq:carrsBad s=true:=by rw [z18] at q;rw [carrsBad,q,Bool.true_or]
     rw [hq]
     repeat (first | refine nx ?_ | (refine z10 fun K hK=>?_;simp only [go_sem,q];apply hK;clear hK K))
     refine z12 rfl ?_
     repeat (first | refine nx ?_ | (refine z10 fun K hK=>?_;simp only [go_sem];apply hK;clear hK K))
     simp only [go_sem]
 ·rw [if_neg h0]
  have hz:(e != 0)=true:=by simp [h0]
  repeat (first | refine z12 rfl ?_ | refine z11 rfl ?_ | refine nx ?_ | (refine z10 fun K hK=>?_;simp only [go_sem,hz];(repeat (first | (refine ⟨_,.lent (hf:=h53) (hd:=rfl) (hr:=rfl),?_⟩;simp only [go_sem,hz]) | (refine ⟨_,.given (hf:=h53) (hd:=rfl) (ha:=rfl),?_⟩;simp only [go_sem,hz])));apply hK;clear hK K))
  simp only [go_sem]
end Go.Ab
namespace Go.Ab
open Go.RowKit
inductive Sh where
 | int (k:IntKind)
 | bool
 | sl (row:List Sh)
mutual
def Sh.fits (N:Nat):Sh→DV→Prop
 | .int k,d=>∃ n,d=.int k n∧(Lit.int k n).wf=true
 | .bool,d=>∃ b,d=.bool b
 | .sl r,d=>∃ rows,d=.sl rows∧rows.length≤N∧∀ row ∈ rows,Sh.fitsL N r row
def Sh.fitsL (N:Nat):List Sh→List DV→Prop
 | [],ds=>ds=[]
 | s::ss,ds=>∃ d r,ds=d::r∧Sh.fits N s d∧Sh.fitsL N ss r
end
theorem Sh.fitsL_len {N:Nat}:∀ {ss:List Sh} {ds:List DV},Sh.fitsL N ss ds→ds.length=ss.length
 | [],_,h=>by simp only [Sh.fitsL] at h;subst h;rfl
 | s::ss,ds,h=>by
  simp only [Sh.fitsL] at h
  obtain ⟨d,r,rfl,_,h⟩:=h
  simp [Sh.fitsL_len h]
theorem Sh.fitsL_append {N:Nat}:∀ {ss ts:List Sh} {ds es:List DV},Sh.fitsL N ss ds→Sh.fitsL N ts es→Sh.fitsL N (ss++ts) (ds++es)
 | [],_,_,_,h,k=>by simp only [Sh.fitsL] at h;subst h;simpa using k
 | s::ss,ts,ds,es,h,k=>by
  simp only [Sh.fitsL] at h
  obtain ⟨d,r,rfl,hd,h⟩:=h
  simp only [List.cons_append,Sh.fitsL]
  exact ⟨d,r++es,rfl,hd,Sh.fitsL_append h k⟩
def shapesF (P:Program) (g:TypeId→Option (List Sh)):List Field→Nat→Option (List Sh)
 | [],_=>some []
 | f::fs,o=>if f.offset=o then (g f.type).bind fun r=>if P.cellsOf f.type=r.length then (shapesF P g fs (o + r.length)).map fun s=>r++s else none else none
def shapes (P:Program):Nat→TypeId→Option (List Sh)
 | 0,_=>none
 | n + 1,t=>match P.underlying t with
  | some .bool=>some [.bool]
  | some (.int k)=>some [.int k]
  | some (.slice e)=>(shapes P n e).bind fun r=>if P.cellsOf e=r.length∧0<r.length then some [.sl r] else none
  | some (.struct fs)=>(shapesF P (shapes P n) fs.toList 0).bind fun r=>if P.cellsOf t=r.length then some r else none
  | _=>none
structure BulkOk {H:Type} (b:DataW H→Nat):Prop where
 slice:∀ elems spare,elems.length≤b (.slice elems spare)
 elem:∀ elems spare,∀ d ∈ elems,b d≤b (.slice elems spare)
 part:∀ parts,∀ d ∈ parts,b d≤b (.agg parts)
def Reads (w:World) (ds:List DV) (cs:List Value):Prop :=
 ∀ (i:Nat) d v,ds[i]?=some d→cs[i]?=some v→v.oneCell'=true∧DRel w (fun _=>False) d v
section
variable {H:Type} {enc:TypeId × Value→H} {P:Program} {w:World} {sp:Nat→Bool} {held:Bool}
theorem readF {b:DataW H→Nat} {N:Nat} {g:TypeId→Option (List Sh)} {m:Nat} {cs:List Value}
  (hg:∀ (t:TypeId) sh,g t=some sh→∀ cs d ps,DataW.trod enc P w 0 sp held m t cs=some (d,ps)→b d≤N→cs.length=sh.length∧∃ ds,Sh.fitsL N sh ds∧Reads w ds cs) :
  ∀ (fs:List Field) (xs:List (DataW H × List MemPlace)) (o:Nat) (sh:List Sh),shapesF P g fs o=some sh→xs.length=fs.length →
   (∀ (i:Nat) (f:Field),fs[i]?=some f→DataW.trod enc P w 0 sp held m f.type ((cs.drop f.offset).take (P.cellsOf f.type))=xs[i]?)→(∀ x ∈ xs,b x.1≤N) →
   ∃ ds,Sh.fitsL N sh ds∧Reads w ds (cs.drop o)
 | [],xs,o,sh,h,hl,_,_=>by
  simp only [shapesF,Option.some.injEq] at h
  subst h
  exact ⟨[],by simp [Sh.fitsL],fun i d v h=>by simp at h⟩
 | f::fs,xs,o,sh,h,hl,hx,hb=>by
  simp only [shapesF] at h
  split at h
  case isFalse=>cases h
  case isTrue ho =>
  obtain ⟨r,hr,h⟩:=Option.bind_eq_some_iff.1 h
  split at h
  case isFalse=>cases h
  case isTrue hc =>
  obtain ⟨s,hs,rfl⟩:=Option.map_eq_some_iff.1 h
  cases xs with
  | nil=>simp at hl
  | cons x xs =>
   have h0:=hx 0 f rfl
   rw [List.getElem?_cons_zero] at h0
   obtain ⟨hlen,ds,hf,hd⟩:=hg _ _ hr _ x.1 x.2 h0 (hb x (by simp))
   obtain ⟨es,he,hd'⟩:=readF hg fs xs (o + r.length) s hs (by simpa using hl) (fun i f' hf'=>by simpa using hx (i + 1) f' (by simpa using hf')) (fun y hy=>hb y (by simp [hy]))
   have hdl:=Sh.fitsL_len hf
   refine ⟨ds++es,Sh.fitsL_append hf he,fun i d v h1 h2=>?_⟩
   rw [List.getElem?_drop] at h2
   rcases Nat.lt_or_ge i ds.length with hi | hi
   ·rw [List.getElem?_append_left hi] at h1
    refine hd i d v h1 ?_
    rw [List.getElem?_take,List.getElem?_drop,ho,if_pos (by omega),h2]
   ·rw [List.getElem?_append_right hi] at h1
    refine hd' (i - ds.length) d v h1 ?_
    rw [List.getElem?_drop]
    rw [show o + r.length + (i - ds.length)=o + i from by omega,h2]
theorem z1064 {w:World} {a:Addr} {n:Nat} {cs:List Value} (h:w.cells? 0 a n=some cs):cs.length=n∧∀ j,j<n→w.cell? (a.add j)=cs[j]?:=by
 simp only [World.cells?,Nat.zero_le,if_true] at h
 exact ⟨by simpa using mapM_some_length h,fun j hj=>mapM_some_get h j j (by simp [hj])⟩
theorem z1065 {w:World} {a:Addr} {v:Value} (h:w.cell? a=some v):a.spot=none:=by
 unfold World.cell? at h
 split at h
 ·split at h
  ·cases h
  ·cases hs:a.spot <;> simp_all
 ·cases h
theorem z218 {b:DataW H→Nat} (hb:BulkOk b) (N:Nat):∀ (n:Nat) (t:TypeId) (sh:List Sh),shapes P n t=some sh→∀ fuel cs d ps,DataW.trod enc P w 0 sp held fuel t cs=some (d,ps)→b d≤N →
  cs.length=sh.length∧∃ ds,Sh.fitsL N sh ds∧Reads w ds cs
 | 0,_,_,h=>by simp [shapes] at h
 | n + 1,t,sh,h=>by
  intro fuel cs d ps hd hN
  unfold shapes at h
  split at h
  case h_1 ht =>
   cases h
   obtain ⟨v,rfl,_⟩:=DataW.trod_bool ht hd
   refine ⟨rfl,[.bool v],?_,?_⟩
   ·simp [Sh.fitsL,Sh.fits]
   ·intro i d' v' h1 h2
    cases i with
    | zero=>simp only [List.getElem?_cons_zero,Option.some.injEq] at h1 h2;subst h1;subst h2;exact ⟨rfl,.bool _⟩
    | succ i=>simp at h1
  case h_2 k ht =>
   cases h
   obtain ⟨v,rfl,_,hw⟩:=DataW.trod_int ht hd
   refine ⟨rfl,[.int k v],?_,?_⟩
   ·simpa [Sh.fitsL,Sh.fits] using hw
   ·intro i d' v' h1 h2
    cases i with
    | zero=>simp only [List.getElem?_cons_zero,Option.some.injEq] at h1 h2;subst h1;subst h2;exact ⟨rfl,.int _ _⟩
    | succ i=>simp at h1
  case h_3 e ht =>
   obtain ⟨r,hr,h⟩:=Option.bind_eq_some_iff.1 h
   split at h
   case isFalse=>cases h
   case isTrue hc =>
   obtain ⟨hc,hp⟩:=hc
   cases h
   rcases DataW.trod_slice ht hd with ⟨rfl,_⟩ | ⟨a,len,cap,elems,rest,m,rfl,rfl,hx,_,hcap,_,hl,hel,_⟩
   ·refine ⟨rfl,[.sl []],?_,?_⟩
    ·simp [Sh.fitsL,Sh.fits]
    ·intro i d' v' h1 h2
     cases i with
     | zero=>simp only [List.getElem?_cons_zero,Option.some.injEq] at h1 h2;subst h1;subst h2;exact ⟨rfl,.slNil⟩
     | succ i=>simp at h1
   ·obtain rfl:d=.slice (elems.map (·.1)) (rest.map (·.1)):=congrArg Prod.fst hx
    have hrow:∀ i:Nat,∃ ds:List DV,i<len→Sh.fitsL N r ds∧∀ j d,ds[j]?=some d→∃ v,w.cell? (a.add (i * r.length) |>.add j)=some v∧v.oneCell'=true∧DRel w (fun _=>False) d v:=by
     intro i
     by_cases hi:i<len
     ·have h1:=hel i hi
      rw [List.getElem?_eq_getElem (by omega)] at h1
      obtain ⟨cs',hcs,htr⟩:=Option.bind_eq_some_iff.1 h1
      have hin:(elems[i]'(by omega)).1 ∈ elems.map (·.1):=List.mem_map.2 ⟨_,List.getElem_mem _,rfl⟩
      obtain ⟨hlen,ds,hf,hds⟩:=z218 hb N n e r hr m cs' (elems[i]'(by omega)).1 (elems[i]'(by omega)).2 htr (Nat.le_trans (hb.elem _ _ _ hin) hN)
      refine ⟨ds,fun _=>⟨hf,fun j d hj=>?_⟩⟩
      have hjl:j<ds.length:=by
       rcases Nat.lt_or_ge j ds.length with h | h
       ·exact h
       ·rw [List.getElem?_eq_none h] at hj;cases hj
      rw [Sh.fitsL_len hf] at hjl
      have hcell:=(z1064 hcs).2 j (by omega)
      rw [hc] at hcell
      have hv:cs'[j]?=some (cs'[j]'(by omega)):=List.getElem?_eq_getElem _
      rw [hv] at hcell
      exact ⟨_,hcell,hds j d _ hj hv⟩
     ·exact ⟨[],fun h=>absurd h hi⟩
    have hcho:=Classical.axiomOfChoice hrow
    obtain ⟨F,hF⟩:=hcho
    have hrl:((List.range len).map F).length=len:=by simp
    refine ⟨rfl,[.sl ((List.range len).map F)],?_,?_⟩
    ·simp only [Sh.fitsL,Sh.fits]
     refine ⟨_,_,rfl,⟨_,rfl,?_,?_⟩,rfl⟩
     ·rw [hrl]
      have:=hb.slice (elems.map (·.1)) (rest.map (·.1))
      simp only [List.length_map] at this
      omega
     ·intro row hrow
      obtain ⟨i,hi,rfl⟩:=List.mem_map.1 hrow
      exact (hF i (by simpa using hi)).1
    ·intro i d' v' h1 h2
     cases i with
     | succ i=>simp at h1
     | zero =>
      simp only [List.getElem?_cons_zero,Option.some.injEq] at h1 h2
      subst h1;subst h2
      refine ⟨rfl,?_⟩
      cases hlen:len with
      | zero=>exact .slEmpty _ _
      | succ l =>
       have hspot:a.spot=none:=by
        have h0:=hF 0 (by omega)
        have hfl:=Sh.fitsL_len h0.1
        obtain ⟨v,hv,_⟩:=h0.2 0 ((F 0)[0]'(by omega)) (List.getElem?_eq_getElem _)
        simp only [Nat.zero_mul,Addr.add,if_true] at hv
        exact z1065 hv
       obtain ⟨blk,off,spot⟩:=a
       simp only at hspot
       subst hspot
       have hadd:∀ i j,(Addr.add (Addr.add ⟨blk,off,none⟩ (i * r.length)) j)=⟨blk,off + i * r.length + j,none⟩:=by
        intro i j
        unfold Addr.add
        by_cases h1:i * r.length=0 <;> by_cases h2:j=0 <;> simp [h1,h2]
       have z39:∀ (i:Nat) (r':List DV) (j:Nat) (d:DV),((List.range len).map F)[i]?=some r'→r'[j]?=some d→∃ v,w.cell? ⟨blk,off + i * r.length + j,none⟩=some v∧v.oneCell'=true∧DRel w (fun _=>False) d v:=by
        intro i r' j d h1 h2
        rw [List.getElem?_map] at h1
        obtain ⟨i',hi',rfl⟩:=Option.map_eq_some_iff.1 h1
        obtain ⟨hil,rfl⟩:=List.getElem?_eq_some_iff.1 hi'
        simp only [List.length_range] at hil
        simp only [List.getElem_range] at h2
        obtain ⟨v,hv,h3,h4⟩:=(hF i hil).2 j d h2
        rw [hadd] at hv
        exact ⟨v,hv,h3,h4⟩
       have hfin:=DRel.sl (w:=w) (own:=fun _=>False) ((List.range len).map F) blk off r.length cap (fun i j=>(w.cell? ⟨blk,off + i * r.length + j,none⟩).getD .nilFunc) (by rw [hrl];exact hcap)
        (by
         intro row hrow
         obtain ⟨i,hi,rfl⟩:=List.mem_map.1 hrow
         exact Sh.fitsL_len (hF i (by simpa using hi)).1)
        (by
         intro i r' j d h1 h2
         obtain ⟨v,hv,h3,_⟩:=z39 i r' j d h1 h2
         rw [hv]
         exact ⟨fun h=>h,rfl,h3⟩)
        (by
         intro i r' j d h1 h2
         obtain ⟨v,hv,_,h4⟩:=z39 i r' j d h1 h2
         simp only [hv,Option.getD_some]
         exact h4)
       rw [hrl] at hfin
       rw [hlen] at hfin
       exact hfin
  case h_4 fs ht =>
   obtain ⟨r,hr,h⟩:=Option.bind_eq_some_iff.1 h
   split at h
   case isFalse=>cases h
   case isTrue hc =>
   cases h
   obtain ⟨xs,m,rfl,hx,hl,hxl,hi⟩:=DataW.trod_struct ht hd
   obtain rfl:d=.agg (xs.map (·.1)):=congrArg Prod.fst hx
   obtain ⟨ds,hf,hds⟩:=readF (fun t sh h cs d ps hd hN=>z218 hb N n t sh h m cs d ps hd hN) fs.toList xs 0 sh hr (by simpa using hxl) (fun i f hf=>hi i f (by simpa using hf))
    (fun x hx=>Nat.le_trans (hb.part _ _ (List.mem_map.2 ⟨x,hx,rfl⟩)) hN)
   exact ⟨by omega,ds,hf,by simpa using hds⟩
  case h_5=>cases h
end
end Go.Ab
/- The link from a walked contract to a statement's contract,for arguments of any number and of the types that the statements take;where what is read is of bulk at most the bound. -/
namespace Go.Ab
open Go.RowKit Go.Proofs Go.ChangeShapes Go.WideShapes Go.Proofs.YtgjnckiifffneaaGreat
set_option linter.unusedVariables false
set_option maxRecDepth 100000
section
variable {H:Type} {enc:TypeId × Value→H} {P:Program}
theorem z522 {f:Func} {s:ChangeSpec} {apart fresh handsOn again:Bool} {W W':World} {args:Array Value} {v:Value} {ds gs:List (DataW H)} {before pa pv:List MemPlace}
  (hW:DataW.Whole enc P f.params.toList s.vars apart W args.toList ds gs before)
  (hres:∀ (b:Nat) (sp:Nat→Bool) (hd:Bool),DataW.TrodAll enc P W' b sp hd f.resultTypes.toList (v.resultList f.resultTypes.size) (s.fn H (ds++gs)).results [])
  (hargs:∀ sp:Nat→Bool,(∀ p ∈ before,sp p.block=true)→DataW.TrodAll enc P W' 0 sp true f.params.toList args.toList (s.fn H (ds++gs)).args pa)
  (hvars:∀ sp:Nat→Bool,(∀ p ∈ before,sp p.block=true)→DataW.TrodVars enc P W' sp s.vars (s.fn H (ds++gs)).vars pv)
  (hps:before=pa++pv) (hb:Below W.heap.size W W')
  (hok:∀ (j:Nat) (t:TypeId) (r:Value),f.resultTypes[j]?=some t→(v.resultList f.resultTypes.size)[j]?=some r→Value.okWide P W' .any 0 t r) :
  s.post enc P f apart fresh handsOn again W args v W':=by
 have hlt:=hW.lt
 have hold:∀ p ∈ before,(fun b=>decide (b<W.heap.size)) p.block=true:=fun p hp=>by simpa using hlt p hp
 refine ⟨ds,gs,before,[],pa,pv,hW,hres _ _ _,hargs _ hold,hvars _ hold,World.keptBut_mono (fun p hp=>⟨hp,?_⟩) (hb.frame (· ∈ before)),fun _=>?_⟩
 ·rw [hps,List.mem_append] at hp
  exact Or.inr hp
 ·obtain ⟨_,_,_,_,_,hz,hn⟩:=hW
  refine ⟨hok,_,_,([]++pa)++pv,⟨[]++pa,pv,trodAll_append (hargs _ (fun _ _=>rfl)) (hres _ _ _),hvars _ (fun _ _=>rfl),rfl,?_,?_⟩,?_⟩
  ·intro b off hp
   have hp':MemPlace.cell b off ∈ before:=by rw [hps];simpa using hp
   rw [hb.frozen (p:=⟨b,off,none⟩) (hlt _ hp')]
   exact hz b off hp'
  ·intro ha
   have:=hn ha
   rw [hps] at this
   simpa using this
  ·intro p hp _
   rw [hps]
   simpa using hp
end
theorem z119 {α:Type} {row:α→List DV} {Q:α→Prop}:∀ {rows:List (List DV)},(∀ r ∈ rows,∃ a,r=row a∧Q a)→∃ l:List α,rows=l.map row∧∀ a ∈ l,Q a
 | [],_=>⟨[],rfl,fun _ h=>by cases h⟩
 | r::rs,h=>by
  obtain ⟨a,rfl,ha⟩:=h r (by simp)
  obtain ⟨l,rfl,hl⟩:=z119 (rows:=rs) (fun r hr=>h r (by simp [hr]))
  exact ⟨a::l,rfl,fun b hb=>by rcases List.mem_cons.1 hb with rfl | hb;exact ha;exact hl b hb⟩
def iS:Sh:=.int .i64
def hourS:List Sh:=[iS,iS,iS,iS,iS,iS]
def skyS:List Sh:=[iS,iS,iS]
def sightS:List Sh:=[iS,iS,iS,iS]
def carrS:List Sh:=[iS,iS,iS,iS,iS,iS,iS]
def suppS:List Sh:=[.sl [.sl hourS],.sl sightS,iS,iS,iS,iS,iS,.sl carrS]
theorem int_of {N:Nat} {r:List DV} (h:Sh.fitsL N [iS] r):∃ s:Int,r=[.i s]∧True:=by
 simp only [iS,Sh.fitsL,Sh.fits] at h
 obtain ⟨_,_,rfl,⟨a,rfl,_⟩,rfl⟩:=h
 exact ⟨a,rfl,trivial⟩
theorem z1181 {N:Nat} {r:List DV} (h:Sh.fitsL N hourS r):∃ s:Hour,r=s.row∧True:=by
 simp only [hourS,iS,Sh.fitsL,Sh.fits] at h
 obtain ⟨_,_,rfl,⟨a,rfl,_⟩,_,_,rfl,⟨b,rfl,_⟩,_,_,rfl,⟨c,rfl,_⟩,_,_,rfl,⟨d,rfl,_⟩,_,_,rfl,⟨e,rfl,_⟩,_,_,rfl,⟨f,rfl,_⟩,rfl⟩:=h
 exact ⟨⟨⟨a,b⟩,⟨c,d⟩,⟨e,f⟩⟩,rfl,trivial⟩
theorem z1093 {N:Nat} {r:List DV} (h:Sh.fitsL N sightS r):∃ s:Sight,r=s.row∧True:=by
 simp only [sightS,iS,Sh.fitsL,Sh.fits] at h
 obtain ⟨_,_,rfl,⟨d,rfl,_⟩,_,_,rfl,⟨a,rfl,_⟩,_,_,rfl,⟨b,rfl,_⟩,_,_,rfl,⟨c,rfl,_⟩,rfl⟩:=h
 exact ⟨⟨d,⟨a,b,c⟩⟩,rfl,trivial⟩
theorem z856 {N:Nat} {d:DV} (h:Sh.fits N (.sl [iS]) d):∃ l:List Int,d=.sl (intRows l)∧l.length≤N:=by
 simp only [Sh.fits] at h
 obtain ⟨rows,rfl,hl,hr⟩:=h
 obtain ⟨l,rfl,_⟩:=z119 (fun r h=>int_of (hr r h))
 exact ⟨l,rfl,by simpa using hl⟩
theorem z1013 {N:Nat} {d:DV} (h:Sh.fits N (.sl sightS) d):∃ l:List Sight,d=.sl (sightRows l)∧l.length≤N:=by
 simp only [Sh.fits] at h
 obtain ⟨rows,rfl,hl,hr⟩:=h
 obtain ⟨l,rfl,_⟩:=z119 (fun r h=>z1093 (hr r h))
 exact ⟨l,rfl,by simpa using hl⟩
theorem z1129 {N:Nat} {r:List DV} (h:Sh.fitsL N [.sl hourS] r):∃ l:List Hour,r=[.sl (hourRows l)]∧l.length≤N:=by
 simp only [Sh.fitsL] at h
 obtain ⟨d,_,rfl,h,rfl⟩:=h
 simp only [Sh.fits] at h
 obtain ⟨rows,rfl,hl,hr⟩:=h
 obtain ⟨l,rfl,_⟩:=z119 (fun r h=>z1181 (hr r h))
 exact ⟨l,rfl,by simpa using hl⟩
theorem z1096 {N:Nat} {d:DV} (h:Sh.fits N (.sl [.sl hourS]) d):∃ F:List (List Hour),d=.sl (scenRows F)∧F.length≤N∧∀ l ∈ F,l.length≤N:=by
 simp only [Sh.fits] at h
 obtain ⟨rows,rfl,hl,hr⟩:=h
 obtain ⟨F,rfl,hF⟩:=z119 (row:=fun l:List Hour=>[DV.sl (hourRows l)]) (fun r h=>z1129 (hr r h))
 exact ⟨F,rfl,by simpa using hl,hF⟩
theorem z1193 {N:Nat} {r:List DV} (h:Sh.fitsL N carrS r):∃ s:Carrier,r=s.row∧True:=by
 simp only [carrS,iS,Sh.fitsL,Sh.fits] at h
 obtain ⟨_,_,rfl,⟨a,rfl,_⟩,_,_,rfl,⟨b,rfl,_⟩,_,_,rfl,⟨c,rfl,_⟩,_,_,rfl,⟨d,rfl,_⟩,_,_,rfl,⟨e,rfl,_⟩,_,_,rfl,⟨f,rfl,_⟩,_,_,rfl,⟨g,rfl,_⟩,rfl⟩:=h
 exact ⟨⟨a,b,c,⟨d,e,⟨f,g⟩⟩⟩,rfl,trivial⟩
theorem z1142 {N:Nat} {d:DV} (h:Sh.fits N (.sl carrS) d):∃ l:List Carrier,d=.sl (carrRows l)∧l.length≤N:=by
 simp only [Sh.fits] at h
 obtain ⟨rows,rfl,hl,hr⟩:=h
 obtain ⟨l,rfl,_⟩:=z119 (fun r h=>z1193 (hr r h))
 exact ⟨l,rfl,by simpa using hl⟩
theorem z1158 {N:Nat} (hN:N<2 ^ 29) {r:List DV} (h:Sh.fitsL N suppS r):∃ p:Supply,r=p.cells∧SuppSmall p∧p.seen.length + 1<2 ^ 30:=by
 unfold suppS at h
 rw [Sh.fitsL] at h
 obtain ⟨x0,_,rfl,h0,h⟩:=h
 rw [Sh.fitsL] at h
 obtain ⟨x1,_,rfl,h1,h⟩:=h
 obtain ⟨F,rfl,zf1,zf2⟩:=z1096 h0
 obtain ⟨S,rfl,s1⟩:=z1013 h1
 rw [Sh.fitsL] at h
 obtain ⟨y1,_,rfl,k1,h⟩:=h
 rw [Sh.fitsL] at h
 obtain ⟨y2,_,rfl,k2,h⟩:=h
 rw [Sh.fitsL] at h
 obtain ⟨y3,_,rfl,k3,h⟩:=h
 rw [Sh.fitsL] at h
 obtain ⟨y4,_,rfl,k4,h⟩:=h
 rw [Sh.fitsL] at h
 obtain ⟨y5,_,rfl,k5,h⟩:=h
 rw [Sh.fitsL] at h
 obtain ⟨y6,_,rfl,k6,h⟩:=h
 rw [Sh.fitsL] at h
 subst h
 obtain ⟨D,rfl,d1⟩:=z1142 k6
 simp only [iS,Sh.fits] at k1 k2 k3 k4 k5
 obtain ⟨a1,rfl,_⟩:=k1
 obtain ⟨a2,rfl,_⟩:=k2
 obtain ⟨a3,rfl,_⟩:=k3
 obtain ⟨a4,rfl,_⟩:=k4
 obtain ⟨a5,rfl,_⟩:=k5
 refine ⟨⟨F,S,a1,a2,a3,⟨a4,a5⟩,D⟩,rfl,⟨⟨?_,fun l hl=>?_⟩,?_,?_⟩,?_⟩
 ·show F.length<2 ^ 30
  omega
 ·have:=zf2 l hl
  omega
 ·show S.length<2 ^ 30
  omega
 ·show D.length<2 ^ 30
  omega
 ·show S.length + 1<2 ^ 30
  omega
theorem z541 {H:Type}:∀ {l:List (DataW H)} {d:DataW H},d ∈ l→Rows.uptoBulk d≤Rows.uptoBulkAll l
 | x::r,d,h=>by
  simp only [Rows.uptoBulkAll]
  rcases List.mem_cons.1 h with rfl | h
  ·omega
  ·have:=z541 h
   omega
theorem z1143 {H:Type} (d:DataW H):1≤Rows.uptoBulk d:=by
 cases d with
 | lit l=>cases l <;> simp [Rows.uptoBulk]
 | _=>simp [Rows.uptoBulk]
theorem z900 {H:Type}:∀ (l:List (DataW H)),l.length≤Rows.uptoBulkAll l
 | []=>by simp
 | x::r=>by
  have h1:=z1143 x
  have h2:=z900 r
  simp only [Rows.uptoBulkAll,List.length_cons]
  omega
theorem z1149 {H:Type}:BulkOk (Rows.uptoBulk (H:=H)) where
 slice:=fun elems spare=>by
  have:=z900 elems
  simp only [Rows.uptoBulk]
  omega
 elem:=fun elems spare d hd=>by
  have:=z541 hd
  simp only [Rows.uptoBulk]
  omega
 part:=fun parts d hd=>by
  have:=z541 hd
  simp only [Rows.uptoBulk]
  omega
structure Rd (t:TypeId) (C:DV→Prop):Prop where
 rec':Tryz.prog.readableRec t=true
 lt:t<Tryz.prog.types.size
 read:∀ (H:Type) (enc:TypeId × Value→H) (w:World) (base:Nat) (v:Value) (d:DataW H) (ps:List MemPlace),Value.okWide Tryz.prog w .any base t v→DataW.Trod enc Tryz.prog w 0 (fun _=>true) true t v d ps→Rows.uptoBulk d≤1048576→∃ x,C x∧DRel w (fun _=>False) x v
theorem z904 {H:Type} {enc:TypeId × Value→H} {w:World} {t:TypeId} {sh:List Sh} (hs:shapes Tryz.prog 20 t=some sh) (h2:2≤sh.length) {v:Value} {d:DataW H} {ps:List MemPlace}
  (h:DataW.Trod enc Tryz.prog w 0 (fun _=>true) true t v d ps) (hd:Rows.uptoBulk d≤1048576) :
  ∃ ds,Sh.fitsL 1048576 sh ds∧DRel w (fun _=>False) (.agg ds) v:=by
 obtain ⟨fuel,h⟩:=h
 obtain ⟨hl,ds,hf,hr⟩:=z218 z1149 1048576 20 t sh hs fuel _ _ _ h hd
 have hdl:=Sh.fitsL_len hf
 refine ⟨ds,hf,?_⟩
 cases v with
 | agg cs =>
  simp only [Value.cells] at hl hr
  exact .agg _ _ (by simpa [hdl] using hl.symm) fun i d v h1 h2=>(hr i d v h1 (by simpa using h2)).2
 | _=>simp [Value.cells] at hl;omega
theorem z1108 {H:Type} {enc:TypeId × Value→H} {w:World} {t:TypeId} {s:Sh} (hs:shapes Tryz.prog 20 t=some [s]) {v:Value} {d:DataW H} {ps:List MemPlace}
  (hv:v.cells.toList=[v]) (h:DataW.Trod enc Tryz.prog w 0 (fun _=>true) true t v d ps) (hd:Rows.uptoBulk d≤1048576) :
  ∃ x,Sh.fits 1048576 s x∧DRel w (fun _=>False) x v:=by
 obtain ⟨fuel,h⟩:=h
 obtain ⟨hl,ds,hf,hr⟩:=z218 z1149 1048576 20 t _ hs fuel _ _ _ h hd
 simp only [Sh.fitsL] at hf
 obtain ⟨x,_,rfl,hx,rfl⟩:=hf
 exact ⟨x,hx,(hr 0 x v rfl (by rw [hv];rfl)).2⟩
def AllC:List (TypeId × (DV→Prop))→List DV→Prop
 | [],[]=>True
 | c::cs,x::xs=>c.2 x∧AllC cs xs
 | _,_=>False
section
variable {H:Type} {enc:TypeId × Value→H} {W:World}
theorem z882 {base:Nat}:∀ (L:List (TypeId × (DV→Prop))),(∀ c ∈ L,Rd c.1 c.2)→∀ (vs:List Value) (ds:List (DataW H)) (ps:List MemPlace),
  (∀ (j:Nat) t v,(L.map (·.1))[j]?=some t→vs[j]?=some v→Value.okWide Tryz.prog W .any base t v) →
  DataW.TrodAll enc Tryz.prog W 0 (fun _=>true) true (L.map (·.1)) vs ds ps→Rows.uptoBulkAll ds≤1048576 →
  vs.length=L.length∧ds.length=L.length∧∃ xs,AllC L xs∧xs.length=L.length∧∀ (i:Nat) x v,xs[i]?=some x→vs[i]?=some v→DRel W (fun _=>False) x v
 | [],_,vs,ds,ps,_,h,_=>by
  obtain ⟨rfl,rfl,rfl⟩:=trodAll_nil h
  exact ⟨rfl,rfl,[],trivial,rfl,fun i x v h=>by simp at h⟩
 | c::L,hc,vs,ds,ps,hval,h,hb=>by
  obtain ⟨v,vs',d,ds',p,q,rfl,rfl,rfl,hd,hrest⟩:=trodAll_cons h
  simp only [Rows.uptoBulkAll] at hb
  obtain ⟨x,hx,hr⟩:=(hc c (by simp)).read H enc W base v d p (hval 0 _ v (by simp) (by simp)) hd (by omega)
  obtain ⟨h1,h2,xs,h3,h4,h5⟩:=z882 L (fun c h=>hc c (by simp [h])) vs' ds' q (fun j t v h1 h2=>hval (j + 1) t v (by simpa using h1) (by simpa using h2)) hrest (by omega)
  refine ⟨by simp [h1],by simp [h2],x::xs,⟨hx,h3⟩,by simp [h4],fun i y w hy hw=>?_⟩
  cases i with
  | zero =>
   simp at hy hw
   subst hy
   subst hw
   exact hr
  | succ i=>exact h5 i y w (by simpa using hy) (by simpa using hw)
theorem z878 {W':World} {sp:Nat→Bool}:∀ (L:List (TypeId × (DV→Prop))),(∀ c ∈ L,Rd c.1 c.2)→∀ (vs:List Value) (ds:List (DataW H)) (ps:List MemPlace),
  DataW.TrodAll enc Tryz.prog W 0 (fun _=>true) true (L.map (·.1)) vs ds ps→(∀ y ∈ ps,y.block<W.heap.size)→Below W.heap.size W W'→(∀ y ∈ ps,sp y.block=true) →
  DataW.TrodAll enc Tryz.prog W' 0 sp true (L.map (·.1)) vs ds ps
 | [],_,vs,ds,ps,h,_,_,_=>by
  obtain ⟨rfl,rfl,rfl⟩:=trodAll_nil h
  exact trodAll_mk0
 | c::L,hc,vs,ds,ps,h,hlt,hb,hsp=>by
  obtain ⟨v,vs',d,ds',p,q,rfl,rfl,rfl,hd,hrest⟩:=trodAll_cons h
  have hrd:=hc c (by simp)
  exact ⟨p,q,WideElems.Trod_stays (by kernel_rfl) hrd.rec' hrd.lt hd (fun y hy=>hb.same (hlt y (by simp [hy]))) (fun y hy=>hsp y (by simp [hy])),
   z878 L (fun c h=>hc c (by simp [h])) vs' ds' q hrest (fun y hy=>hlt y (by simp [hy])) hb (fun y hy=>hsp y (by simp [hy])),rfl⟩
end
theorem link {f:FuncId} {fn:Func} (L:List (TypeId × (DV→Prop))) (hL:∀ c ∈ L,Rd c.1 c.2) (hf:∀ xs,AllC L xs→Fn Tryz.prog f xs (.bool true)) (hfn:fn.params=(L.map (·.1)).toArray) (hr:fn.resultTypes=#[4])
  (s:ChangeSpec) (hv:s.vars=[]) (hs:∀ (H:Type) (ds:List (DataW H)),ds.length=L.length→s.fn H ds={ results:=[.lit (.bool true)],args:=ds })
  {H:Type} {enc:TypeId × Value→H} {W:World} {args:Array Value} {ds gs:List (DataW H)} {before:List MemPlace}
  {base:Nat} (hval:∀ (j:Nat) t v,fn.params[j]?=some t→args[j]?=some v→Value.okWide Tryz.prog W .any base t v)
  (hW:DataW.Whole enc Tryz.prog fn.params.toList s.vars false W args.toList ds gs before) (hk:Rows.uptoSmall H (ds++gs)=true) :
  Calls Tryz.prog f args W fun e W'=>∃ v,e=.returned v∧s.post enc Tryz.prog fn false true false false W args v W':=by
 have hW':=hW
 obtain ⟨p,q,hA,hV,rfl,hfz,hnd⟩:=hW
 rw [hfn] at hA
 rw [hv] at hV
 obtain ⟨rfl,rfl⟩:=trodVars_none hV
 have hb:=of_decide_eq_true hk
 simp only [List.append_nil] at hb
 obtain ⟨l1,l2,xs,hxs,l3,hrel⟩:=z882 (base:=base) L hL _ _ _ (fun j t v h1 h2=>hval j t v (by rw [hfn];simpa using h1) (by simpa using h2)) hA hb
 have hc:=(hf xs hxs).2 W (fun _=>False) args (fun _ h=>h.elim) (Hid.no (by kernel_rfl)) ⟨by rw [l3,← l1];simp,fun i x v h1 h2=>hrel i x v h1 (by simpa using h2)⟩
 refine hc.mono fun e W' h=>?_
 obtain ⟨v,rfl,hvr,hbel⟩:=h
 cases hvr
 refine ⟨_,rfl,?_⟩
 have hlt:∀ y ∈ p,y.block<W.heap.size:=fun y hy=>hW'.lt y (by simpa using hy)
 have hok:Value.okWide Tryz.prog W' .any 0 4 (.bool true):=okWide_bool_mk (t:=4) Tryz.underlying4 true
 have hsf:s.fn H (ds++[])={ results:=[.lit (.bool true)],args:=ds }:=by rw [List.append_nil];exact hs H ds l2
 refine z522 (pa:=p) (pv:=[]) hW' ?_ ?_ ?_ (by simp) hbel ?_
 ·intro b sp hd
  rw [hr,hsf]
  exact trodAll_mk1 (shut_bool Tryz.underlying4 _)
 ·intro sp hsp
  rw [hfn,hsf]
  exact z878 L hL _ _ _ hA hlt hbel (fun y hy=>hsp y (by simpa using hy))
 ·intro sp hsp
  rw [hv,hsf]
  rfl
 ·exact ok_one hr rfl hok
abbrev aS:TypeId × (DV→Prop):=(39,fun x=>∃ p:Supply,x=.agg p.cells∧SuppSmall p∧p.seen.length + 1<2 ^ 30)
abbrev aU:TypeId × (DV→Prop):=(22,fun x=>∃ l:List Int,x=.sl (intRows l)∧l.length<2 ^ 30)
abbrev aI:TypeId × (DV→Prop):=(3,fun x=>∃ n:Int,x=.i n)
theorem allC3 {c d e:TypeId × (DV→Prop)} {xs:List DV} (h:AllC [c,d,e] xs):∃ x y z,xs=[x,y,z]∧c.2 x∧d.2 y∧e.2 z:=by
 match xs,h with
 | [x,y,z],h=>exact ⟨x,y,z,rfl,h.1,h.2.1,h.2.2.1⟩
end Go.Ab
namespace Go.Ab
open Go.RowKit Go.Proofs
def tripRows (l:List (Int × Int)):List (List DV):=l.map fun p=>[.i p.1,.i p.2]
end Go.Ab
namespace Go.Ab
open Go.RowKit Go.Proofs
set_option maxHeartbeats 8000000
set_option maxRecDepth 20000
attribute [local irreducible] WalkL Walk
def inSp (l:List Span) (n:Nat):Bool:=l.any fun s=>withinB n s.lo s.hi
def rowQ (f:Nat→Int) (H:Nat) (q:Nat→Bool):List Int:=(List.range H).map fun u=>if q u then f u else 0
theorem z186 (f:Nat→Int) (H:Nat) (q:Nat→Bool):(rowQ f H q).length=H:=by simp [rowQ]
theorem z109 {f:Nat→Int} {H:Nat} {q q':Nat→Bool} (h:∀ u<H,q u=q' u):rowQ f H q=rowQ f H q' :=
 List.map_congr_left fun u hu=>by rw [h u (List.mem_range.1 hu)]
theorem z653 (f:Nat→Int) (H:Nat):rowQ f H (fun _=>false)=List.replicate H 0:=by
 apply List.ext_getElem <;> simp [rowQ]
theorem z254 (f:Nat→Int) {H:Nat} (q:Nat→Bool) {t:Nat} (h:t<H):(rowQ f H q)[t]?=some (if q t then f t else 0):=by
 simp [rowQ,List.getElem?_range h]
theorem z880 (f:Nat→Int) {H:Nat} (q:Nat→Bool) {t:Nat} (h:t<H):(rowQ f H q).set t (f t)=rowQ f H (fun u=>q u || u == t):=by
 apply List.ext_getElem?
 intro i
 rw [List.getElem?_set]
 by_cases hi:t=i
 ·subst hi
  rw [if_pos rfl,z186,if_pos h,z254 f _ h]
  simp
 ·rw [if_neg hi]
  by_cases hiH:i<H
  ·rw [z254 f _ hiH,z254 f _ hiH]
   have e:(i == t)=false:=by have:=Ne.symm hi;simpa using this
   rw [e,Bool.or_false]
  ·rw [List.getElem?_eq_none (by rw [z186];omega),List.getElem?_eq_none (by rw [z186];omega)]
theorem z209 (H:Nat):List.replicate H [DV.i 0]=intRows (List.replicate H 0):=by simp [intRows]
def heatF (S:List (List Hour)) (t:Nat):Int:=max 0 (hullAll S (t:Int)).temp.hi
def heatL (S:List (List Hour)) (H:Nat):List Int:=rowQ (heatF S) H fun _=>true
def sureC (S:List (List Hour)) (H:Nat) (c:Carrier):List Span:=spansQ (fun i=>S.all fun s=>alwaysB c.lim (hourAt s (i:Int))) H
def loadOf (S:List (List Hour)) (c:Carrier) (t:Nat):Int:=max 0 (wr (c.lift - wr (c.heat * heatF S t)))
def loadRow (S:List (List Hour)) (H:Nat) (c:Carrier):List Int:=rowQ (loadOf S c) H (inSp (sureC S H c))
def hutRow (s:Supply) (L:List (List Int)) (H:Nat):List DV:=[.sl (scenRows s.scen),.sl (sightRows s.seen),.i s.stock,.i s.reserve,.i s.room,.i s.use.lo,.i s.use.hi,.sl (carrRows s.carr),.sl (listRows L),.i H]
def Supply.scens (s:Supply):List (List Hour):=scensOf (possL s.scen s.seen)
def Supply.hours (s:Supply):Nat:=(hd0 s.scen).length
def Supply.loads (s:Supply):List (List Int):=s.carr.map (loadRow s.scens s.hours)
def hutOf (s:Supply):List DV:=hutRow s s.loads s.hours
def openS6 (s:Supply) (told:Bool):Int:=if suppE s=0 then (if told then 0 else 1) else suppE s
theorem zf42n (row:List DV):Fn Tryz.prog 72 [.ptr row 0,.sl []] (.bool true):=by
 refine z14 82 Tryz.call72 Tryz.func72 rfl (by decide) fun J=>?_
 simp only [go_sem,St.start,Tryz.ntmps72,Tryz.results72]
 repeat (first | refine nx ?_ | (refine z10 fun K hK=>?_;simp only [go_sem];apply hK;clear hK K))
 refine z15 (fun (_:Unit)=>[(10,.d (.i 0))]) (fun _=>[]) (fun _=>True) (fun _=>0) () ?_ trivial ?_
 ·simp only [go_sem]
  refine weA ?_ ?_ <;> simp
 ·intro _ _
  simp only [go_sem]
  repeat (first | refine nx ?_ | (refine z10 fun K hK=>?_;simp only [go_sem];apply hK;clear hK K))
  refine z11 rfl ?_
  repeat (first | refine nx ?_ | (refine z10 fun K hK=>?_;simp only [go_sem];apply hK;clear hK K))
  simp only [go_sem]
def openT6 (s:Supply) (ok told:Bool):Int:=if suppE s=0 then (if ok then (if told then 0 else 1) else 62) else suppE s
theorem zf51g (s:Supply) (T:List (Int × Int)) (ok told:Bool) (hs:SuppSmall s) (h42:suppE s=0→Fn Tryz.prog 72 [.ptr (hutOf s) 0,.sl (tripRows T)] (.bool ok)) :
  Fn Tryz.prog 38 [.agg s.cells,.sl (tripRows T),.bool told] (.tup [if openT6 s ok told=0 then .ptr (hutOf s) 0 else .nilptr,.i (openT6 s ok told)]):=by
 have h39:=zf69 s hs
 obtain ⟨e,he⟩:∃ e,e=suppE s:=⟨_,rfl⟩
 rw [← he] at h39
 rw [← he] at h42
 unfold openT6
 rw [← he]
 rw [Supply.cells] at h39
 have hcl:=hs.carr
 refine z14 135 Tryz.call38 Tryz.func38 rfl (by decide) fun J=>?_
 simp only [go_sem,St.start,Tryz.ntmps38,Tryz.results38,Supply.cells]
 by_cases h0:e=0
 ·rw [if_pos h0]
  have hz:(e != 0)=false:=by simp [h0]
  have hlk:lookF s.scen s.seen 0 true=0:=by
   rw [he,suppE] at h0
   split at h0
   ·assumption
   ·rename_i hn;exact absurd h0 hn
  obtain ⟨hg,hsi,hpn,_,_⟩:=z190 hlk
  have hF:=hg.scen
  have hH:=hg.hours
  have h00:s.scen[0]?=some (hd0 s.scen):=z75 (by omega)
  have g0:=z35 h00
  obtain ⟨H,hHd⟩:∃ H,H=(hd0 s.scen).length:=⟨_,rfl⟩
  obtain ⟨S,hS⟩:∃ S,S=scensOf (possL s.scen s.seen):=⟨_,rfl⟩
  have hmk:(H:Int)≤1099511627776:=by omega
  have hlen:(hd0 s.scen).length=H:=hHd.symm
  have h40:∀ t:Nat,t<H→Fn Tryz.prog 70 [.agg [.sl (scenRows s.scen)],.sl (sightRows s.seen),.i (t:Int)] (.tup [.agg (hullAll S (t:Int)).row,.i 0]):=fun t ht=>by
   have h:=zf70 s.scen s.seen (t:Int) hs.fore hs.seen
   have hw:withinB (t:Int) 0 ((hd0 s.scen).length - 1)=true:=z24.2 (by omega)
   rw [rangeF,hw,if_pos hlk,← hS] at h
   exact h
  have hrep:=z209 H
  have hcarr:∀ c ∈ s.carr,carrBad c=false:=fun c hc=>by
   rw [he,suppE,if_pos hlk] at h0
   split at h0
   ·exact absurd h0 (by decide)
   ·split at h0
    ·exact absurd h0 (by decide)
    ·rename_i h2
     simp only [carrsBad,Bool.or_eq_true,not_or,Bool.not_eq_true] at h2
     have:=h2.2
     rw [List.any_eq_false] at this
     simpa using this c hc
  repeat (first | refine z12 rfl ?_ | refine z11 rfl ?_ | refine nx ?_ | (refine z10 fun K hK=>?_;simp only [go_sem,hz];(repeat (first | (refine ⟨_,.lent (hf:=h39) (hd:=rfl) (hr:=rfl),?_⟩;simp only [go_sem,hz]) | (refine ⟨_,.given (hf:=h39) (hd:=rfl) (ha:=rfl),?_⟩;simp only [go_sem,hz])));apply hK;clear hK K))
  refine z16 (by kernel_rfl) (by kernel_rfl) fun K hK=>?_
  simp only [go_sem,g0,hlen]
  refine ⟨by kernel_rfl,hK _ ?_⟩
  clear hK K
  repeat (first | refine nx ?_ | (refine z10 fun K hK=>?_;simp only [go_sem,hmk,hrep];apply hK;clear hK K))
  have hq0:intRows (List.replicate H 0)=intRows (rowQ (heatF S) H (fun u=>decide (u<0))):=by
   rw [← z653 (heatF S) H,z109 (q':=fun u=>decide (u<0)) (fun u _=>by simp)]
  refine z15 (fun (i:Nat)=>[(45,.d (.i i))]) (fun i=>[(42,some (.arr 3 1 (intRows (rowQ (heatF S) H (fun u=>decide (u<i))))))]) (fun i=>i≤H) (fun i=>H - i) 0 ?_ (Nat.zero_le _) ?_
  ·rw [← hq0]
   simp only [go_sem]
   refine weA ?_ ?_ <;> simp
   all_goals first | done | rfl
  ·intro i hi
   have hAl:=z186 (heatF S) H (fun u=>decide (u<i))
   simp only [go_sem]
   repeat (first | refine nx ?_ | (refine z10 fun K hK=>?_;simp only [go_sem];apply hK;clear hK K))
   refine z13 rfl (fun hb=>?_) (fun hb=>?_)
   ·have hlt:i<H:=by simpa using hb
    have hw:IntKind.i64.wrap ((i:Int) + 1)=((i + 1:Nat):Int):=by rw [z17 (by omega)];simp
    have c40:=h40 i hlt
    rw [Hour.row] at c40
    have gA:=z38 (z254 (heatF S) (fun u=>decide (u<i)) hlt)
    have su:(intRows (rowQ (heatF S) H (fun u=>decide (u<i)))).set i [.i (max 0 (hullAll S (i:Int)).temp.hi)]=intRows (rowQ (heatF S) H (fun u=>decide (u<i + 1))):=by
     rw [z51]
     have:=z880 (heatF S) (fun u=>decide (u<i)) hlt
     rw [heatF] at this
     rw [this]
     congr 1
     exact z109 fun u _=>by
      by_cases h1:u<i
      ·simp [h1];omega
      ·by_cases h2:u=i
       ·simp [h2]
       ·have h3:¬ u<i + 1:=by omega
        simp [h1,h2,h3]
    obtain ⟨A,hA⟩:∃ A,A=rowQ (heatF S) H (fun u=>decide (u<i)):=⟨_,rfl⟩
    rw [← hA] at su gA hAl ⊢
    have hiA:i<A.length:=by omega
    repeat (first | refine nx ?_ | (refine z10 fun K hK=>?_;simp only [go_sem,gA,hiA,su,hw];(repeat (first | (refine ⟨_,.lent (hf:=c40) (hd:=rfl) (hr:=rfl),?_⟩;simp only [go_sem,gA,hiA,su,hw]) | (refine ⟨_,.given (hf:=c40) (hd:=rfl) (ha:=rfl),?_⟩;simp only [go_sem,gA,hiA,su,hw])));apply hK;clear hK K))
    refine ⟨rfl,i + 1,?_,hlt,by omega⟩
    refine weA ?_ ?_ <;> simp
    all_goals first | done | rfl
   ·have he:i=H:=by (have:¬ i<H:=by simpa using hb);omega
    subst he
    rw [show rowQ (heatF S) i (fun u=>decide (u<i))=heatL S i from z109 fun u hu=>by simp [hu]]
    repeat (first | refine nx ?_ | (refine z10 fun K hK=>?_;simp only [go_sem];apply hK;clear hK K))
    obtain ⟨B,hB⟩:∃ B,B=heatL S i:=⟨_,rfl⟩
    rw [← hB]
    refine z15 (fun (k:Nat)=>[(68,.d (.i k))]) (fun k=>[(37,some (.box [.d (.sl (scenRows s.scen)),.d (.sl (sightRows s.seen)),.d (.i s.stock),.d (.i s.reserve),.d (.i s.room),.d (.i s.use.lo),.d (.i s.use.hi),.d (.sl (carrRows s.carr)),.own 124,.d (.i i)])),(124,some (.arr 22 1 (listRows ((s.carr.take k).map (loadRow S i)))))]) (fun k=>k≤s.carr.length) (fun k=>s.carr.length - k) 0 ?_ (Nat.zero_le _) ?_
    ·simp only [go_sem]
     refine z53 [124] ?_ ?_ rfl rfl <;> simp [lessT,lessM,lessB,AV.less]
     all_goals first | done | rfl | exact ⟨rfl,rfl⟩ | trace_state
    ·intro k hk
     simp only [go_sem]
     repeat (first | refine nx ?_ | (refine z10 fun K hK=>?_;simp only [go_sem];apply hK;clear hK K))
     refine z13 rfl (fun hb=>?_) (fun hb=>?_)
     ·rw [z18] at hb
      have hlt:k<s.carr.length:=by simpa using hb
      have hw:IntKind.i64.wrap ((k:Int) + 1)=((k + 1:Nat):Int):=by rw [z17 (by omega)];simp
      obtain ⟨c,hc⟩:∃ c,s.carr[k]?=some c:=⟨_,List.getElem?_eq_getElem hlt⟩
      have gc:=z126 hc
      have hcb:=hcarr c (List.mem_of_getElem? hc)
      have c41:=zf71 s.scen s.seen c.lim hs.fore hs.seen
      have hlim:limE c.lim=0:=by
       unfold carrBad at hcb
       simp only [Bool.or_eq_false_iff,Bool.not_eq_false'] at hcb
       rw [limE,if_pos hcb.2.2.2]
      rw [keepsF,hlim,if_pos hlk,← hS,hlen] at c41
      obtain ⟨sp,hsp⟩:∃ sp,sp=sureC S i c:=⟨_,rfl⟩
      have hspb:∀ x ∈ sp,0≤x.lo∧x.lo≤x.hi∧x.hi<(i:Int):=by rw [hsp];exact z643 _ _
      have hspl:sp.length≤i:=by rw [hsp];exact z251 _ _
      rw [sureC] at hsp
      rw [← hsp] at c41
      dsimp only at c41
      rw [Limits.row] at c41
      have htk:(s.carr.take (k + 1)).map (loadRow S i)=(s.carr.take k).map (loadRow S i)++[loadRow S i c]:=by rw [List.take_add_one,hc];simp
      have hlr:loadRow S i c=rowQ (loadOf S c) i (inSp sp):=by rw [loadRow,sureC,← hsp]
      repeat (first | refine nx ?_ | (refine z10 fun K hK=>?_;simp only [go_sem,gc,hmk,hrep,Carrier.row,hw];(repeat (first | (refine ⟨_,.lent (hf:=c41) (hd:=rfl) (hr:=rfl),?_⟩;simp only [go_sem,gc,hmk,hrep,Carrier.row,hw]) | (refine ⟨_,.given (hf:=c41) (hd:=rfl) (ha:=rfl),?_⟩;simp only [go_sem,gc,hmk,hrep,Carrier.row,hw])));apply hK;clear hK K))
      have hr0:intRows (List.replicate i 0)=intRows (rowQ (loadOf S c) i (inSp (sp.take 0))):=by
       rw [← z653 (loadOf S c) i,z109 (q':=inSp (sp.take 0)) (fun u _=>by simp [inSp])]
      refine z15 (fun (j:Nat)=>[(90,.d (.i j))]) (fun j=>[(76,some (.arr 3 1 (intRows (rowQ (loadOf S c) i (inSp (sp.take j))))))]) (fun j=>j≤sp.length) (fun j=>sp.length - j) 0 ?_ (Nat.zero_le _) ?_
      ·rw [← hr0]
       simp only [go_sem]
       refine weA ?_ ?_ <;> simp
       all_goals first | done | rfl
      ·intro j hj
       simp only [go_sem]
       repeat (first | refine nx ?_ | (refine z10 fun K hK=>?_;simp only [go_sem];apply hK;clear hK K))
       refine z13 rfl (fun hb=>?_) (fun hb=>?_)
       ·have hltj:j<sp.length:=by simpa using hb
        have hwj:IntKind.i64.wrap ((j:Int) + 1)=((j + 1:Nat):Int):=by rw [z17 (by omega)];simp
        obtain ⟨x,hx⟩:∃ x,sp[j]?=some x:=⟨_,List.getElem?_eq_getElem hltj⟩
        have hxb:=hspb x (List.mem_of_getElem? hx)
        have gx:=z326 hx
        obtain ⟨a,ha⟩:∃ a:Nat,x.lo=a:=⟨x.lo.toNat,by omega⟩
        obtain ⟨b,hbb⟩:∃ b:Nat,x.hi=b:=⟨x.hi.toNat,by omega⟩
        rw [Span.row,ha,hbb] at gx
        have hsx:inSp (sp.take (j + 1))=fun u=>inSp (sp.take j) u || (decide (a≤u) && decide (u<b + 1)):=by
         funext u
         unfold inSp
         rw [List.take_add_one,hx,Option.toList_some,List.any_append,List.any_cons,List.any_nil,Bool.or_false,withinB,ha,hbb]
         congr 1
         congr 1
         ·exact decide_eq_decide.2 (by omega)
         ·exact decide_eq_decide.2 (by omega)
        repeat (first | refine nx ?_ | (refine z10 fun K hK=>?_;simp only [go_sem,gx];apply hK;clear hK K))
        obtain ⟨q,hq⟩:∃ q,q=inSp (sp.take j):=⟨_,rfl⟩
        rw [← hq] at hsx ⊢
        have hr1:intRows (rowQ (loadOf S c) i q)=intRows (rowQ (loadOf S c) i (fun u=>q u || (decide (a≤u) && decide (u<a)))):=by
         rw [z109 (q':=fun u=>q u || (decide (a≤u) && decide (u<a)))]
         intro u _
         have:(decide (a≤u) && decide (u<a))=false:=by
          cases h:decide (a≤u)
          ·rfl
          ·have:=of_decide_eq_true h
           simpa using this
         rw [this,Bool.or_false]
        refine z15 (fun (t:Nat)=>[(22,.d (.i t))]) (fun t=>[(76,some (.arr 3 1 (intRows (rowQ (loadOf S c) i (fun u=>q u || (decide (a≤u) && decide (u<t)))))))]) (fun t=>a≤t∧t≤b + 1) (fun t=>b + 1 - t) a ?_ ⟨Nat.le_refl _,by omega⟩ ?_
        ·rw [← hr1]
         simp only [go_sem]
         refine weA ?_ ?_ <;> simp
         all_goals first | done | rfl
        ·rintro t ⟨hta,htb⟩
         simp only [go_sem]
         repeat (first | refine nx ?_ | (refine z10 fun K hK=>?_;simp only [go_sem];apply hK;clear hK K))
         refine z13 rfl (fun hb=>?_) (fun hb=>?_)
         ·have hltt:t≤b:=by simpa using hb
          have hti:t<i:=by omega
          have hwt:IntKind.i64.wrap ((t:Int) + 1)=((t + 1:Nat):Int):=by rw [z17 (by omega)];simp
          have gB:(intRows B)[t]?=some [.i (heatF S t)]:=by rw [hB,heatL];exact z38 (by rw [z254 _ _ hti];rfl)
          have gA:=z38 (z254 (loadOf S c) (fun u=>q u || (decide (a≤u) && decide (u<t))) hti)
          have hAl2:=z186 (loadOf S c) i (fun u=>q u || (decide (a≤u) && decide (u<t)))
          have su:(intRows (rowQ (loadOf S c) i (fun u=>q u || (decide (a≤u) && decide (u<t))))).set t [.i (max 0 (wr (c.lift - wr (c.heat * heatF S t))))]=intRows (rowQ (loadOf S c) i (fun u=>q u || (decide (a≤u) && decide (u<t + 1)))):=by
           rw [z51]
           have:=z880 (loadOf S c) (fun u=>q u || (decide (a≤u) && decide (u<t))) hti
           rw [loadOf] at this
           rw [this]
           congr 1
           exact z109 fun u _=>by
            rw [Bool.or_assoc]
            congr 1
            by_cases h1:u<t
            ·have h2:u<t + 1:=by omega
             have h3:(u == t)=false:=by have:u≠t:=by omega
                                        simpa using this
             rw [h3,Bool.or_false,decide_eq_true h1,decide_eq_true h2]
            ·by_cases h2:u=t
             ·subst h2
              simp [hta]
             ·have h3:¬ u<t + 1:=by omega
              simp [h1,h2,h3]
          obtain ⟨A2,hA2⟩:∃ A2,A2=rowQ (loadOf S c) i (fun u=>q u || (decide (a≤u) && decide (u<t))):=⟨_,rfl⟩
          rw [← hA2] at su gA hAl2 ⊢
          have hiA:t<A2.length:=by omega
          have hiB:t<B.length:=by rw [hB,heatL,z186];exact hti
          repeat (first | refine z12 rfl ?_ | refine z11 rfl ?_ | refine nx ?_ | (refine z10 fun K hK=>?_;simp only [go_sem,gA,gB,hiA,hiB,su,hwt];apply hK;clear hK K) | (refine z16 (by kernel_rfl) (by kernel_rfl) fun K hK=>?_;simp only [go_sem,gA,gB,hiA,hiB,su,hwt];refine ⟨by kernel_rfl,hK _ ?_⟩;clear hK K))
          refine ⟨rfl,t + 1,?_,⟨by omega,by omega⟩,by omega⟩
          refine weA ?_ ?_ <;> simp
          all_goals first | done | rfl
         ·have het:t=b + 1:=by (have:¬ t≤b:=by simpa using hb);omega
          subst het
          rw [← hsx]
          repeat (first | refine nx ?_ | (refine z10 fun K hK=>?_;simp only [go_sem,hwj];apply hK;clear hK K))
          refine ⟨rfl,j + 1,?_,hltj,by omega⟩
          refine weA ?_ ?_ <;> simp
          all_goals first | done | rfl
       ·have he:j=sp.length:=by (have:¬ j<sp.length:=by simpa using hb);omega
        subst he
        rw [List.take_length,← hlr]
        obtain ⟨R,hR⟩:∃ R,R=loadRow S i c:=⟨_,rfl⟩
        obtain ⟨D,hD⟩:∃ D,D=(s.carr.take k).map (loadRow S i):=⟨_,rfl⟩
        have hDl:D.length≤k:=by rw [hD];simp;omega
        have hn:D.length + 1≤549755813888:=by omega
        rw [← hR,← hD] at htk ⊢
        repeat (first | refine nx ?_ | (refine z10 fun K hK=>?_;simp only [go_sem,hn,z26,hw];apply hK;clear hK K))
        refine ⟨rfl,k + 1,?_,hlt,by omega⟩
        rw [htk,show listRows (D++[R])=listRows D++[[.sl (intRows R)]] by simp [listRows]]
        refine weA ?_ ?_ <;> simp
        all_goals first | done | rfl | exact ⟨rfl,rfl⟩
     ·rw [z18] at hb
      have he:k=s.carr.length:=by (have:¬ k<s.carr.length:=by simpa using hb);omega
      subst he
      rw [List.take_length]
      have h42:=h42 h0
      simp only [hutOf,hutRow,Supply.loads,Supply.scens,Supply.hours,← hS,hlen] at h42
      cases ok
      ·repeat (first | refine z12 rfl ?_ | refine z11 rfl ?_ | refine nx ?_ | (refine z10 fun K hK=>?_;simp only [go_sem];(repeat (first | (refine ⟨_,.lent (hf:=h42) (hd:=rfl) (hr:=rfl),?_⟩;simp only [go_sem]) | (refine ⟨_,.given (hf:=h42) (hd:=rfl) (ha:=rfl),?_⟩;simp only [go_sem])));apply hK;clear hK K))
       simp only [go_sem]
      ·cases told
       ·repeat (first | refine z12 rfl ?_ | refine z11 rfl ?_ | refine nx ?_ | (refine z10 fun K hK=>?_;simp only [go_sem];(repeat (first | (refine ⟨_,.lent (hf:=h42) (hd:=rfl) (hr:=rfl),?_⟩;simp only [go_sem]) | (refine ⟨_,.given (hf:=h42) (hd:=rfl) (ha:=rfl),?_⟩;simp only [go_sem])));apply hK;clear hK K))
        simp only [go_sem]
       ·repeat (first | refine z12 rfl ?_ | refine z11 rfl ?_ | refine nx ?_ | (refine z10 fun K hK=>?_;simp only [go_sem];(repeat (first | (refine ⟨_,.lent (hf:=h42) (hd:=rfl) (hr:=rfl),?_⟩;simp only [go_sem]) | (refine ⟨_,.given (hf:=h42) (hd:=rfl) (ha:=rfl),?_⟩;simp only [go_sem])));apply hK;clear hK K))
        simp only [go_sem,hutOf,hutRow,Supply.loads,Supply.scens,Supply.hours,← hS,hlen]
 ·rw [if_neg h0,if_neg h0]
  have hz:(e != 0)=true:=by simp [h0]
  repeat (first | refine z12 rfl ?_ | refine z11 rfl ?_ | refine nx ?_ | (refine z10 fun K hK=>?_;simp only [go_sem,hz];(repeat (first | (refine ⟨_,.lent (hf:=h39) (hd:=rfl) (hr:=rfl),?_⟩;simp only [go_sem,hz]) | (refine ⟨_,.given (hf:=h39) (hd:=rfl) (ha:=rfl),?_⟩;simp only [go_sem,hz])));apply hK;clear hK K))
  simp only [go_sem]
theorem zf25n (s:Supply) (told:Bool) (hs:SuppSmall s) :
  Fn Tryz.prog 38 [.agg s.cells,.sl [],.bool told] (.tup [if openS6 s told=0 then .ptr (hutOf s) 0 else .nilptr,.i (openS6 s told)]):=by
 have:=zf51g s [] true told hs fun _=>zf42n _
 have e:openT6 s true told=openS6 s told:=by simp [openT6,openS6]
 rw [e] at this
 exact this
end Go.Ab
namespace Go.Ab
open Go.RowKit Go.Proofs
set_option maxHeartbeats 16000000
set_option maxRecDepth 20000
attribute [local irreducible] WalkL Walk
structure Flight where
 set:Int
 load:Int
 cost:Int
def Flight.row (f:Flight):List DV:=[.i f.set,.i f.load,.i f.cost]
def flRows (l:List Flight):List (List DV):=l.map Flight.row
def addF (i:Nat) (l cost:Int) (f:Flight):Flight:=⟨bOr .i64 f.set (bShl .i64 1 (i:Int)),wr (f.load + l),wr (f.cost + cost)⟩
def stepFl (i:Nat) (l cost:Int) (out:List Flight):List Flight:=if l=0 then out else out++out.map (addF i l cost)
def noCarrier:Carrier:=⟨0,0,0,⟨0,0,⟨0,0⟩⟩⟩
def flightsTo (cs:List Carrier) (L:List (List Int)) (h:Nat):Nat→List Flight
 | 0=>[⟨0,0,0⟩]
 | i + 1=>stepFl i (getI (L.getD i []) (h:Int)) (cs.getD i noCarrier).cost (flightsTo cs L h i)
def fl5:Nat→AV
 | 0=>.own 11
 | _=>.own 65
def fl32 (N:Nat) (R:List (List DV)):Nat→AV
 | 0=>.view 11 0 N
 | 1=>.d (.sl R)
 | _=>.view 65 0 N
def flM (b:Blk):Nat→Option Blk
 | 0=>some b
 | _=>none
def flM' (b:Blk):Nat→Option Blk
 | 0=>none
 | _=>some b
end Go.Ab
namespace Go.Ab
open Go.RowKit Go.Proofs
set_option maxHeartbeats 8000000
set_option maxRecDepth 20000
attribute [local irreducible] WalkL Walk
def fitsB6 (s:Supply) (h b:Int):Bool:=decide (wr (wr (s.stock + b) - wr (h * s.use.lo))≤s.room)
def suffB (s:Supply) (h b:Int):Bool:=decide (wr (wr (s.stock + b) - wr (wr (h + 1) * s.use.hi)) ≥ s.reserve)
def okFl (s:Supply) (h b:Int) (f:Flight):Bool:=fitsB6 s h (wr (b + f.load)) && suffB s h (wr (b + f.load))
def nextItem (h b:Int) (f:Flight):List DV:=[.agg f.row,.agg [.i (wr (h + 1)),.i (wr (b + f.load))]]
def nextF (s:Supply) (fl:List Flight) (h b:Int):List Flight:=fl.filter (okFl s h b)
end Go.Ab
namespace Go.Ab
open Go.RowKit Go.Proofs
set_option maxHeartbeats 16000000
set_option maxRecDepth 20000
attribute [local irreducible] WalkL Walk
structure Way where
 cost:Int
 fl:Flight
def wayD:Option Way→DV
 | none=>.nilptr
 | some w=>.ptr [.i w.cost,.i w.fl.set,.i w.fl.load,.i w.fl.cost] 0
abbrev Ent:=(Int × Int) × Option Way × Nat
def memE (es:List Ent):List (MK × DV × Nat):=es.map fun e=>(.s [e.1.1,e.1.2],wayD e.2.1,e.2.2)
def lookE:List Ent→Int × Int→Nat→Option (Nat × Option Way × Nat)
 | [],_,_=>none
 | e::es,k,i=>if k=e.1 then some (i,e.2.1,e.2.2) else lookE es k (i + 1)
def putE:List Ent→Int × Int→Option Way→Nat→List Ent × Nat
 | [],k,w,c=>([(k,w,c)],c + 1)
 | e::es,k,w,c=>if k=e.1 then ((k,w,e.2.2)::es,c) else (e::(putE es k w c).1,(putE es k w c).2)
def better (best:Option Way) (f:Flight):Option Way→Option Way
 | none=>best
 | some w=>match best with
  | none=>some ⟨wr (f.cost + w.cost),f⟩
  | some v=>if wr (f.cost + w.cost)<v.cost then some ⟨wr (f.cost + w.cost),f⟩ else best
def doneW:Option Way:=some ⟨0,⟨0,0,0⟩⟩
def findM (s:Supply) (L:List (List Int)) (H:Nat):Nat→Int→List Ent × Nat→Option Way × (List Ent × Nat)
 | 0,b,m=>(doneW,putE m.1 ((H:Int),b) doneW m.2)
 | n + 1,b,m=>match lookE m.1 (((H - (n + 1):Nat):Int),b) 0 with
  | some (_,v,_)=>(v,m)
  | none=>(((nextF s (flightsTo s.carr L (H - (n + 1)) L.length) ((H - (n + 1):Nat):Int) b).foldl (fun a f=>(better a.1 f (findM s L H n (wr (b + f.load)) a.2).1,(findM s L H n (wr (b + f.load)) a.2).2)) (none,m)).1,
   putE ((nextF s (flightsTo s.carr L (H - (n + 1)) L.length) ((H - (n + 1):Nat):Int) b).foldl (fun a f=>(better a.1 f (findM s L H n (wr (b + f.load)) a.2).1,(findM s L H n (wr (b + f.load)) a.2).2)) (none,m)).2.1 (((H - (n + 1):Nat):Int),b)
    ((nextF s (flightsTo s.carr L (H - (n + 1)) L.length) ((H - (n + 1):Nat):Int) b).foldl (fun a f=>(better a.1 f (findM s L H n (wr (b + f.load)) a.2).1,(findM s L H n (wr (b + f.load)) a.2).2)) (none,m)).1
    ((nextF s (flightsTo s.carr L (H - (n + 1)) L.length) ((H - (n + 1):Nat):Int) b).foldl (fun a f=>(better a.1 f (findM s L H n (wr (b + f.load)) a.2).1,(findM s L H n (wr (b + f.load)) a.2).2)) (none,m)).2.2)
end Go.Ab
namespace Go.Ab
open Go.RowKit Go.Proofs
def lookW (es:List Ent) (k:Int × Int):Option (Option Way):=(lookE es k 0).map (·.2.1)
structure GoodM (H:Nat) (es:List Ent):Prop where
 done:∀ b v,lookW es ((H:Int),b)=some v→v=doneW
 next:∀ (h:Nat) b w,h<H→lookW es ((h:Int),b)=some (some w)→∃ w',lookW es (((h + 1:Nat):Int),wr (b + w.fl.load))=some (some w')
end Go.Ab
namespace Go.Ab
open Go.RowKit Go.Proofs
set_option maxHeartbeats 8000000
set_option maxRecDepth 20000
attribute [local irreducible] WalkL Walk
structure Small6 (s:Supply):Prop where
 len:s.loads.length=s.carr.length
 few:s.loads.length≤4
 rows:∀ r ∈ s.loads,r.length=s.hours
 hours:1≤s.hours∧s.hours≤48
 look:lookF s.scen s.seen 0 true=0
def foundM (s:Supply):Option Way × (List Ent × Nat):=findM s s.loads s.hours s.hours 0 ([],0)
def planE (s:Supply):Int:=if (foundM s).1.isNone then 3 else 0
end Go.Ab
namespace Go.Ab
open Go.RowKit Go.Proofs
set_option maxHeartbeats 8000000
set_option maxRecDepth 20000
attribute [local irreducible] WalkL Walk
def bitB (set:Int) (c:Nat):Bool:=bAnd .i64 (bShr .i64 set (c:Int)) 1 == 1
def tripsTo (h:Nat) (set:Int) (n:Nat):List (Int × Int):=((List.range n).filter (bitB set)).map fun (c:Nat)=>((h:Int),(c:Int))
def planT (es:List Ent) (n:Nat):Nat→Nat→Int→Way→List (Int × Int)
 | 0,_,_,_=>[]
 | k + 1,h,b,w=>tripsTo h w.fl.set n++match lookW es (((h + 1:Nat):Int),wr (b + w.fl.load)) with
  | some (some w')=>planT es n k (h + 1) (wr (b + w.fl.load)) w'
  | _=>[]
def planS (s:Supply):List (Int × Int) × Int × Int:=match (foundM s).1 with
 | none=>([],0,3)
 | some w=>(planT (foundM s).2.1 s.carr.length s.hours 0 0 w,w.cost,0)
end Go.Ab
namespace Go.Ab
open Go.RowKit Go.Proofs
set_option maxHeartbeats 8000000
set_option maxRecDepth 20000
attribute [local irreducible] WalkL Walk
theorem z339 {a b:List Int} (hl:a.length=b.length) (h:a.take a.length=b.take a.length):a=b:=by
 rw [List.take_length,hl,List.take_length] at h
 exact h
def storeBadR (s:Supply):Bool:=!withinB s.room 0 5000 || (!withinB s.stock 0 s.room || (!withinB s.reserve 0 s.room || (!withinB s.use.lo 0 s.use.hi || decide (s.use.hi > 500))))
theorem z642 (s:Supply):storeBadR s=storeBad s:=by
 unfold storeBadR storeBad
 congr 1;congr 1;congr 1
 rw [Bool.eq_iff_iff]
 simp [withinB,orderedB]
 omega
theorem zf55 (s:Supply) (hs:SuppSmall s):Fn Tryz.prog 55 [.agg s.cells] (.i (suppE s)):=by
 have h36:=zf83 s.scen s.seen hs.fore hs.seen
 have hcl:=hs.carr
 refine z14 95 Tryz.call55 Tryz.func55 rfl (by decide) fun J=>?_
 simp only [go_sem,St.start,Tryz.ntmps55,Tryz.results55,Supply.cells]
 obtain ⟨e,he⟩:∃ e,e=lookF s.scen s.seen 0 true:=⟨_,rfl⟩
 rw [suppE,← he]
 rw [← he] at h36
 by_cases h0:e=0
 ·rw [if_pos h0]
  have hz:(e != 0)=false:=by simp [h0]
  rw [← z642]
  repeat (first | refine z12 rfl ?_ | refine z11 rfl ?_ | refine nx ?_ | (refine z10 fun K hK=>?_;simp only [go_sem,hz];(repeat (first | (refine ⟨_,.lent (hf:=h36) (hd:=rfl) (hr:=rfl),?_⟩;simp only [go_sem,hz]) | (refine ⟨_,.given (hf:=h36) (hd:=rfl) (ha:=rfl),?_⟩;simp only [go_sem,hz])));apply hK;clear hK K))
  refine z56 [(56,.d (.bool (storeBadR s)))] [] ?_ ?_
  ·refine z10 fun K hK=>?_
   simp only [go_sem]
   refine ⟨_,.lent (hf:=z1077 s.room 0 5000) (hd:=rfl) (hr:=rfl),?_⟩
   simp only [go_sem]
   by_cases ho0:(!withinB s.room 0 5000)=true
   ·simp only [go_sem,ho0]
    apply hK
    clear hK K
    refine z21 ?_
    refine z19 ?_
    refine ⟨rfl,?_⟩
    rw [show (storeBadR s)=(true) from by simp [storeBadR,ho0]]
    simp only [go_sem]
    refine weA ?_ ?_ <;> simp
   ·simp only [go_sem,ho0]
    refine ⟨_,.lent (hf:=z1077 s.stock 0 s.room) (hd:=rfl) (hr:=rfl),?_⟩
    simp only [go_sem,ho0]
    by_cases ho1:(!withinB s.stock 0 s.room)=true
    ·simp only [go_sem,ho0,ho1]
     apply hK
     clear hK K
     refine z21 ?_
     refine z19 ?_
     refine ⟨rfl,?_⟩
     rw [show (storeBadR s)=(true) from by simp [storeBadR,ho0,ho1]]
     simp only [go_sem]
     refine weA ?_ ?_ <;> simp
    ·simp only [go_sem,ho0,ho1]
     refine ⟨_,.lent (hf:=z1077 s.reserve 0 s.room) (hd:=rfl) (hr:=rfl),?_⟩
     simp only [go_sem,ho0,ho1]
     by_cases ho2:(!withinB s.reserve 0 s.room)=true
     ·simp only [go_sem,ho0,ho1,ho2]
      apply hK
      clear hK K
      refine z21 ?_
      refine z19 ?_
      refine ⟨rfl,?_⟩
      rw [show (storeBadR s)=(true) from by simp [storeBadR,ho0,ho1,ho2]]
      simp only [go_sem]
      refine weA ?_ ?_ <;> simp
     ·simp only [go_sem,ho0,ho1,ho2]
      refine ⟨_,.lent (hf:=z1077 s.use.lo 0 s.use.hi) (hd:=rfl) (hr:=rfl),?_⟩
      simp only [go_sem,ho0,ho1,ho2]
      by_cases ho3:(!withinB s.use.lo 0 s.use.hi)=true
      ·simp only [go_sem,ho0,ho1,ho2,ho3]
       apply hK
       clear hK K
       refine z21 ?_
       refine z19 ?_
       refine ⟨rfl,?_⟩
       rw [show (storeBadR s)=(true) from by simp [storeBadR,ho0,ho1,ho2,ho3]]
       simp only [go_sem]
       refine weA ?_ ?_ <;> simp
      ·simp only [go_sem,ho0,ho1,ho2,ho3]
       apply hK
       clear hK K
       refine z21 ?_
       refine z19 ?_
       refine ⟨rfl,?_⟩
       rw [show (storeBadR s)=(decide (s.use.hi > 500)) from by simp [storeBadR,ho0,ho1,ho2,ho3]]
       simp only [go_sem]
       refine weA ?_ ?_ <;> simp
  ·simp only [go_sem]
   repeat (first | refine nx ?_ | (refine z10 fun K hK=>?_;simp only [go_sem];apply hK;clear hK K))
   refine z13 rfl (fun hc=>?_) (fun hc=>?_)
   ·repeat (first | refine nx ?_ | (refine z10 fun K hK=>?_;simp only [go_sem];apply hK;clear hK K))
    simp only [go_sem,hc]
   ·have hc0:=hc
    repeat (first | refine nx ?_ | (refine z10 fun K hK=>?_;simp only [go_sem,z18];apply hK;clear hK K))
    refine z13 rfl (fun hc=>?_) (fun hc=>?_)
    ·have hq:carrsBad s=true:=by rw [carrsBad,hc];rfl
     repeat (first | refine nx ?_ | (refine z10 fun K hK=>?_;simp only [go_sem];apply hK;clear hK K))
     simp only [go_sem,hc0,hq]
    ·have hc1:=hc
     repeat (first | refine nx ?_ | (refine z10 fun K hK=>?_;simp only [go_sem];apply hK;clear hK K))
     refine z15 (fun (i:Nat)=>[(6,.d (.i i))]) (fun _=>[]) (fun i=>i≤s.carr.length∧(s.carr.take i).any carrBad=false) (fun i=>s.carr.length - i) 0 ?_ ⟨Nat.zero_le _,by simp⟩ ?_
     ·simp only [go_sem]
      refine weA ?_ ?_ <;> simp
     ·intro i ⟨hi,hno⟩
      simp only [go_sem]
      repeat (first | refine nx ?_ | (refine z10 fun K hK=>?_;simp only [go_sem,z18];apply hK;clear hK K))
      refine z13 rfl (fun hb=>?_) (fun hb=>?_)
      ·have hlt:i<s.carr.length:=by simpa using hb
       have hw:IntKind.i64.wrap ((i:Int) + 1)=((i + 1:Nat):Int):=by rw [z17 (by omega)];simp
       obtain ⟨c,hcc⟩:∃ c,s.carr[i]?=some c:=⟨_,List.getElem?_eq_getElem hlt⟩
       have gc:=z126 hcc
       have h37:=zf84 c.lim
       rw [Limits.row] at h37
       repeat (first | refine nx ?_ | (refine z10 fun K hK=>?_;simp only [go_sem,gc,Carrier.row];apply hK;clear hK K))
       refine z56 [(94,.d (.bool (carrBad c)))] [] ?_ ?_
       ·refine z10 fun K hK=>?_
        simp only [go_sem]
        refine ⟨_,.lent (hf:=z1077 c.lift 0 1000) (hd:=rfl) (hr:=rfl),?_⟩
        simp only [go_sem]
        by_cases ho0:(!withinB c.lift 0 1000)=true
        ·simp only [go_sem,ho0]
         apply hK
         clear hK K
         refine z21 ?_
         refine z19 ?_
         refine ⟨rfl,?_⟩
         rw [show (carrBad c)=(true) from by simp [carrBad,ho0]]
         simp only [go_sem]
         refine weA ?_ ?_ <;> simp
        ·simp only [go_sem,ho0]
         refine ⟨_,.lent (hf:=z1077 c.heat 0 50) (hd:=rfl) (hr:=rfl),?_⟩
         simp only [go_sem,ho0]
         by_cases ho1:(!withinB c.heat 0 50)=true
         ·simp only [go_sem,ho0,ho1]
          apply hK
          clear hK K
          refine z21 ?_
          refine z19 ?_
          refine ⟨rfl,?_⟩
          rw [show (carrBad c)=(true) from by simp [carrBad,ho0,ho1]]
          simp only [go_sem]
          refine weA ?_ ?_ <;> simp
         ·simp only [go_sem,ho0,ho1]
          refine ⟨_,.lent (hf:=z1077 c.cost 0 10000) (hd:=rfl) (hr:=rfl),?_⟩
          simp only [go_sem,ho0,ho1]
          by_cases ho2:(!withinB c.cost 0 10000)=true
          ·simp only [go_sem,ho0,ho1,ho2]
           apply hK
           clear hK K
           refine z21 ?_
           refine z19 ?_
           refine ⟨rfl,?_⟩
           rw [show (carrBad c)=(true) from by simp [carrBad,ho0,ho1,ho2]]
           simp only [go_sem]
           refine weA ?_ ?_ <;> simp
          ·simp only [go_sem,ho0,ho1,ho2]
           refine ⟨_,.lent (hf:=h37) (hd:=rfl) (hr:=rfl),?_⟩
           simp only [go_sem,ho0,ho1,ho2]
           apply hK
           clear hK K
           refine z21 ?_
           refine z19 ?_
           refine ⟨rfl,?_⟩
           rw [show (carrBad c)=(!limB c.lim) from by simp [carrBad,ho0,ho1,ho2]]
           simp only [go_sem]
           refine weA ?_ ?_ <;> simp
       ·simp only [go_sem]
        repeat (first | refine nx ?_ | (refine z10 fun K hK=>?_;simp only [go_sem];apply hK;clear hK K))
        refine z13 rfl (fun hc=>?_) (fun hc=>?_)
        ·have hq:carrsBad s=true:=by
          rw [carrsBad,Bool.or_eq_true]
          exact .inr (List.any_eq_true.2 ⟨c,List.mem_of_getElem? hcc,hc⟩)
         repeat (first | refine nx ?_ | (refine z10 fun K hK=>?_;simp only [go_sem];apply hK;clear hK K))
         simp only [go_sem,hc0,hq]
        ·have hnx:(s.carr.take (i + 1)).any carrBad=false:=by
          rw [List.take_add_one,hcc,Option.toList_some,List.any_append,hno]
          simp [hc]
         repeat (first | refine nx ?_ | (refine z10 fun K hK=>?_;simp only [go_sem,hw];apply hK;clear hK K))
         refine ⟨rfl,i + 1,?_,⟨hlt,hnx⟩,by omega⟩
         refine weA ?_ ?_ <;> simp
      ·have he:i=s.carr.length:=by (have:¬ i<s.carr.length:=by simpa using hb);omega
       subst he
       rw [List.take_length] at hno
       have hq:carrsBad s=false:=by rw [carrsBad,hc1,hno];rfl
       repeat (first | refine nx ?_ | (refine z10 fun K hK=>?_;simp only [go_sem];apply hK;clear hK K))
       simp only [go_sem,hc0,hq]
 ·rw [if_neg h0]
  have hz:(e != 0)=true:=by simp [h0]
  repeat (first | refine z12 rfl ?_ | refine z11 rfl ?_ | refine nx ?_ | (refine z10 fun K hK=>?_;simp only [go_sem,hz];(repeat (first | (refine ⟨_,.lent (hf:=h36) (hd:=rfl) (hr:=rfl),?_⟩;simp only [go_sem,hz]) | (refine ⟨_,.given (hf:=h36) (hd:=rfl) (ha:=rfl),?_⟩;simp only [go_sem,hz])));apply hK;clear hK K))
  simp only [go_sem]
def exS:Supply:=⟨exF,[],30,10,60,⟨5,8⟩,[⟨20,1,7,⟨40,0,⟨-5,15⟩⟩⟩,⟨15,0,4,⟨200,100,⟨-50,50⟩⟩⟩]⟩
theorem zf13 (s:Supply) (hs:SuppSmall s):Fn Tryz.prog 13 [.agg s.cells] (.agg s.cells):=by
 have h33:=zf33 s.scen hs.fore
 have h1:=hs.seen
 have h2:=hs.carr
 have e1:s.seen.length≤549755813888:=by omega
 have e2:s.carr.length≤549755813888:=by omega
 refine z14 20 Tryz.call13 Tryz.func13 rfl (by decide) fun J=>?_
 simp only [go_sem,St.start,Tryz.ntmps13,Tryz.results13,Supply.cells]
 repeat (first | refine nx ?_ | (refine z10 fun K hK=>?_;simp only [go_sem,e1,e2,z18,z159,List.nil_append];(repeat (first | (refine ⟨_,.lent (hf:=h33) (hd:=rfl) (hr:=rfl),?_⟩;simp only [go_sem,e1,e2,z18,z159,List.nil_append]) | (refine ⟨_,.given (hf:=h33) (hd:=rfl) (ha:=rfl),?_⟩;simp only [go_sem,e1,e2,z18,z159,List.nil_append])));apply hK;clear hK K))
 simp only [go_sem]
end Go.Ab
namespace Go.Ab
open Go.RowKit Go.Proofs
set_option maxHeartbeats 8000000
set_option maxRecDepth 20000
attribute [local irreducible] WalkL Walk
def far6 (s:Supply):Bool:=far5 s.scen s.seen || (decide ((s.carr.length:Int) > 20) || (suppE s == 0 && (decide ((s.hours:Int) > 6) || (decide ((s.scen.length:Int) > 3) || decide ((s.carr.length:Int) > 2)))))
theorem z1006 {s:Supply} (h:suppE s=0):lookF s.scen s.seen 0 true=0:=by
 unfold suppE at h
 split at h
 ·assumption
 ·rename_i h1;exact absurd h h1
theorem zf27 (s:Supply) (hs:SuppSmall s):Fn Tryz.prog 27 [.agg s.cells] (.bool (far6 s)):=by
 have h35:=zf54 s.scen s.seen hs.fore
 have h18:=zf55 s hs
 obtain ⟨e,he⟩:∃ e,e=suppE s:=⟨_,rfl⟩
 obtain ⟨q,hq⟩:∃ q,q=far5 s.scen s.seen:=⟨_,rfl⟩
 unfold far6
 rw [← he,← hq]
 rw [← he] at h18
 rw [← hq] at h35
 rw [Supply.cells] at h18
 refine z14 36 Tryz.call27 Tryz.func27 rfl (by decide) fun J=>?_
 simp only [go_sem,St.start,Tryz.ntmps27,Tryz.results27,Supply.cells]
 cases q
 ·cases q2:decide ((s.carr.length:Int) > 20)
  ·by_cases h0:e=0
   ·have hz:(e == 0)=true:=by simp [h0]
    have hlk:=z1006 (s:=s) (by rw [← he];exact h0)
    obtain ⟨hg,_⟩:=z190 hlk
    have hF:=hg.scen
    have h19:=z1198 s.scen (hd0 s.scen) (z75 (by omega))
    have hh:s.hours=(hd0 s.scen).length:=rfl
    obtain ⟨b3,hb3⟩:∃ b,b=decide ((s.hours:Int) > 6):=⟨_,rfl⟩
    obtain ⟨b4,hb4⟩:∃ b,b=decide ((s.scen.length:Int) > 3):=⟨_,rfl⟩
    rw [← hh] at h19
    rw [← hb3,← hb4]
    have hb3':=hb3.symm
    have hb4':=hb4.symm
    cases b3 <;> cases b4
    all_goals
     repeat (first | refine z12 rfl ?_ | refine z11 rfl ?_ | refine nx ?_ | (refine z10 fun K hK=>?_;simp only [go_sem,z18,z41,q2,hz,hb3',hb4'];(repeat (first | (refine ⟨_,.lent (hf:=h35) (hd:=rfl) (hr:=rfl),?_⟩;simp only [go_sem,z18,z41,q2,hz,hb3',hb4']) | (refine ⟨_,.lent (hf:=h18) (hd:=rfl) (hr:=rfl),?_⟩;simp only [go_sem,z18,z41,q2,hz,hb3',hb4']) | (refine ⟨_,.lent (hf:=h19) (hd:=rfl) (hr:=rfl),?_⟩;simp only [go_sem,z18,z41,q2,hz,hb3',hb4']) | (refine ⟨_,.given (hf:=h35) (hd:=rfl) (ha:=rfl),?_⟩;simp only [go_sem,z18,z41,q2,hz,hb3',hb4']) | (refine ⟨_,.given (hf:=h18) (hd:=rfl) (ha:=rfl),?_⟩;simp only [go_sem,z18,z41,q2,hz,hb3',hb4']) | (refine ⟨_,.given (hf:=h19) (hd:=rfl) (ha:=rfl),?_⟩;simp only [go_sem,z18,z41,q2,hz,hb3',hb4'])));apply hK;clear hK K))
     simp only [go_sem,hz,q2]
   ·have hz:(e == 0)=false:=by simp [h0]
    repeat (first | refine z12 rfl ?_ | refine z11 rfl ?_ | refine nx ?_ | (refine z10 fun K hK=>?_;simp only [go_sem,z18,q2,hz];(repeat (first | (refine ⟨_,.lent (hf:=h35) (hd:=rfl) (hr:=rfl),?_⟩;simp only [go_sem,z18,q2,hz]) | (refine ⟨_,.lent (hf:=h18) (hd:=rfl) (hr:=rfl),?_⟩;simp only [go_sem,z18,q2,hz]) | (refine ⟨_,.given (hf:=h35) (hd:=rfl) (ha:=rfl),?_⟩;simp only [go_sem,z18,q2,hz]) | (refine ⟨_,.given (hf:=h18) (hd:=rfl) (ha:=rfl),?_⟩;simp only [go_sem,z18,q2,hz])));apply hK;clear hK K))
    simp only [go_sem,hz,q2]
  ·repeat (first | refine z12 rfl ?_ | refine z11 rfl ?_ | refine nx ?_ | (refine z10 fun K hK=>?_;simp only [go_sem,z18,q2];(repeat (first | (refine ⟨_,.lent (hf:=h35) (hd:=rfl) (hr:=rfl),?_⟩;simp only [go_sem,z18,q2]) | (refine ⟨_,.given (hf:=h35) (hd:=rfl) (ha:=rfl),?_⟩;simp only [go_sem,z18,q2])));apply hK;clear hK K))
   simp only [go_sem]
 ·repeat (first | refine z12 rfl ?_ | refine z11 rfl ?_ | refine nx ?_ | (refine z10 fun K hK=>?_;simp only [go_sem];(repeat (first | (refine ⟨_,.lent (hf:=h35) (hd:=rfl) (hr:=rfl),?_⟩;simp only [go_sem]) | (refine ⟨_,.given (hf:=h35) (hd:=rfl) (ha:=rfl),?_⟩;simp only [go_sem])));apply hK;clear hK K))
  simp only [go_sem]
def valid6 (s:Supply):Bool:=!far6 s && suppE s == 0
end Go.Ab
