import Derived.Test.YthcppjbcleblbaaGreatPE
import Derived.Test.YthcppjbcleblbaaGreatP1
import Derived.Test.YthcppjbcleblbaaGreatP2
import Derived.Test.YthcppjbcleblbaaGreatP3
import Derived.Test.YthcppjbcleblbaaGreatP4
import Derived.Test.YthcppjbcleblbaaGreatP5
import Derived.Test.YthcppjbcleblbaaGreatP6
import Derived.Test.YthcppjbcleblbaaGreatP7
import Derived.Test.YthcppjbcleblbaaGreatP8
import Derived.Test.YthcppjbcleblbaaGreatP9
import Derived.Test.YthcppjbcleblbaaGreatP10
import Derived.Test.YthcppjbcleblbaaGreatP11
import Derived.Test.YthcppjbcleblbaaGreatP12
import Derived.Test.YthcppjbcleblbaaGreatP13
import Derived.Test.YthcppjbcleblbaaGreatP14
import Derived.Test.YthcppjbcleblbaaGreatPB
import Derived.Test.YthcppjbcleblbaaGreatGP15
import Derived.Test.YthcppjbcleblbaaGreatGP28
import Derived.Test.YthcppjbcleblbaaGreatGP41
import Derived.Test.YthcppjbcleblbaaGreatGP54
import Derived.Test.YthcppjbcleblbaaGreatPP
import Derived.Test.YthcppjbcleblbaaGreatP67
import Derived.Test.YthcppjbcleblbaaGreatGR68
import Derived.Test.YthcppjbcleblbaaGreatMay
import Derived.Test.YthcppjbcleblbaaGreatP120
import Derived.Test.YthcppjbcleblbaaGreatP121
import Derived.Test.YthcppjbcleblbaaGreatP122
import Derived.Test.YthcppjbcleblbaaGreatP123
import Derived.Test.YthcppjbcleblbaaGreatP124
import Derived.Test.YthcppjbcleblbaaGreatP125
import Derived.Test.YthcppjbcleblbaaGreatP126
import Derived.Test.YthcppjbcleblbaaGreatPW
import Derived.Test.YthcppjbcleblbaaGreatPS
/- The closed run of the chapter's example, joined. -/
set_option linter.all false
set_option maxRecDepth 100000
set_option maxHeartbeats 8000000
namespace Go.Pv.NN
open Go Go.Proofs Go.RowKit
theorem okE:HdOk Tryz.prog ctSE:=ctB_ok
theorem datE:CallT Tryz.prog 15 [wA,lA] (λ_=>none) rE (applyU (λ_=>none) uE):=dat_of (evH_ok mix okE 60) (resEqb_eq pieceE)
def ok1:=hitM_ok ctB_ok (evH_ok mix ctB_ok 60) (by kernel_rfl:clB as1 m1=true) (resEqb_eq piece1)
def ok2:=hitM_ok ok1 (evH_ok mix ctB_ok 60) (by kernel_rfl:clB as2 m2=true) (resEqb_eq piece2)
def ok3:=hitM_ok ok2 (evH_ok mix ctB_ok 60) (by kernel_rfl:clB as3 m3=true) (resEqb_eq piece3)
def ok4:=hitM_ok ok3 (evH_ok mix ctB_ok 60) (by kernel_rfl:clB as4 m4=true) (resEqb_eq piece4)
def ok5:=hitM_ok ok4 (evH_ok mix ctB_ok 60) (by kernel_rfl:clB as5 m5=true) (resEqb_eq piece5)
def ok6:=hitM_ok ok5 (evH_ok mix ctB_ok 60) (by kernel_rfl:clB as6 m6=true) (resEqb_eq piece6)
def ok7:=hitM_ok ok6 (evH_ok mix ctB_ok 60) (by kernel_rfl:clB as7 m7=true) (resEqb_eq piece7)
def ok8:=hitM_ok ok7 (evH_ok mix ctB_ok 60) (by kernel_rfl:clB as8 m8=true) (resEqb_eq piece8)
def ok9:=hitM_ok ok8 (evH_ok mix ctB_ok 60) (by kernel_rfl:clB as9 m9=true) (resEqb_eq piece9)
def ok10:=hitM_ok ok9 (evH_ok mix ctB_ok 60) (by kernel_rfl:clB as10 m10=true) (resEqb_eq piece10)
def ok11:=hitM_ok ok10 (evH_ok mix ctB_ok 60) (by kernel_rfl:clB as11 m11=true) (resEqb_eq piece11)
def ok12:=hitM_ok ok11 (evH_ok mix ctB_ok 60) (by kernel_rfl:clB as12 m12=true) (resEqb_eq piece12)
def ok13:=hitM_ok ok12 (evH_ok mix ctB_ok 60) (by kernel_rfl:clB as13 m13=true) (resEqb_eq piece13)
def ok14:=hitM_ok ok13 (evH_ok mix ctB_ok 60) (by kernel_rfl:clB as14 m14=true) (resEqb_eq piece14)
theorem okB:HdOk Tryz.prog ctSB:=(hitD_ok ok14 datE (by kernel_rfl):HdOk Tryz.prog (hitD 15 [wA,lA] rE uE 1 7109 _))
theorem datB:CallT Tryz.prog 28 [wA,lA] (λ_=>none) rB (applyU (λ_=>none) uB):=dat_of (evH_ok mix okB 60) (resEqb_eq pieceB)
def ok66:=hitM_ok ctB_ok (evH_ok mix ctB_ok 60) (by kernel_rfl:clB as66 m66=true) (resEqb_eq piece66)
def ok65:=hitM_ok ok66 (evH_ok mix ctB_ok 60) (by kernel_rfl:clB as65 m65=true) (resEqb_eq piece65)
def ok64:=hitM_ok ok65 (evH_ok mix ctB_ok 60) (by kernel_rfl:clB as64 m64=true) (resEqb_eq piece64)
def ok63:=hitM_ok ok64 (evH_ok mix ctB_ok 60) (by kernel_rfl:clB as63 m63=true) (resEqb_eq piece63)
def ok62:=hitM_ok ok63 (evH_ok mix ctB_ok 60) (by kernel_rfl:clB as62 m62=true) (resEqb_eq piece62)
def ok61:=hitM_ok ok62 (evH_ok mix ctB_ok 60) (by kernel_rfl:clB as61 m61=true) (resEqb_eq piece61)
def ok60:=hitM_ok ok61 (evH_ok mix ctB_ok 60) (by kernel_rfl:clB as60 m60=true) (resEqb_eq piece60)
def ok59:=hitM_ok ok60 (evH_ok mix ctB_ok 60) (by kernel_rfl:clB as59 m59=true) (resEqb_eq piece59)
def ok58:=hitM_ok ok59 (evH_ok mix ctB_ok 60) (by kernel_rfl:clB as58 m58=true) (resEqb_eq piece58)
def ok57:=hitM_ok ok58 (evH_ok mix ctB_ok 60) (by kernel_rfl:clB as57 m57=true) (resEqb_eq piece57)
def ok56:=hitM_ok ok57 (evH_ok mix ctB_ok 60) (by kernel_rfl:clB as56 m56=true) (resEqb_eq piece56)
def ok55:=hitM_ok ok56 (evH_ok mix ctB_ok 60) (by kernel_rfl:clB as55 m55=true) (resEqb_eq piece55)
def ok54:=hitM_ok ok55 (evH_ok mix ctB_ok 60) (by kernel_rfl:clB as54 m54=true) (resEqb_eq piece54)
def ok53:=hitM_ok ok54 (evH_ok mix ctB_ok 60) (by kernel_rfl:clB as53 m53=true) (resEqb_eq piece53)
def ok52:=hitM_ok ok53 (evH_ok mix ctB_ok 60) (by kernel_rfl:clB as52 m52=true) (resEqb_eq piece52)
def ok51:=hitM_ok ok52 (evH_ok mix ctB_ok 60) (by kernel_rfl:clB as51 m51=true) (resEqb_eq piece51)
def ok50:=hitM_ok ok51 (evH_ok mix ctB_ok 60) (by kernel_rfl:clB as50 m50=true) (resEqb_eq piece50)
def ok49:=hitM_ok ok50 (evH_ok mix ctB_ok 60) (by kernel_rfl:clB as49 m49=true) (resEqb_eq piece49)
def ok48:=hitM_ok ok49 (evH_ok mix ctB_ok 60) (by kernel_rfl:clB as48 m48=true) (resEqb_eq piece48)
def ok47:=hitM_ok ok48 (evH_ok mix ctB_ok 60) (by kernel_rfl:clB as47 m47=true) (resEqb_eq piece47)
def ok46:=hitM_ok ok47 (evH_ok mix ctB_ok 60) (by kernel_rfl:clB as46 m46=true) (resEqb_eq piece46)
def ok45:=hitM_ok ok46 (evH_ok mix ctB_ok 60) (by kernel_rfl:clB as45 m45=true) (resEqb_eq piece45)
def ok44:=hitM_ok ok45 (evH_ok mix ctB_ok 60) (by kernel_rfl:clB as44 m44=true) (resEqb_eq piece44)
def ok43:=hitM_ok ok44 (evH_ok mix ctB_ok 60) (by kernel_rfl:clB as43 m43=true) (resEqb_eq piece43)
def ok42:=hitM_ok ok43 (evH_ok mix ctB_ok 60) (by kernel_rfl:clB as42 m42=true) (resEqb_eq piece42)
def ok41:=hitM_ok ok42 (evH_ok mix ctB_ok 60) (by kernel_rfl:clB as41 m41=true) (resEqb_eq piece41)
def ok40:=hitM_ok ok41 (evH_ok mix ctB_ok 60) (by kernel_rfl:clB as40 m40=true) (resEqb_eq piece40)
def ok39:=hitM_ok ok40 (evH_ok mix ctB_ok 60) (by kernel_rfl:clB as39 m39=true) (resEqb_eq piece39)
def ok38:=hitM_ok ok39 (evH_ok mix ctB_ok 60) (by kernel_rfl:clB as38 m38=true) (resEqb_eq piece38)
def ok37:=hitM_ok ok38 (evH_ok mix ctB_ok 60) (by kernel_rfl:clB as37 m37=true) (resEqb_eq piece37)
def ok36:=hitM_ok ok37 (evH_ok mix ctB_ok 60) (by kernel_rfl:clB as36 m36=true) (resEqb_eq piece36)
def ok35:=hitM_ok ok36 (evH_ok mix ctB_ok 60) (by kernel_rfl:clB as35 m35=true) (resEqb_eq piece35)
def ok34:=hitM_ok ok35 (evH_ok mix ctB_ok 60) (by kernel_rfl:clB as34 m34=true) (resEqb_eq piece34)
def ok33:=hitM_ok ok34 (evH_ok mix ctB_ok 60) (by kernel_rfl:clB as33 m33=true) (resEqb_eq piece33)
def ok32:=hitM_ok ok33 (evH_ok mix ctB_ok 60) (by kernel_rfl:clB as32 m32=true) (resEqb_eq piece32)
def ok31:=hitM_ok ok32 (evH_ok mix ctB_ok 60) (by kernel_rfl:clB as31 m31=true) (resEqb_eq piece31)
def ok30:=hitM_ok ok31 (evH_ok mix ctB_ok 60) (by kernel_rfl:clB as30 m30=true) (resEqb_eq piece30)
def ok29:=hitM_ok ok30 (evH_ok mix ctB_ok 60) (by kernel_rfl:clB as29 m29=true) (resEqb_eq piece29)
def ok28:=hitM_ok ok29 (evH_ok mix ctB_ok 60) (by kernel_rfl:clB as28 m28=true) (resEqb_eq piece28)
def ok27:=hitM_ok ok28 (evH_ok mix ctB_ok 60) (by kernel_rfl:clB as27 m27=true) (resEqb_eq piece27)
def ok26:=hitM_ok ok27 (evH_ok mix ctB_ok 60) (by kernel_rfl:clB as26 m26=true) (resEqb_eq piece26)
def ok25:=hitM_ok ok26 (evH_ok mix ctB_ok 60) (by kernel_rfl:clB as25 m25=true) (resEqb_eq piece25)
def ok24:=hitM_ok ok25 (evH_ok mix ctB_ok 60) (by kernel_rfl:clB as24 m24=true) (resEqb_eq piece24)
def ok23:=hitM_ok ok24 (evH_ok mix ctB_ok 60) (by kernel_rfl:clB as23 m23=true) (resEqb_eq piece23)
def ok22:=hitM_ok ok23 (evH_ok mix ctB_ok 60) (by kernel_rfl:clB as22 m22=true) (resEqb_eq piece22)
def ok21:=hitM_ok ok22 (evH_ok mix ctB_ok 60) (by kernel_rfl:clB as21 m21=true) (resEqb_eq piece21)
def ok20:=hitM_ok ok21 (evH_ok mix ctB_ok 60) (by kernel_rfl:clB as20 m20=true) (resEqb_eq piece20)
def ok19:=hitM_ok ok20 (evH_ok mix ctB_ok 60) (by kernel_rfl:clB as19 m19=true) (resEqb_eq piece19)
def ok18:=hitM_ok ok19 (evH_ok mix ctB_ok 60) (by kernel_rfl:clB as18 m18=true) (resEqb_eq piece18)
def ok17:=hitM_ok ok18 (evH_ok mix ctB_ok 60) (by kernel_rfl:clB as17 m17=true) (resEqb_eq piece17)
def ok16:=hitM_ok ok17 (evH_ok mix ctB_ok 60) (by kernel_rfl:clB as16 m16=true) (resEqb_eq piece16)
def ok15:=hitM_ok ok16 (evH_ok mix ctB_ok 60) (by kernel_rfl:clB as15 m15=true) (resEqb_eq piece15)
theorem okP:HdOk Tryz.prog ctSP:=ok15
theorem datP:CallT Tryz.prog 21 [sheA,qA 0 1 3] (λ_=>none) rP (applyU (λ_=>none) uP):=dat_of (evH_ok mix okP 60) (resEqb_eq pieceP)
theorem putB:∀(xs:List A)(m:Mem),RdL m xs [sheC,.agg [ci 0,.v (.int .u8 1),ci 3]]->CallT Tryz.prog 21 xs m (.ok (.d (.sl 1 (bC 647)))) m:=λxs m h=>CallT.viewB (cs:=[sheC,.agg [ci 0,.v (.int .u8 1),ci 3]]) (L:=bC 647) (i:=12492) (te:=5) datP (by kernel_rfl) (by kernel_rfl) h
theorem okA:HdOk Tryz.prog ctSA:=(hitD_ok ctB_ok datB (by kernel_rfl):HdOk Tryz.prog (hitD 28 [wA,lA] rB uB 1 157150 _))
theorem purA:∀m,CallT Tryz.prog 4 [wA,qA 1 8 2,lA] m (.ok (.tup [(.d (.v (.bool false))),(.d (.v (.int .i64 0)))])) m:=pure_of_isM (evH_ok mix okA 60) rfl pieceA
theorem okZ:HdOk Tryz.prog ctSZ:=(hitD_ok ctB_ok datB (by kernel_rfl):HdOk Tryz.prog (hitD 28 [wA,lA] rB uB 1 157150 _))
theorem purZ:∀m,CallT Tryz.prog 4 [wA,qA 0 1 3,lA] m (.ok (.tup [(.d (.v (.bool true))),(.d (.v (.int .i64 0)))])) m:=pure_of_isM (evH_ok mix okZ 60) rfl pieceZ
def ok67:=hitM_ok ctB_ok (evH_ok mix ctB_ok 60) (by kernel_rfl:clB as67 m67=true) (resEqb_eq piece67)
theorem okM:HdOk Tryz.prog ctSM:=(hitB_ok (hitD_ok ok67 datB (by kernel_rfl):HdOk Tryz.prog (hitD 28 [wA,lA] rB uB 1 157150 _)) putB)
theorem purM:∀m,CallT Tryz.prog 5 [wA,qA 0 1 3,lA] m (.ok (.tup [(.d (.v (.string (cx 0)))),(.d (.v (.int .i64 0)))])) m:=pure_of_isM (evH_ok mix okM 60) rfl pieceM
theorem okN:HdOk Tryz.prog ctSN:=(hitD_ok ctB_ok datB (by kernel_rfl):HdOk Tryz.prog (hitD 28 [wA,lA] rB uB 1 157150 _))
theorem purN:∀m,CallT Tryz.prog 5 [wA,qA 1 8 2,lA] m (.ok (.tup [(.d (.v (.string (bs [])))),(.d (.v (.int .i64 250)))])) m:=pure_of_isM (evH_ok mix okN 60) rfl pieceN
theorem okMay:HdOk Tryz.prog (ctY ctB):=hitT_ok ctB_ok (evH_ok mix ctB_ok 60) (by kernel_rfl:((mayL 2822).all λxs=>clB xs mMay)=true) pieceMay
def ok119:=hitM_ok okMay (evH_ok mix ctB_ok 60) (by kernel_rfl:clB as119 m119=true) (resEqb_eq piece119)
def ok118:=hitM_ok ok119 (evH_ok mix ctB_ok 60) (by kernel_rfl:clB as118 m118=true) (resEqb_eq piece118)
def ok117:=hitM_ok ok118 (evH_ok mix ctB_ok 60) (by kernel_rfl:clB as117 m117=true) (resEqb_eq piece117)
def ok116:=hitM_ok ok117 (evH_ok mix ctB_ok 60) (by kernel_rfl:clB as116 m116=true) (resEqb_eq piece116)
def ok115:=hitM_ok ok116 (evH_ok mix ctB_ok 60) (by kernel_rfl:clB as115 m115=true) (resEqb_eq piece115)
def ok114:=hitM_ok ok115 (evH_ok mix ctB_ok 60) (by kernel_rfl:clB as114 m114=true) (resEqb_eq piece114)
def ok113:=hitM_ok ok114 (evH_ok mix ctB_ok 60) (by kernel_rfl:clB as113 m113=true) (resEqb_eq piece113)
def ok112:=hitM_ok ok113 (evH_ok mix ctB_ok 60) (by kernel_rfl:clB as112 m112=true) (resEqb_eq piece112)
def ok111:=hitM_ok ok112 (evH_ok mix ctB_ok 60) (by kernel_rfl:clB as111 m111=true) (resEqb_eq piece111)
def ok110:=hitM_ok ok111 (evH_ok mix ctB_ok 60) (by kernel_rfl:clB as110 m110=true) (resEqb_eq piece110)
def ok109:=hitM_ok ok110 (evH_ok mix ctB_ok 60) (by kernel_rfl:clB as109 m109=true) (resEqb_eq piece109)
def ok108:=hitM_ok ok109 (evH_ok mix ctB_ok 60) (by kernel_rfl:clB as108 m108=true) (resEqb_eq piece108)
def ok107:=hitM_ok ok108 (evH_ok mix ctB_ok 60) (by kernel_rfl:clB as107 m107=true) (resEqb_eq piece107)
def ok106:=hitM_ok ok107 (evH_ok mix ctB_ok 60) (by kernel_rfl:clB as106 m106=true) (resEqb_eq piece106)
def ok105:=hitM_ok ok106 (evH_ok mix ctB_ok 60) (by kernel_rfl:clB as105 m105=true) (resEqb_eq piece105)
def ok104:=hitM_ok ok105 (evH_ok mix ctB_ok 60) (by kernel_rfl:clB as104 m104=true) (resEqb_eq piece104)
def ok103:=hitM_ok ok104 (evH_ok mix ctB_ok 60) (by kernel_rfl:clB as103 m103=true) (resEqb_eq piece103)
def ok102:=hitM_ok ok103 (evH_ok mix ctB_ok 60) (by kernel_rfl:clB as102 m102=true) (resEqb_eq piece102)
def ok101:=hitM_ok ok102 (evH_ok mix ctB_ok 60) (by kernel_rfl:clB as101 m101=true) (resEqb_eq piece101)
def ok100:=hitM_ok ok101 (evH_ok mix ctB_ok 60) (by kernel_rfl:clB as100 m100=true) (resEqb_eq piece100)
def ok99:=hitM_ok ok100 (evH_ok mix ctB_ok 60) (by kernel_rfl:clB as99 m99=true) (resEqb_eq piece99)
def ok98:=hitM_ok ok99 (evH_ok mix ctB_ok 60) (by kernel_rfl:clB as98 m98=true) (resEqb_eq piece98)
def ok97:=hitM_ok ok98 (evH_ok mix ctB_ok 60) (by kernel_rfl:clB as97 m97=true) (resEqb_eq piece97)
def ok96:=hitM_ok ok97 (evH_ok mix ctB_ok 60) (by kernel_rfl:clB as96 m96=true) (resEqb_eq piece96)
def ok95:=hitM_ok ok96 (evH_ok mix ctB_ok 60) (by kernel_rfl:clB as95 m95=true) (resEqb_eq piece95)
def ok94:=hitM_ok ok95 (evH_ok mix ctB_ok 60) (by kernel_rfl:clB as94 m94=true) (resEqb_eq piece94)
def ok93:=hitM_ok ok94 (evH_ok mix ctB_ok 60) (by kernel_rfl:clB as93 m93=true) (resEqb_eq piece93)
def ok92:=hitM_ok ok93 (evH_ok mix ctB_ok 60) (by kernel_rfl:clB as92 m92=true) (resEqb_eq piece92)
def ok91:=hitM_ok ok92 (evH_ok mix ctB_ok 60) (by kernel_rfl:clB as91 m91=true) (resEqb_eq piece91)
def ok90:=hitM_ok ok91 (evH_ok mix ctB_ok 60) (by kernel_rfl:clB as90 m90=true) (resEqb_eq piece90)
def ok89:=hitM_ok ok90 (evH_ok mix ctB_ok 60) (by kernel_rfl:clB as89 m89=true) (resEqb_eq piece89)
def ok88:=hitM_ok ok89 (evH_ok mix ctB_ok 60) (by kernel_rfl:clB as88 m88=true) (resEqb_eq piece88)
def ok87:=hitM_ok ok88 (evH_ok mix ctB_ok 60) (by kernel_rfl:clB as87 m87=true) (resEqb_eq piece87)
def ok86:=hitM_ok ok87 (evH_ok mix ctB_ok 60) (by kernel_rfl:clB as86 m86=true) (resEqb_eq piece86)
def ok85:=hitM_ok ok86 (evH_ok mix ctB_ok 60) (by kernel_rfl:clB as85 m85=true) (resEqb_eq piece85)
def ok84:=hitM_ok ok85 (evH_ok mix ctB_ok 60) (by kernel_rfl:clB as84 m84=true) (resEqb_eq piece84)
def ok83:=hitM_ok ok84 (evH_ok mix ctB_ok 60) (by kernel_rfl:clB as83 m83=true) (resEqb_eq piece83)
def ok82:=hitM_ok ok83 (evH_ok mix ctB_ok 60) (by kernel_rfl:clB as82 m82=true) (resEqb_eq piece82)
def ok81:=hitM_ok ok82 (evH_ok mix ctB_ok 60) (by kernel_rfl:clB as81 m81=true) (resEqb_eq piece81)
def ok80:=hitM_ok ok81 (evH_ok mix ctB_ok 60) (by kernel_rfl:clB as80 m80=true) (resEqb_eq piece80)
def ok79:=hitM_ok ok80 (evH_ok mix ctB_ok 60) (by kernel_rfl:clB as79 m79=true) (resEqb_eq piece79)
def ok78:=hitM_ok ok79 (evH_ok mix ctB_ok 60) (by kernel_rfl:clB as78 m78=true) (resEqb_eq piece78)
def ok77:=hitM_ok ok78 (evH_ok mix ctB_ok 60) (by kernel_rfl:clB as77 m77=true) (resEqb_eq piece77)
def ok76:=hitM_ok ok77 (evH_ok mix ctB_ok 60) (by kernel_rfl:clB as76 m76=true) (resEqb_eq piece76)
def ok75:=hitM_ok ok76 (evH_ok mix ctB_ok 60) (by kernel_rfl:clB as75 m75=true) (resEqb_eq piece75)
def ok74:=hitM_ok ok75 (evH_ok mix ctB_ok 60) (by kernel_rfl:clB as74 m74=true) (resEqb_eq piece74)
def ok73:=hitM_ok ok74 (evH_ok mix ctB_ok 60) (by kernel_rfl:clB as73 m73=true) (resEqb_eq piece73)
def ok72:=hitM_ok ok73 (evH_ok mix ctB_ok 60) (by kernel_rfl:clB as72 m72=true) (resEqb_eq piece72)
def ok71:=hitM_ok ok72 (evH_ok mix ctB_ok 60) (by kernel_rfl:clB as71 m71=true) (resEqb_eq piece71)
def ok70:=hitM_ok ok71 (evH_ok mix ctB_ok 60) (by kernel_rfl:clB as70 m70=true) (resEqb_eq piece70)
def ok69:=hitM_ok ok70 (evH_ok mix ctB_ok 60) (by kernel_rfl:clB as69 m69=true) (resEqb_eq piece69)
def ok68:=hitM_ok ok69 (evH_ok mix ctB_ok 60) (by kernel_rfl:clB as68 m68=true) (resEqb_eq piece68)
theorem okctQ68:HdOk Tryz.prog ctQ68:=ok68
def ok120:=hitM_ok ctB_ok (evH_ok mix okctQ68 60) (by kernel_rfl:clB as120 m120=true) (resEqb_eq piece120)
def ok121:=hitM_ok ok120 (evH_ok mix ctB_ok 60) (by kernel_rfl:clB as121 m121=true) (resEqb_eq piece121)
theorem okR:HdOk Tryz.prog ctSR:=(hitB_ok (hitD_ok ok121 datE (by kernel_rfl):HdOk Tryz.prog (hitD 15 [wA,lA] rE uE 1 7109 _)) putB)
theorem datR:CallT Tryz.prog 7 [wA,cA,lA] (λ_=>none) rR (applyU (λ_=>none) uR):=dat_of (evH_ok mix okR 60) (resEqb_eq pieceR)
def ok122:=hitM_ok ctB_ok (evH_ok mix ctB_ok 60) (by kernel_rfl:clB as122 m122=true) (resEqb_eq piece122)
def ok123:=hitM_ok ok122 (evH_ok mix ctB_ok 60) (by kernel_rfl:clB as123 m123=true) (resEqb_eq piece123)
def ok124:=hitM_ok ok123 (evH_ok mix ctB_ok 60) (by kernel_rfl:clB as124 m124=true) (resEqb_eq piece124)
def ok125:=hitM_ok ok124 (evH_ok mix ctB_ok 60) (by kernel_rfl:clB as125 m125=true) (resEqb_eq piece125)
def ok126:=hitM_ok ok125 (evH_ok mix ctB_ok 60) (by kernel_rfl:clB as126 m126=true) (resEqb_eq piece126)
theorem okW:HdOk Tryz.prog ctSW:=(hitD_ok ok126 datR (by kernel_rfl):HdOk Tryz.prog (hitD 7 [wA,cA,lA] rR uR 1 51298 _))
theorem purW:∀m,CallT Tryz.prog 8 [wA,cA,lA] m (.ok (.tup [(.agg [(.d (.v (.int .i64 0))),(.d (.v (.int .i64 0))),(.d (.v (.int .u8 0))),(.d (.v (.int .i64 0))),(.d (.v (.int .i64 0))),(.d (.v (.int .i64 0))),(.d (.v (.int .u8 0))),(.d (.v (.int .i64 0))),(.d (.v (.int .i64 0))),(.d (.v (.int .i64 0))),(.d (.v (.int .u8 0)))]),(.d (.v (.int .i64 0))),(.d (.v (.bool false))),(.d (.v (.int .i64 0)))])) m:=pure_of_isM (evH_ok mix okW 60) rfl pieceW
theorem datW:CallT Tryz.prog 8 [wA,cA,lA] (λ_=>none) rW (applyU (λ_=>none) uW):=purW _
theorem okC:HdOk Tryz.prog ctSC:=(hitD_ok (hitD_ok ctB_ok datR (by kernel_rfl):HdOk Tryz.prog (hitD 7 [wA,cA,lA] rR uR 1 51298 _)) datW (by kernel_rfl):HdOk Tryz.prog (hitD 8 [wA,cA,lA] rW uW 1 123781 _))
theorem purC:∀m,CallT Tryz.prog 6 [wA,cA,lA] m (.ok (.tup [(.agg [(.d (.v (.int .i64 0))),(.d (.v (.int .u8 1))),(.d (.v (.int .i64 3)))]),(.d (.v (.int .i64 0)))])) m:=pure_of_isM (evH_ok mix okC 60) rfl pieceC
theorem okL:HdOk Tryz.prog ctL:=hitV_ok (hitV_ok (hitV_ok (hitV_ok (hitV_ok noCt_ok purN rfl) purC rfl) purM rfl) purZ rfl) purA rfl
theorem livesT:CallT Tryz.prog 12 [] (λ_=>none) (.ok (.d (.v (.bool true)))) (λ_=>none):=closed_run mix okL pieceL
theorem lives_ok:∀m,CallT Tryz.prog 12 [] m (.ok (.d (cb true))) m:=λm=>CallT.frame (m:=m) (ups:=[]) livesT (by simp[A.hsL]) (by simp) (by simp) (by simp)
end Go.Pv.NN
namespace Go.Pv.NN
open Go Go.Proofs Go.RowKit
theorem main:CallT Tryz.prog 3 [qX,sX] (memO []) (.ok (.d (cb true))) (applyU (memO []) []) :=main_ok lives_ok
end Go.Pv.NN
