import Derived.Test.YtefgfnbifbkanaaGreatDoorP0
import Derived.Test.YtefgfnbifbkanaaGreatDoorP9
import Derived.Test.YtefgfnbifbkanaaGreatDoorP20
import Derived.Test.YtefgfnbifbkanaaGreatDoorP30
import Derived.Test.YtefgfnbifbkanaaGreatDoorP40
import Derived.Test.YtefgfnbifbkanaaGreatDoorP46
import Derived.Test.YtefgfnbifbkanaaGreatDoorP52
import Derived.Test.YtefgfnbifbkanaaGreatDoorP58
import Derived.Test.YtefgfnbifbkanaaGreatDoorP64
import Derived.Test.YtefgfnbifbkanaaGreatDoorP70
import Derived.Test.YtefgfnbifbkanaaGreatDoorP76
import Derived.Test.YtefgfnbifbkanaaGreatDoorP82
import Derived.Test.YtefgfnbifbkanaaGreatDoorP90
import Derived.Test.YtefgfnbifbkanaaGreatDoorP98
import Derived.Test.YtefgfnbifbkanaaGreatDoorP106
import Derived.Test.YtefgfnbifbkanaaGreatDoorP114
import Derived.Test.YtefgfnbifbkanaaGreatDoorP127
import Derived.Test.YtefgfnbifbkanaaGreatDoorP139
import Derived.Test.YtefgfnbifbkanaaGreatDoorP149
import Derived.Test.YtefgfnbifbkanaaGreatDoorP157
import Derived.Test.YtefgfnbifbkanaaGreatDoorP168
import Derived.Test.YtefgfnbifbkanaaGreatDoorP179
/- The closed run of the chapter's example, joined. -/
set_option linter.all false
set_option maxRecDepth 100000
set_option maxHeartbeats 8000000
namespace Go.Pv.CD
open Go Go.Proofs Go.RowKit
theorem ok0:HdOk Tryz.prog ct0:=ctZ_ok
theorem hM0:HdOk Tryz.prog M0:=hitM_ok ctZ_ok (evH_ok mix ok0 60) (by kernel_rfl:clB as0 m0=true) (resEqb_eq piece0)
theorem hR0{g:Hd}(hg:HdOk Tryz.prog g):HdOk Tryz.prog (H0 g):=hitR_ok hg (evH_ok mix ok0 60) (by kernel_rfl:cR as0 m0 r0 u0=true) (resEqb_eq piece0)
theorem ok1:HdOk Tryz.prog ct1:=pickF_ok ctZ_ok ctZ_ok (allT_cons hM0 allT_nil)
theorem hM1:HdOk Tryz.prog M1:=hitM_ok ctZ_ok (evH_ok mix ok1 60) (by kernel_rfl:clB as1 m1=true) (resEqb_eq piece1)
theorem ok2:HdOk Tryz.prog ct2:=ctZ_ok
theorem hM2:HdOk Tryz.prog M2:=hitM_ok ctZ_ok (evH_ok mix ok2 60) (by kernel_rfl:clB as2 m2=true) (resEqb_eq piece2)
theorem hR2{g:Hd}(hg:HdOk Tryz.prog g):HdOk Tryz.prog (H2 g):=hitR_ok hg (evH_ok mix ok2 60) (by kernel_rfl:cR as2 m2 r2 u2=true) (resEqb_eq piece2)
theorem ok3:HdOk Tryz.prog ct3:=hR2 ctZ_ok
theorem hM3:HdOk Tryz.prog M3:=hitM_ok ctZ_ok (evH_ok mix ok3 60) (by kernel_rfl:clB as3 m3=true) (resEqb_eq piece3)
theorem ok4:HdOk Tryz.prog ct4:=pickF_ok ctZ_ok ctZ_ok (allT_cons hM3 allT_nil)
theorem hM4:HdOk Tryz.prog M4:=hitM_ok ctZ_ok (evH_ok mix ok4 60) (by kernel_rfl:clB as4 m4=true) (resEqb_eq piece4)
theorem ok5:HdOk Tryz.prog ct5:=ctZ_ok
theorem hM5:HdOk Tryz.prog M5:=hitM_ok ctZ_ok (evH_ok mix ok5 60) (by kernel_rfl:clB as5 m5=true) (resEqb_eq piece5)
theorem ok6:HdOk Tryz.prog ct6:=pickF_ok (hR0 ctZ_ok) ctZ_ok (allT_cons hM2 (allT_cons hM4 (allT_cons hM5 allT_nil)))
theorem hM6:HdOk Tryz.prog M6:=hitM_ok ctZ_ok (evH_ok mix ok6 60) (by kernel_rfl:clB as6 m6=true) (resEqb_eq piece6)
theorem ok7:HdOk Tryz.prog ct7:=pickF_ok ctZ_ok ctZ_ok (allT_cons hM6 allT_nil)
theorem hM7:HdOk Tryz.prog M7:=hitM_ok ctZ_ok (evH_ok mix ok7 60) (by kernel_rfl:clB as7 m7=true) (resEqb_eq piece7)
theorem ok8:HdOk Tryz.prog ct8:=ctZ_ok
theorem hM8:HdOk Tryz.prog M8:=hitM_ok ctZ_ok (evH_ok mix ok8 60) (by kernel_rfl:clB as8 m8=true) (resEqb_eq piece8)
theorem hR8{g:Hd}(hg:HdOk Tryz.prog g):HdOk Tryz.prog (H8 g):=hitR_ok hg (evH_ok mix ok8 60) (by kernel_rfl:cR as8 m8 r8 u8=true) (resEqb_eq piece8)
theorem ok9:HdOk Tryz.prog ct9:=ctZ_ok
theorem hM9:HdOk Tryz.prog M9:=hitM_ok ctZ_ok (evH_ok mix ok9 60) (by kernel_rfl:clB as9 m9=true) (resEqb_eq piece9)
theorem hR9{g:Hd}(hg:HdOk Tryz.prog g):HdOk Tryz.prog (H9 g):=hitR_ok hg (evH_ok mix ok9 60) (by kernel_rfl:cR as9 m9 r9 u9=true) (resEqb_eq piece9)
theorem ok10:HdOk Tryz.prog ct10:=pickF_ok (hR8 (hR9 ctZ_ok)) ctZ_ok (allT_cons hM9 allT_nil)
theorem hM10:HdOk Tryz.prog M10:=hitM_ok ctZ_ok (evH_ok mix ok10 60) (by kernel_rfl:clB as10 m10=true) (resEqb_eq piece10)
theorem ok11:HdOk Tryz.prog ct11:=pickF_ok ctZ_ok ctZ_ok (allT_cons hM10 allT_nil)
theorem hM11:HdOk Tryz.prog M11:=hitM_ok ctZ_ok (evH_ok mix ok11 60) (by kernel_rfl:clB as11 m11=true) (resEqb_eq piece11)
theorem ok12:HdOk Tryz.prog ct12:=ctZ_ok
theorem hM12:HdOk Tryz.prog M12:=hitM_ok ctZ_ok (evH_ok mix ok12 60) (by kernel_rfl:clB as12 m12=true) (resEqb_eq piece12)
theorem ok13:HdOk Tryz.prog ct13:=hR9 ctZ_ok
theorem hM13:HdOk Tryz.prog M13:=hitM_ok ctZ_ok (evH_ok mix ok13 60) (by kernel_rfl:clB as13 m13=true) (resEqb_eq piece13)
theorem ok14:HdOk Tryz.prog ct14:=pickF_ok ctZ_ok ctZ_ok (allT_cons hM13 allT_nil)
theorem hM14:HdOk Tryz.prog M14:=hitM_ok ctZ_ok (evH_ok mix ok14 60) (by kernel_rfl:clB as14 m14=true) (resEqb_eq piece14)
theorem ok15:HdOk Tryz.prog ct15:=ctZ_ok
theorem hM15:HdOk Tryz.prog M15:=hitM_ok ctZ_ok (evH_ok mix ok15 60) (by kernel_rfl:clB as15 m15=true) (resEqb_eq piece15)
theorem ok16:HdOk Tryz.prog ct16:=pickF_ok (hR9 (hR0 ctZ_ok)) ctZ_ok (allT_cons hM12 (allT_cons hM14 (allT_cons hM15 allT_nil)))
theorem hM16:HdOk Tryz.prog M16:=hitM_ok ctZ_ok (evH_ok mix ok16 60) (by kernel_rfl:clB as16 m16=true) (resEqb_eq piece16)
theorem ok17:HdOk Tryz.prog ct17:=pickF_ok (hR9 ctZ_ok) ctZ_ok (allT_cons hM16 allT_nil)
theorem hM17:HdOk Tryz.prog M17:=hitM_ok ctZ_ok (evH_ok mix ok17 60) (by kernel_rfl:clB as17 m17=true) (resEqb_eq piece17)
theorem ok18:HdOk Tryz.prog ct18:=pickF_ok ctZ_ok ctZ_ok (allT_cons hM1 (allT_cons hM7 (allT_cons hM8 (allT_cons hM11 (allT_cons hM17 allT_nil)))))
theorem hM18:HdOk Tryz.prog M18:=hitM_ok ctZ_ok (evH_ok mix ok18 60) (by kernel_rfl:clB as18 m18=true) (resEqb_eq piece18)
theorem hR18{g:Hd}(hg:HdOk Tryz.prog g):HdOk Tryz.prog (H18 g):=hitR_ok hg (evH_ok mix ok18 60) (by kernel_rfl:cR as18 m18 r18 u18=true) (resEqb_eq piece18)
theorem ok19:HdOk Tryz.prog ct19:=ctZ_ok
theorem hM19:HdOk Tryz.prog M19:=hitM_ok ctZ_ok (evH_ok mix ok19 60) (by kernel_rfl:clB as19 m19=true) (resEqb_eq piece19)
theorem hR19{g:Hd}(hg:HdOk Tryz.prog g):HdOk Tryz.prog (H19 g):=hitR_ok hg (evH_ok mix ok19 60) (by kernel_rfl:cR as19 m19 r19 u19=true) (resEqb_eq piece19)
theorem ok20:HdOk Tryz.prog ct20:=ctZ_ok
theorem hM20:HdOk Tryz.prog M20:=hitM_ok ctZ_ok (evH_ok mix ok20 60) (by kernel_rfl:clB as20 m20=true) (resEqb_eq piece20)
theorem hR20{g:Hd}(hg:HdOk Tryz.prog g):HdOk Tryz.prog (H20 g):=hitR_ok hg (evH_ok mix ok20 60) (by kernel_rfl:cR as20 m20 r20 u20=true) (resEqb_eq piece20)
theorem ok21:HdOk Tryz.prog ct21:=pickF_ok ctZ_ok ctZ_ok (allT_cons hM20 allT_nil)
theorem hM21:HdOk Tryz.prog M21:=hitM_ok ctZ_ok (evH_ok mix ok21 60) (by kernel_rfl:clB as21 m21=true) (resEqb_eq piece21)
theorem hR21{g:Hd}(hg:HdOk Tryz.prog g):HdOk Tryz.prog (H21 g):=hitR_ok hg (evH_ok mix ok21 60) (by kernel_rfl:cR as21 m21 r21 u21=true) (resEqb_eq piece21)
theorem ok22:HdOk Tryz.prog ct22:=hR20 ctZ_ok
theorem hM22:HdOk Tryz.prog M22:=hitM_ok ctZ_ok (evH_ok mix ok22 60) (by kernel_rfl:clB as22 m22=true) (resEqb_eq piece22)
theorem hR22{g:Hd}(hg:HdOk Tryz.prog g):HdOk Tryz.prog (H22 g):=hitR_ok hg (evH_ok mix ok22 60) (by kernel_rfl:cR as22 m22 r22 u22=true) (resEqb_eq piece22)
theorem ok23:HdOk Tryz.prog ct23:=hR20 ctZ_ok
theorem hM23:HdOk Tryz.prog M23:=hitM_ok ctZ_ok (evH_ok mix ok23 60) (by kernel_rfl:clB as23 m23=true) (resEqb_eq piece23)
theorem hR23{g:Hd}(hg:HdOk Tryz.prog g):HdOk Tryz.prog (H23 g):=hitR_ok hg (evH_ok mix ok23 60) (by kernel_rfl:cR as23 m23 r23 u23=true) (resEqb_eq piece23)
theorem ok24:HdOk Tryz.prog ct24:=hR20 ctZ_ok
theorem hM24:HdOk Tryz.prog M24:=hitM_ok ctZ_ok (evH_ok mix ok24 60) (by kernel_rfl:clB as24 m24=true) (resEqb_eq piece24)
theorem hR24{g:Hd}(hg:HdOk Tryz.prog g):HdOk Tryz.prog (H24 g):=hitR_ok hg (evH_ok mix ok24 60) (by kernel_rfl:cR as24 m24 r24 u24=true) (resEqb_eq piece24)
theorem ok25:HdOk Tryz.prog ct25:=hR20 ctZ_ok
theorem hM25:HdOk Tryz.prog M25:=hitM_ok ctZ_ok (evH_ok mix ok25 60) (by kernel_rfl:clB as25 m25=true) (resEqb_eq piece25)
theorem hR25{g:Hd}(hg:HdOk Tryz.prog g):HdOk Tryz.prog (H25 g):=hitR_ok hg (evH_ok mix ok25 60) (by kernel_rfl:cR as25 m25 r25 u25=true) (resEqb_eq piece25)
theorem ok26:HdOk Tryz.prog ct26:=hR20 ctZ_ok
theorem hM26:HdOk Tryz.prog M26:=hitM_ok ctZ_ok (evH_ok mix ok26 60) (by kernel_rfl:clB as26 m26=true) (resEqb_eq piece26)
theorem hR26{g:Hd}(hg:HdOk Tryz.prog g):HdOk Tryz.prog (H26 g):=hitR_ok hg (evH_ok mix ok26 60) (by kernel_rfl:cR as26 m26 r26 u26=true) (resEqb_eq piece26)
theorem ok27:HdOk Tryz.prog ct27:=hR20 ctZ_ok
theorem hM27:HdOk Tryz.prog M27:=hitM_ok ctZ_ok (evH_ok mix ok27 60) (by kernel_rfl:clB as27 m27=true) (resEqb_eq piece27)
theorem hR27{g:Hd}(hg:HdOk Tryz.prog g):HdOk Tryz.prog (H27 g):=hitR_ok hg (evH_ok mix ok27 60) (by kernel_rfl:cR as27 m27 r27 u27=true) (resEqb_eq piece27)
theorem ok28:HdOk Tryz.prog ct28:=hR20 ctZ_ok
theorem hM28:HdOk Tryz.prog M28:=hitM_ok ctZ_ok (evH_ok mix ok28 60) (by kernel_rfl:clB as28 m28=true) (resEqb_eq piece28)
theorem hR28{g:Hd}(hg:HdOk Tryz.prog g):HdOk Tryz.prog (H28 g):=hitR_ok hg (evH_ok mix ok28 60) (by kernel_rfl:cR as28 m28 r28 u28=true) (resEqb_eq piece28)
theorem ok29:HdOk Tryz.prog ct29:=hR20 ctZ_ok
theorem hM29:HdOk Tryz.prog M29:=hitM_ok ctZ_ok (evH_ok mix ok29 60) (by kernel_rfl:clB as29 m29=true) (resEqb_eq piece29)
theorem hR29{g:Hd}(hg:HdOk Tryz.prog g):HdOk Tryz.prog (H29 g):=hitR_ok hg (evH_ok mix ok29 60) (by kernel_rfl:cR as29 m29 r29 u29=true) (resEqb_eq piece29)
theorem ok30:HdOk Tryz.prog ct30:=hR20 ctZ_ok
theorem hM30:HdOk Tryz.prog M30:=hitM_ok ctZ_ok (evH_ok mix ok30 60) (by kernel_rfl:clB as30 m30=true) (resEqb_eq piece30)
theorem hR30{g:Hd}(hg:HdOk Tryz.prog g):HdOk Tryz.prog (H30 g):=hitR_ok hg (evH_ok mix ok30 60) (by kernel_rfl:cR as30 m30 r30 u30=true) (resEqb_eq piece30)
theorem ok31:HdOk Tryz.prog ct31:=hR20 ctZ_ok
theorem hM31:HdOk Tryz.prog M31:=hitM_ok ctZ_ok (evH_ok mix ok31 60) (by kernel_rfl:clB as31 m31=true) (resEqb_eq piece31)
theorem hR31{g:Hd}(hg:HdOk Tryz.prog g):HdOk Tryz.prog (H31 g):=hitR_ok hg (evH_ok mix ok31 60) (by kernel_rfl:cR as31 m31 r31 u31=true) (resEqb_eq piece31)
theorem ok32:HdOk Tryz.prog ct32:=hR20 ctZ_ok
theorem hM32:HdOk Tryz.prog M32:=hitM_ok ctZ_ok (evH_ok mix ok32 60) (by kernel_rfl:clB as32 m32=true) (resEqb_eq piece32)
theorem hR32{g:Hd}(hg:HdOk Tryz.prog g):HdOk Tryz.prog (H32 g):=hitR_ok hg (evH_ok mix ok32 60) (by kernel_rfl:cR as32 m32 r32 u32=true) (resEqb_eq piece32)
theorem ok33:HdOk Tryz.prog ct33:=hR20 ctZ_ok
theorem hM33:HdOk Tryz.prog M33:=hitM_ok ctZ_ok (evH_ok mix ok33 60) (by kernel_rfl:clB as33 m33=true) (resEqb_eq piece33)
theorem hR33{g:Hd}(hg:HdOk Tryz.prog g):HdOk Tryz.prog (H33 g):=hitR_ok hg (evH_ok mix ok33 60) (by kernel_rfl:cR as33 m33 r33 u33=true) (resEqb_eq piece33)
theorem ok34:HdOk Tryz.prog ct34:=hR20 ctZ_ok
theorem hM34:HdOk Tryz.prog M34:=hitM_ok ctZ_ok (evH_ok mix ok34 60) (by kernel_rfl:clB as34 m34=true) (resEqb_eq piece34)
theorem hR34{g:Hd}(hg:HdOk Tryz.prog g):HdOk Tryz.prog (H34 g):=hitR_ok hg (evH_ok mix ok34 60) (by kernel_rfl:cR as34 m34 r34 u34=true) (resEqb_eq piece34)
theorem ok35:HdOk Tryz.prog ct35:=hR20 ctZ_ok
theorem hM35:HdOk Tryz.prog M35:=hitM_ok ctZ_ok (evH_ok mix ok35 60) (by kernel_rfl:clB as35 m35=true) (resEqb_eq piece35)
theorem hR35{g:Hd}(hg:HdOk Tryz.prog g):HdOk Tryz.prog (H35 g):=hitR_ok hg (evH_ok mix ok35 60) (by kernel_rfl:cR as35 m35 r35 u35=true) (resEqb_eq piece35)
theorem ok36:HdOk Tryz.prog ct36:=pickF_ok ctZ_ok ctZ_ok (allT_cons hM19 (allT_cons hM21 (allT_cons hM22 (allT_cons hM23 (allT_cons hM24 (allT_cons hM25 (allT_cons hM26 (allT_cons hM27 (allT_cons hM28 (allT_cons hM29 (allT_cons hM30 (allT_cons hM31 (allT_cons hM32 (allT_cons hM33 (allT_cons hM34 (allT_cons hM35 allT_nil))))))))))))))))
theorem hM36:HdOk Tryz.prog M36:=hitM_ok ctZ_ok (evH_ok mix ok36 60) (by kernel_rfl:clB as36 m36=true) (resEqb_eq piece36)
theorem ok37:HdOk Tryz.prog ct37:=hR19 ctZ_ok
theorem hM37:HdOk Tryz.prog M37:=hitM_ok ctZ_ok (evH_ok mix ok37 60) (by kernel_rfl:clB as37 m37=true) (resEqb_eq piece37)
theorem ok38:HdOk Tryz.prog ct38:=pickF_ok ctZ_ok ctZ_ok (allT_cons hM37 allT_nil)
theorem hM38:HdOk Tryz.prog M38:=hitM_ok ctZ_ok (evH_ok mix ok38 60) (by kernel_rfl:clB as38 m38=true) (resEqb_eq piece38)
theorem ok39:HdOk Tryz.prog ct39:=ctZ_ok
theorem hM39:HdOk Tryz.prog M39:=hitM_ok ctZ_ok (evH_ok mix ok39 60) (by kernel_rfl:clB as39 m39=true) (resEqb_eq piece39)
theorem ok40:HdOk Tryz.prog ct40:=pickF_ok (hR20 ctZ_ok) ctZ_ok (allT_cons hM38 (allT_cons hM39 allT_nil))
theorem hM40:HdOk Tryz.prog M40:=hitM_ok ctZ_ok (evH_ok mix ok40 60) (by kernel_rfl:clB as40 m40=true) (resEqb_eq piece40)
theorem ok41:HdOk Tryz.prog ct41:=pickF_ok ctZ_ok ctZ_ok (allT_cons hM40 allT_nil)
theorem hM41:HdOk Tryz.prog M41:=hitM_ok ctZ_ok (evH_ok mix ok41 60) (by kernel_rfl:clB as41 m41=true) (resEqb_eq piece41)
theorem ok42:HdOk Tryz.prog ct42:=ctZ_ok
theorem hM42:HdOk Tryz.prog M42:=hitM_ok ctZ_ok (evH_ok mix ok42 60) (by kernel_rfl:clB as42 m42=true) (resEqb_eq piece42)
theorem ok43:HdOk Tryz.prog ct43:=pickF_ok (hR20 ctZ_ok) ctZ_ok (allT_cons hM41 (allT_cons hM42 allT_nil))
theorem hM43:HdOk Tryz.prog M43:=hitM_ok ctZ_ok (evH_ok mix ok43 60) (by kernel_rfl:clB as43 m43=true) (resEqb_eq piece43)
theorem ok44:HdOk Tryz.prog ct44:=pickF_ok ctZ_ok ctZ_ok (allT_cons hM43 allT_nil)
theorem hM44:HdOk Tryz.prog M44:=hitM_ok ctZ_ok (evH_ok mix ok44 60) (by kernel_rfl:clB as44 m44=true) (resEqb_eq piece44)
theorem ok45:HdOk Tryz.prog ct45:=ctZ_ok
theorem hM45:HdOk Tryz.prog M45:=hitM_ok ctZ_ok (evH_ok mix ok45 60) (by kernel_rfl:clB as45 m45=true) (resEqb_eq piece45)
theorem ok46:HdOk Tryz.prog ct46:=pickF_ok (hR20 ctZ_ok) ctZ_ok (allT_cons hM44 (allT_cons hM45 allT_nil))
theorem hM46:HdOk Tryz.prog M46:=hitM_ok ctZ_ok (evH_ok mix ok46 60) (by kernel_rfl:clB as46 m46=true) (resEqb_eq piece46)
theorem ok47:HdOk Tryz.prog ct47:=pickF_ok ctZ_ok ctZ_ok (allT_cons hM46 allT_nil)
theorem hM47:HdOk Tryz.prog M47:=hitM_ok ctZ_ok (evH_ok mix ok47 60) (by kernel_rfl:clB as47 m47=true) (resEqb_eq piece47)
theorem ok48:HdOk Tryz.prog ct48:=ctZ_ok
theorem hM48:HdOk Tryz.prog M48:=hitM_ok ctZ_ok (evH_ok mix ok48 60) (by kernel_rfl:clB as48 m48=true) (resEqb_eq piece48)
theorem ok49:HdOk Tryz.prog ct49:=pickF_ok (hR20 ctZ_ok) ctZ_ok (allT_cons hM47 (allT_cons hM48 allT_nil))
theorem hM49:HdOk Tryz.prog M49:=hitM_ok ctZ_ok (evH_ok mix ok49 60) (by kernel_rfl:clB as49 m49=true) (resEqb_eq piece49)
theorem ok50:HdOk Tryz.prog ct50:=pickF_ok ctZ_ok ctZ_ok (allT_cons hM49 allT_nil)
theorem hM50:HdOk Tryz.prog M50:=hitM_ok ctZ_ok (evH_ok mix ok50 60) (by kernel_rfl:clB as50 m50=true) (resEqb_eq piece50)
theorem ok51:HdOk Tryz.prog ct51:=ctZ_ok
theorem hM51:HdOk Tryz.prog M51:=hitM_ok ctZ_ok (evH_ok mix ok51 60) (by kernel_rfl:clB as51 m51=true) (resEqb_eq piece51)
theorem ok52:HdOk Tryz.prog ct52:=pickF_ok (hR20 ctZ_ok) ctZ_ok (allT_cons hM50 (allT_cons hM51 allT_nil))
theorem hM52:HdOk Tryz.prog M52:=hitM_ok ctZ_ok (evH_ok mix ok52 60) (by kernel_rfl:clB as52 m52=true) (resEqb_eq piece52)
theorem ok53:HdOk Tryz.prog ct53:=pickF_ok ctZ_ok ctZ_ok (allT_cons hM52 allT_nil)
theorem hM53:HdOk Tryz.prog M53:=hitM_ok ctZ_ok (evH_ok mix ok53 60) (by kernel_rfl:clB as53 m53=true) (resEqb_eq piece53)
theorem ok54:HdOk Tryz.prog ct54:=ctZ_ok
theorem hM54:HdOk Tryz.prog M54:=hitM_ok ctZ_ok (evH_ok mix ok54 60) (by kernel_rfl:clB as54 m54=true) (resEqb_eq piece54)
theorem ok55:HdOk Tryz.prog ct55:=pickF_ok (hR20 ctZ_ok) ctZ_ok (allT_cons hM53 (allT_cons hM54 allT_nil))
theorem hM55:HdOk Tryz.prog M55:=hitM_ok ctZ_ok (evH_ok mix ok55 60) (by kernel_rfl:clB as55 m55=true) (resEqb_eq piece55)
theorem ok56:HdOk Tryz.prog ct56:=pickF_ok ctZ_ok ctZ_ok (allT_cons hM55 allT_nil)
theorem hM56:HdOk Tryz.prog M56:=hitM_ok ctZ_ok (evH_ok mix ok56 60) (by kernel_rfl:clB as56 m56=true) (resEqb_eq piece56)
theorem ok57:HdOk Tryz.prog ct57:=ctZ_ok
theorem hM57:HdOk Tryz.prog M57:=hitM_ok ctZ_ok (evH_ok mix ok57 60) (by kernel_rfl:clB as57 m57=true) (resEqb_eq piece57)
theorem ok58:HdOk Tryz.prog ct58:=pickF_ok (hR20 ctZ_ok) ctZ_ok (allT_cons hM56 (allT_cons hM57 allT_nil))
theorem hM58:HdOk Tryz.prog M58:=hitM_ok ctZ_ok (evH_ok mix ok58 60) (by kernel_rfl:clB as58 m58=true) (resEqb_eq piece58)
theorem ok59:HdOk Tryz.prog ct59:=pickF_ok ctZ_ok ctZ_ok (allT_cons hM58 allT_nil)
theorem hM59:HdOk Tryz.prog M59:=hitM_ok ctZ_ok (evH_ok mix ok59 60) (by kernel_rfl:clB as59 m59=true) (resEqb_eq piece59)
theorem ok60:HdOk Tryz.prog ct60:=ctZ_ok
theorem hM60:HdOk Tryz.prog M60:=hitM_ok ctZ_ok (evH_ok mix ok60 60) (by kernel_rfl:clB as60 m60=true) (resEqb_eq piece60)
theorem ok61:HdOk Tryz.prog ct61:=pickF_ok (hR20 ctZ_ok) ctZ_ok (allT_cons hM59 (allT_cons hM60 allT_nil))
theorem hM61:HdOk Tryz.prog M61:=hitM_ok ctZ_ok (evH_ok mix ok61 60) (by kernel_rfl:clB as61 m61=true) (resEqb_eq piece61)
theorem ok62:HdOk Tryz.prog ct62:=pickF_ok ctZ_ok ctZ_ok (allT_cons hM61 allT_nil)
theorem hM62:HdOk Tryz.prog M62:=hitM_ok ctZ_ok (evH_ok mix ok62 60) (by kernel_rfl:clB as62 m62=true) (resEqb_eq piece62)
theorem ok63:HdOk Tryz.prog ct63:=ctZ_ok
theorem hM63:HdOk Tryz.prog M63:=hitM_ok ctZ_ok (evH_ok mix ok63 60) (by kernel_rfl:clB as63 m63=true) (resEqb_eq piece63)
theorem ok64:HdOk Tryz.prog ct64:=pickF_ok (hR20 ctZ_ok) ctZ_ok (allT_cons hM62 (allT_cons hM63 allT_nil))
theorem hM64:HdOk Tryz.prog M64:=hitM_ok ctZ_ok (evH_ok mix ok64 60) (by kernel_rfl:clB as64 m64=true) (resEqb_eq piece64)
theorem ok65:HdOk Tryz.prog ct65:=pickF_ok ctZ_ok ctZ_ok (allT_cons hM64 allT_nil)
theorem hM65:HdOk Tryz.prog M65:=hitM_ok ctZ_ok (evH_ok mix ok65 60) (by kernel_rfl:clB as65 m65=true) (resEqb_eq piece65)
theorem ok66:HdOk Tryz.prog ct66:=ctZ_ok
theorem hM66:HdOk Tryz.prog M66:=hitM_ok ctZ_ok (evH_ok mix ok66 60) (by kernel_rfl:clB as66 m66=true) (resEqb_eq piece66)
theorem ok67:HdOk Tryz.prog ct67:=pickF_ok (hR20 ctZ_ok) ctZ_ok (allT_cons hM65 (allT_cons hM66 allT_nil))
theorem hM67:HdOk Tryz.prog M67:=hitM_ok ctZ_ok (evH_ok mix ok67 60) (by kernel_rfl:clB as67 m67=true) (resEqb_eq piece67)
theorem ok68:HdOk Tryz.prog ct68:=pickF_ok ctZ_ok ctZ_ok (allT_cons hM67 allT_nil)
theorem hM68:HdOk Tryz.prog M68:=hitM_ok ctZ_ok (evH_ok mix ok68 60) (by kernel_rfl:clB as68 m68=true) (resEqb_eq piece68)
theorem ok69:HdOk Tryz.prog ct69:=ctZ_ok
theorem hM69:HdOk Tryz.prog M69:=hitM_ok ctZ_ok (evH_ok mix ok69 60) (by kernel_rfl:clB as69 m69=true) (resEqb_eq piece69)
theorem ok70:HdOk Tryz.prog ct70:=pickF_ok (hR20 ctZ_ok) ctZ_ok (allT_cons hM68 (allT_cons hM69 allT_nil))
theorem hM70:HdOk Tryz.prog M70:=hitM_ok ctZ_ok (evH_ok mix ok70 60) (by kernel_rfl:clB as70 m70=true) (resEqb_eq piece70)
theorem ok71:HdOk Tryz.prog ct71:=pickF_ok ctZ_ok ctZ_ok (allT_cons hM70 allT_nil)
theorem hM71:HdOk Tryz.prog M71:=hitM_ok ctZ_ok (evH_ok mix ok71 60) (by kernel_rfl:clB as71 m71=true) (resEqb_eq piece71)
theorem ok72:HdOk Tryz.prog ct72:=ctZ_ok
theorem hM72:HdOk Tryz.prog M72:=hitM_ok ctZ_ok (evH_ok mix ok72 60) (by kernel_rfl:clB as72 m72=true) (resEqb_eq piece72)
theorem ok73:HdOk Tryz.prog ct73:=pickF_ok (hR20 ctZ_ok) ctZ_ok (allT_cons hM71 (allT_cons hM72 allT_nil))
theorem hM73:HdOk Tryz.prog M73:=hitM_ok ctZ_ok (evH_ok mix ok73 60) (by kernel_rfl:clB as73 m73=true) (resEqb_eq piece73)
theorem ok74:HdOk Tryz.prog ct74:=pickF_ok ctZ_ok ctZ_ok (allT_cons hM73 allT_nil)
theorem hM74:HdOk Tryz.prog M74:=hitM_ok ctZ_ok (evH_ok mix ok74 60) (by kernel_rfl:clB as74 m74=true) (resEqb_eq piece74)
theorem ok75:HdOk Tryz.prog ct75:=ctZ_ok
theorem hM75:HdOk Tryz.prog M75:=hitM_ok ctZ_ok (evH_ok mix ok75 60) (by kernel_rfl:clB as75 m75=true) (resEqb_eq piece75)
theorem ok76:HdOk Tryz.prog ct76:=pickF_ok (hR20 ctZ_ok) ctZ_ok (allT_cons hM74 (allT_cons hM75 allT_nil))
theorem hM76:HdOk Tryz.prog M76:=hitM_ok ctZ_ok (evH_ok mix ok76 60) (by kernel_rfl:clB as76 m76=true) (resEqb_eq piece76)
theorem ok77:HdOk Tryz.prog ct77:=pickF_ok ctZ_ok ctZ_ok (allT_cons hM76 allT_nil)
theorem hM77:HdOk Tryz.prog M77:=hitM_ok ctZ_ok (evH_ok mix ok77 60) (by kernel_rfl:clB as77 m77=true) (resEqb_eq piece77)
theorem ok78:HdOk Tryz.prog ct78:=ctZ_ok
theorem hM78:HdOk Tryz.prog M78:=hitM_ok ctZ_ok (evH_ok mix ok78 60) (by kernel_rfl:clB as78 m78=true) (resEqb_eq piece78)
theorem ok79:HdOk Tryz.prog ct79:=pickF_ok (hR20 ctZ_ok) ctZ_ok (allT_cons hM77 (allT_cons hM78 allT_nil))
theorem hM79:HdOk Tryz.prog M79:=hitM_ok ctZ_ok (evH_ok mix ok79 60) (by kernel_rfl:clB as79 m79=true) (resEqb_eq piece79)
theorem ok80:HdOk Tryz.prog ct80:=pickF_ok ctZ_ok ctZ_ok (allT_cons hM79 allT_nil)
theorem hM80:HdOk Tryz.prog M80:=hitM_ok ctZ_ok (evH_ok mix ok80 60) (by kernel_rfl:clB as80 m80=true) (resEqb_eq piece80)
theorem ok81:HdOk Tryz.prog ct81:=ctZ_ok
theorem hM81:HdOk Tryz.prog M81:=hitM_ok ctZ_ok (evH_ok mix ok81 60) (by kernel_rfl:clB as81 m81=true) (resEqb_eq piece81)
theorem ok82:HdOk Tryz.prog ct82:=pickF_ok (hR20 ctZ_ok) ctZ_ok (allT_cons hM80 (allT_cons hM81 allT_nil))
theorem hM82:HdOk Tryz.prog M82:=hitM_ok ctZ_ok (evH_ok mix ok82 60) (by kernel_rfl:clB as82 m82=true) (resEqb_eq piece82)
theorem ok83:HdOk Tryz.prog ct83:=pickF_ok ctZ_ok ctZ_ok (allT_cons hM82 allT_nil)
theorem hM83:HdOk Tryz.prog M83:=hitM_ok ctZ_ok (evH_ok mix ok83 60) (by kernel_rfl:clB as83 m83=true) (resEqb_eq piece83)
theorem ok84:HdOk Tryz.prog ct84:=ctZ_ok
theorem hM84:HdOk Tryz.prog M84:=hitM_ok ctZ_ok (evH_ok mix ok84 60) (by kernel_rfl:clB as84 m84=true) (resEqb_eq piece84)
theorem ok85:HdOk Tryz.prog ct85:=pickF_ok ctZ_ok ctZ_ok (allT_cons hM84 allT_nil)
theorem hM85:HdOk Tryz.prog M85:=hitM_ok ctZ_ok (evH_ok mix ok85 60) (by kernel_rfl:clB as85 m85=true) (resEqb_eq piece85)
theorem ok86:HdOk Tryz.prog ct86:=pickF_ok (hR20 ctZ_ok) ctZ_ok (allT_cons hM85 allT_nil)
theorem hM86:HdOk Tryz.prog M86:=hitM_ok ctZ_ok (evH_ok mix ok86 60) (by kernel_rfl:clB as86 m86=true) (resEqb_eq piece86)
theorem ok87:HdOk Tryz.prog ct87:=pickF_ok ctZ_ok ctZ_ok (allT_cons hM86 allT_nil)
theorem hM87:HdOk Tryz.prog M87:=hitM_ok ctZ_ok (evH_ok mix ok87 60) (by kernel_rfl:clB as87 m87=true) (resEqb_eq piece87)
theorem ok88:HdOk Tryz.prog ct88:=pickF_ok (hR20 ctZ_ok) ctZ_ok (allT_cons hM87 allT_nil)
theorem hM88:HdOk Tryz.prog M88:=hitM_ok ctZ_ok (evH_ok mix ok88 60) (by kernel_rfl:clB as88 m88=true) (resEqb_eq piece88)
theorem ok89:HdOk Tryz.prog ct89:=pickF_ok ctZ_ok ctZ_ok (allT_cons hM88 allT_nil)
theorem hM89:HdOk Tryz.prog M89:=hitM_ok ctZ_ok (evH_ok mix ok89 60) (by kernel_rfl:clB as89 m89=true) (resEqb_eq piece89)
theorem ok90:HdOk Tryz.prog ct90:=pickF_ok (hR20 ctZ_ok) ctZ_ok (allT_cons hM89 allT_nil)
theorem hM90:HdOk Tryz.prog M90:=hitM_ok ctZ_ok (evH_ok mix ok90 60) (by kernel_rfl:clB as90 m90=true) (resEqb_eq piece90)
theorem ok91:HdOk Tryz.prog ct91:=pickF_ok ctZ_ok ctZ_ok (allT_cons hM90 allT_nil)
theorem hM91:HdOk Tryz.prog M91:=hitM_ok ctZ_ok (evH_ok mix ok91 60) (by kernel_rfl:clB as91 m91=true) (resEqb_eq piece91)
theorem ok92:HdOk Tryz.prog ct92:=pickF_ok (hR20 ctZ_ok) ctZ_ok (allT_cons hM91 allT_nil)
theorem hM92:HdOk Tryz.prog M92:=hitM_ok ctZ_ok (evH_ok mix ok92 60) (by kernel_rfl:clB as92 m92=true) (resEqb_eq piece92)
theorem ok93:HdOk Tryz.prog ct93:=pickF_ok ctZ_ok ctZ_ok (allT_cons hM92 allT_nil)
theorem hM93:HdOk Tryz.prog M93:=hitM_ok ctZ_ok (evH_ok mix ok93 60) (by kernel_rfl:clB as93 m93=true) (resEqb_eq piece93)
theorem ok94:HdOk Tryz.prog ct94:=pickF_ok (hR20 ctZ_ok) ctZ_ok (allT_cons hM93 allT_nil)
theorem hM94:HdOk Tryz.prog M94:=hitM_ok ctZ_ok (evH_ok mix ok94 60) (by kernel_rfl:clB as94 m94=true) (resEqb_eq piece94)
theorem ok95:HdOk Tryz.prog ct95:=pickF_ok ctZ_ok ctZ_ok (allT_cons hM94 allT_nil)
theorem hM95:HdOk Tryz.prog M95:=hitM_ok ctZ_ok (evH_ok mix ok95 60) (by kernel_rfl:clB as95 m95=true) (resEqb_eq piece95)
theorem ok96:HdOk Tryz.prog ct96:=pickF_ok (hR20 ctZ_ok) ctZ_ok (allT_cons hM95 allT_nil)
theorem hM96:HdOk Tryz.prog M96:=hitM_ok ctZ_ok (evH_ok mix ok96 60) (by kernel_rfl:clB as96 m96=true) (resEqb_eq piece96)
theorem ok97:HdOk Tryz.prog ct97:=pickF_ok ctZ_ok ctZ_ok (allT_cons hM96 allT_nil)
theorem hM97:HdOk Tryz.prog M97:=hitM_ok ctZ_ok (evH_ok mix ok97 60) (by kernel_rfl:clB as97 m97=true) (resEqb_eq piece97)
theorem ok98:HdOk Tryz.prog ct98:=pickF_ok (hR20 ctZ_ok) ctZ_ok (allT_cons hM97 allT_nil)
theorem hM98:HdOk Tryz.prog M98:=hitM_ok ctZ_ok (evH_ok mix ok98 60) (by kernel_rfl:clB as98 m98=true) (resEqb_eq piece98)
theorem ok99:HdOk Tryz.prog ct99:=pickF_ok ctZ_ok ctZ_ok (allT_cons hM98 allT_nil)
theorem hM99:HdOk Tryz.prog M99:=hitM_ok ctZ_ok (evH_ok mix ok99 60) (by kernel_rfl:clB as99 m99=true) (resEqb_eq piece99)
theorem ok100:HdOk Tryz.prog ct100:=pickF_ok (hR20 ctZ_ok) ctZ_ok (allT_cons hM99 allT_nil)
theorem hM100:HdOk Tryz.prog M100:=hitM_ok ctZ_ok (evH_ok mix ok100 60) (by kernel_rfl:clB as100 m100=true) (resEqb_eq piece100)
theorem ok101:HdOk Tryz.prog ct101:=pickF_ok ctZ_ok ctZ_ok (allT_cons hM100 allT_nil)
theorem hM101:HdOk Tryz.prog M101:=hitM_ok ctZ_ok (evH_ok mix ok101 60) (by kernel_rfl:clB as101 m101=true) (resEqb_eq piece101)
theorem ok102:HdOk Tryz.prog ct102:=pickF_ok (hR20 ctZ_ok) ctZ_ok (allT_cons hM101 allT_nil)
theorem hM102:HdOk Tryz.prog M102:=hitM_ok ctZ_ok (evH_ok mix ok102 60) (by kernel_rfl:clB as102 m102=true) (resEqb_eq piece102)
theorem ok103:HdOk Tryz.prog ct103:=pickF_ok ctZ_ok ctZ_ok (allT_cons hM102 allT_nil)
theorem hM103:HdOk Tryz.prog M103:=hitM_ok ctZ_ok (evH_ok mix ok103 60) (by kernel_rfl:clB as103 m103=true) (resEqb_eq piece103)
theorem ok104:HdOk Tryz.prog ct104:=pickF_ok (hR20 ctZ_ok) ctZ_ok (allT_cons hM103 allT_nil)
theorem hM104:HdOk Tryz.prog M104:=hitM_ok ctZ_ok (evH_ok mix ok104 60) (by kernel_rfl:clB as104 m104=true) (resEqb_eq piece104)
theorem ok105:HdOk Tryz.prog ct105:=pickF_ok ctZ_ok ctZ_ok (allT_cons hM104 allT_nil)
theorem hM105:HdOk Tryz.prog M105:=hitM_ok ctZ_ok (evH_ok mix ok105 60) (by kernel_rfl:clB as105 m105=true) (resEqb_eq piece105)
theorem ok106:HdOk Tryz.prog ct106:=pickF_ok (hR20 ctZ_ok) ctZ_ok (allT_cons hM105 allT_nil)
theorem hM106:HdOk Tryz.prog M106:=hitM_ok ctZ_ok (evH_ok mix ok106 60) (by kernel_rfl:clB as106 m106=true) (resEqb_eq piece106)
theorem ok107:HdOk Tryz.prog ct107:=pickF_ok ctZ_ok ctZ_ok (allT_cons hM106 allT_nil)
theorem hM107:HdOk Tryz.prog M107:=hitM_ok ctZ_ok (evH_ok mix ok107 60) (by kernel_rfl:clB as107 m107=true) (resEqb_eq piece107)
theorem ok108:HdOk Tryz.prog ct108:=pickF_ok (hR20 ctZ_ok) ctZ_ok (allT_cons hM107 allT_nil)
theorem hM108:HdOk Tryz.prog M108:=hitM_ok ctZ_ok (evH_ok mix ok108 60) (by kernel_rfl:clB as108 m108=true) (resEqb_eq piece108)
theorem ok109:HdOk Tryz.prog ct109:=pickF_ok ctZ_ok ctZ_ok (allT_cons hM108 allT_nil)
theorem hM109:HdOk Tryz.prog M109:=hitM_ok ctZ_ok (evH_ok mix ok109 60) (by kernel_rfl:clB as109 m109=true) (resEqb_eq piece109)
theorem ok110:HdOk Tryz.prog ct110:=pickF_ok (hR20 ctZ_ok) ctZ_ok (allT_cons hM109 allT_nil)
theorem hM110:HdOk Tryz.prog M110:=hitM_ok ctZ_ok (evH_ok mix ok110 60) (by kernel_rfl:clB as110 m110=true) (resEqb_eq piece110)
theorem ok111:HdOk Tryz.prog ct111:=pickF_ok ctZ_ok ctZ_ok (allT_cons hM110 allT_nil)
theorem hM111:HdOk Tryz.prog M111:=hitM_ok ctZ_ok (evH_ok mix ok111 60) (by kernel_rfl:clB as111 m111=true) (resEqb_eq piece111)
theorem ok112:HdOk Tryz.prog ct112:=pickF_ok (hR20 ctZ_ok) ctZ_ok (allT_cons hM111 allT_nil)
theorem hM112:HdOk Tryz.prog M112:=hitM_ok ctZ_ok (evH_ok mix ok112 60) (by kernel_rfl:clB as112 m112=true) (resEqb_eq piece112)
theorem ok113:HdOk Tryz.prog ct113:=pickF_ok ctZ_ok ctZ_ok (allT_cons hM112 allT_nil)
theorem hM113:HdOk Tryz.prog M113:=hitM_ok ctZ_ok (evH_ok mix ok113 60) (by kernel_rfl:clB as113 m113=true) (resEqb_eq piece113)
theorem ok114:HdOk Tryz.prog ct114:=pickF_ok (hR20 ctZ_ok) ctZ_ok (allT_cons hM113 allT_nil)
theorem hM114:HdOk Tryz.prog M114:=hitM_ok ctZ_ok (evH_ok mix ok114 60) (by kernel_rfl:clB as114 m114=true) (resEqb_eq piece114)
theorem ok115:HdOk Tryz.prog ct115:=pickF_ok ctZ_ok ctZ_ok (allT_cons hM114 allT_nil)
theorem hM115:HdOk Tryz.prog M115:=hitM_ok ctZ_ok (evH_ok mix ok115 60) (by kernel_rfl:clB as115 m115=true) (resEqb_eq piece115)
theorem ok116:HdOk Tryz.prog ct116:=pickF_ok (hR20 ctZ_ok) ctZ_ok (allT_cons hM115 allT_nil)
theorem hM116:HdOk Tryz.prog M116:=hitM_ok ctZ_ok (evH_ok mix ok116 60) (by kernel_rfl:clB as116 m116=true) (resEqb_eq piece116)
theorem hR116{g:Hd}(hg:HdOk Tryz.prog g):HdOk Tryz.prog (H116 g):=hitR_ok hg (evH_ok mix ok116 60) (by kernel_rfl:cR as116 m116 r116 u116=true) (resEqb_eq piece116)
theorem ok117:HdOk Tryz.prog ct117:=pickF_ok ctZ_ok ctZ_ok (allT_cons hM116 allT_nil)
theorem hM117:HdOk Tryz.prog M117:=hitM_ok ctZ_ok (evH_ok mix ok117 60) (by kernel_rfl:clB as117 m117=true) (resEqb_eq piece117)
theorem ok118:HdOk Tryz.prog ct118:=hR116 ctZ_ok
theorem hM118:HdOk Tryz.prog M118:=hitM_ok ctZ_ok (evH_ok mix ok118 60) (by kernel_rfl:clB as118 m118=true) (resEqb_eq piece118)
theorem ok119:HdOk Tryz.prog ct119:=ctZ_ok
theorem hM119:HdOk Tryz.prog M119:=hitM_ok ctZ_ok (evH_ok mix ok119 60) (by kernel_rfl:clB as119 m119=true) (resEqb_eq piece119)
theorem hR119{g:Hd}(hg:HdOk Tryz.prog g):HdOk Tryz.prog (H119 g):=hitR_ok hg (evH_ok mix ok119 60) (by kernel_rfl:cR as119 m119 r119 u119=true) (resEqb_eq piece119)
theorem ok120:HdOk Tryz.prog ct120:=ctZ_ok
theorem hM120:HdOk Tryz.prog M120:=hitM_ok ctZ_ok (evH_ok mix ok120 60) (by kernel_rfl:clB as120 m120=true) (resEqb_eq piece120)
theorem hR120{g:Hd}(hg:HdOk Tryz.prog g):HdOk Tryz.prog (H120 g):=hitR_ok hg (evH_ok mix ok120 60) (by kernel_rfl:cR as120 m120 r120 u120=true) (resEqb_eq piece120)
theorem ok121:HdOk Tryz.prog ct121:=hR120 ctZ_ok
theorem hM121:HdOk Tryz.prog M121:=hitM_ok ctZ_ok (evH_ok mix ok121 60) (by kernel_rfl:clB as121 m121=true) (resEqb_eq piece121)
theorem ok122:HdOk Tryz.prog ct122:=pickF_ok ctZ_ok ctZ_ok (allT_cons hM121 allT_nil)
theorem hM122:HdOk Tryz.prog M122:=hitM_ok ctZ_ok (evH_ok mix ok122 60) (by kernel_rfl:clB as122 m122=true) (resEqb_eq piece122)
theorem ok123:HdOk Tryz.prog ct123:=pickF_ok (hR119 (hR120 ctZ_ok)) ctZ_ok (allT_cons hM120 (allT_cons hM122 allT_nil))
theorem hM123:HdOk Tryz.prog M123:=hitM_ok ctZ_ok (evH_ok mix ok123 60) (by kernel_rfl:clB as123 m123=true) (resEqb_eq piece123)
theorem ok124:HdOk Tryz.prog ct124:=pickF_ok ctZ_ok ctZ_ok (allT_cons hM123 allT_nil)
theorem hM124:HdOk Tryz.prog M124:=hitM_ok ctZ_ok (evH_ok mix ok124 60) (by kernel_rfl:clB as124 m124=true) (resEqb_eq piece124)
theorem ok125:HdOk Tryz.prog ct125:=ctZ_ok
theorem hM125:HdOk Tryz.prog M125:=hitM_ok ctZ_ok (evH_ok mix ok125 60) (by kernel_rfl:clB as125 m125=true) (resEqb_eq piece125)
theorem hR125{g:Hd}(hg:HdOk Tryz.prog g):HdOk Tryz.prog (H125 g):=hitR_ok hg (evH_ok mix ok125 60) (by kernel_rfl:cR as125 m125 r125 u125=true) (resEqb_eq piece125)
theorem ok126:HdOk Tryz.prog ct126:=ctZ_ok
theorem hM126:HdOk Tryz.prog M126:=hitM_ok ctZ_ok (evH_ok mix ok126 60) (by kernel_rfl:clB as126 m126=true) (resEqb_eq piece126)
theorem ok127:HdOk Tryz.prog ct127:=pickF_ok ctZ_ok ctZ_ok (allT_cons hM125 (allT_cons hM126 allT_nil))
theorem hM127:HdOk Tryz.prog M127:=hitM_ok ctZ_ok (evH_ok mix ok127 60) (by kernel_rfl:clB as127 m127=true) (resEqb_eq piece127)
theorem ok128:HdOk Tryz.prog ct128:=ctZ_ok
theorem hR128{g:Hd}(hg:HdOk Tryz.prog g):HdOk Tryz.prog (H128 g):=hitR_ok hg (evH_ok mix ok128 60) (by kernel_rfl:cR as128 m128 r128 u128=true) (resEqb_eq piece128)
theorem ok129:HdOk Tryz.prog ct129:=hR128 ctZ_ok
theorem hM129:HdOk Tryz.prog M129:=hitM_ok ctZ_ok (evH_ok mix ok129 60) (by kernel_rfl:clB as129 m129=true) (resEqb_eq piece129)
theorem hR129{g:Hd}(hg:HdOk Tryz.prog g):HdOk Tryz.prog (H129 g):=hitR_ok hg (evH_ok mix ok129 60) (by kernel_rfl:cR as129 m129 r129 u129=true) (resEqb_eq piece129)
theorem ok130:HdOk Tryz.prog ct130:=hR129 ctZ_ok
theorem hM130:HdOk Tryz.prog M130:=hitM_ok ctZ_ok (evH_ok mix ok130 60) (by kernel_rfl:clB as130 m130=true) (resEqb_eq piece130)
theorem ok131:HdOk Tryz.prog ct131:=pickF_ok ctZ_ok ctZ_ok (allT_cons hM130 allT_nil)
theorem hM131:HdOk Tryz.prog M131:=hitM_ok ctZ_ok (evH_ok mix ok131 60) (by kernel_rfl:clB as131 m131=true) (resEqb_eq piece131)
theorem ok132:HdOk Tryz.prog ct132:=ctZ_ok
theorem hM132:HdOk Tryz.prog M132:=hitM_ok ctZ_ok (evH_ok mix ok132 60) (by kernel_rfl:clB as132 m132=true) (resEqb_eq piece132)
theorem hR132{g:Hd}(hg:HdOk Tryz.prog g):HdOk Tryz.prog (H132 g):=hitR_ok hg (evH_ok mix ok132 60) (by kernel_rfl:cR as132 m132 r132 u132=true) (resEqb_eq piece132)
theorem ok133:HdOk Tryz.prog ct133:=ctZ_ok
theorem hM133:HdOk Tryz.prog M133:=hitM_ok ctZ_ok (evH_ok mix ok133 60) (by kernel_rfl:clB as133 m133=true) (resEqb_eq piece133)
theorem hR133{g:Hd}(hg:HdOk Tryz.prog g):HdOk Tryz.prog (H133 g):=hitR_ok hg (evH_ok mix ok133 60) (by kernel_rfl:cR as133 m133 r133 u133=true) (resEqb_eq piece133)
theorem ok134:HdOk Tryz.prog ct134:=hR128 ctZ_ok
theorem hM134:HdOk Tryz.prog M134:=hitM_ok ctZ_ok (evH_ok mix ok134 60) (by kernel_rfl:clB as134 m134=true) (resEqb_eq piece134)
theorem hR134{g:Hd}(hg:HdOk Tryz.prog g):HdOk Tryz.prog (H134 g):=hitR_ok hg (evH_ok mix ok134 60) (by kernel_rfl:cR as134 m134 r134 u134=true) (resEqb_eq piece134)
theorem ok135:HdOk Tryz.prog ct135:=pickF_ok ctZ_ok ctZ_ok (allT_cons hM134 allT_nil)
theorem hM135:HdOk Tryz.prog M135:=hitM_ok ctZ_ok (evH_ok mix ok135 60) (by kernel_rfl:clB as135 m135=true) (resEqb_eq piece135)
theorem ok136:HdOk Tryz.prog ct136:=pickF_ok ctZ_ok ctZ_ok (allT_cons hM135 allT_nil)
theorem hM136:HdOk Tryz.prog M136:=hitM_ok ctZ_ok (evH_ok mix ok136 60) (by kernel_rfl:clB as136 m136=true) (resEqb_eq piece136)
theorem ok137:HdOk Tryz.prog ct137:=hR134 ctZ_ok
theorem hM137:HdOk Tryz.prog M137:=hitM_ok ctZ_ok (evH_ok mix ok137 60) (by kernel_rfl:clB as137 m137=true) (resEqb_eq piece137)
theorem ok138:HdOk Tryz.prog ct138:=pickF_ok ctZ_ok ctZ_ok (allT_cons hM137 allT_nil)
theorem hM138:HdOk Tryz.prog M138:=hitM_ok ctZ_ok (evH_ok mix ok138 60) (by kernel_rfl:clB as138 m138=true) (resEqb_eq piece138)
theorem ok139:HdOk Tryz.prog ct139:=hR134 ctZ_ok
theorem hM139:HdOk Tryz.prog M139:=hitM_ok ctZ_ok (evH_ok mix ok139 60) (by kernel_rfl:clB as139 m139=true) (resEqb_eq piece139)
theorem ok140:HdOk Tryz.prog ct140:=pickF_ok ctZ_ok ctZ_ok (allT_cons hM139 allT_nil)
theorem hM140:HdOk Tryz.prog M140:=hitM_ok ctZ_ok (evH_ok mix ok140 60) (by kernel_rfl:clB as140 m140=true) (resEqb_eq piece140)
theorem ok141:HdOk Tryz.prog ct141:=hR134 ctZ_ok
theorem hM141:HdOk Tryz.prog M141:=hitM_ok ctZ_ok (evH_ok mix ok141 60) (by kernel_rfl:clB as141 m141=true) (resEqb_eq piece141)
theorem ok142:HdOk Tryz.prog ct142:=pickF_ok ctZ_ok ctZ_ok (allT_cons hM141 allT_nil)
theorem hM142:HdOk Tryz.prog M142:=hitM_ok ctZ_ok (evH_ok mix ok142 60) (by kernel_rfl:clB as142 m142=true) (resEqb_eq piece142)
theorem ok143:HdOk Tryz.prog ct143:=hR134 ctZ_ok
theorem hM143:HdOk Tryz.prog M143:=hitM_ok ctZ_ok (evH_ok mix ok143 60) (by kernel_rfl:clB as143 m143=true) (resEqb_eq piece143)
theorem ok144:HdOk Tryz.prog ct144:=pickF_ok ctZ_ok ctZ_ok (allT_cons hM143 allT_nil)
theorem hM144:HdOk Tryz.prog M144:=hitM_ok ctZ_ok (evH_ok mix ok144 60) (by kernel_rfl:clB as144 m144=true) (resEqb_eq piece144)
theorem ok145:HdOk Tryz.prog ct145:=hR134 ctZ_ok
theorem hM145:HdOk Tryz.prog M145:=hitM_ok ctZ_ok (evH_ok mix ok145 60) (by kernel_rfl:clB as145 m145=true) (resEqb_eq piece145)
theorem ok146:HdOk Tryz.prog ct146:=pickF_ok ctZ_ok ctZ_ok (allT_cons hM145 allT_nil)
theorem hM146:HdOk Tryz.prog M146:=hitM_ok ctZ_ok (evH_ok mix ok146 60) (by kernel_rfl:clB as146 m146=true) (resEqb_eq piece146)
theorem ok147:HdOk Tryz.prog ct147:=hR134 ctZ_ok
theorem hM147:HdOk Tryz.prog M147:=hitM_ok ctZ_ok (evH_ok mix ok147 60) (by kernel_rfl:clB as147 m147=true) (resEqb_eq piece147)
theorem ok148:HdOk Tryz.prog ct148:=pickF_ok ctZ_ok ctZ_ok (allT_cons hM147 allT_nil)
theorem hM148:HdOk Tryz.prog M148:=hitM_ok ctZ_ok (evH_ok mix ok148 60) (by kernel_rfl:clB as148 m148=true) (resEqb_eq piece148)
theorem ok149:HdOk Tryz.prog ct149:=ctZ_ok
theorem hM149:HdOk Tryz.prog M149:=hitM_ok ctZ_ok (evH_ok mix ok149 60) (by kernel_rfl:clB as149 m149=true) (resEqb_eq piece149)
theorem ok150:HdOk Tryz.prog ct150:=pickF_ok (hR129 (hR128 (hR125 (hR132 (hR133 ctZ_ok))))) ctZ_ok (allT_cons hM131 (allT_cons hM132 (allT_cons hM133 (allT_cons hM136 (allT_cons hM138 (allT_cons hM140 (allT_cons hM142 (allT_cons hM144 (allT_cons hM146 (allT_cons hM148 (allT_cons hM149 allT_nil)))))))))))
theorem hM150:HdOk Tryz.prog M150:=hitM_ok ctZ_ok (evH_ok mix ok150 60) (by kernel_rfl:clB as150 m150=true) (resEqb_eq piece150)
theorem hR150{g:Hd}(hg:HdOk Tryz.prog g):HdOk Tryz.prog (H150 g):=hitR_ok hg (evH_ok mix ok150 60) (by kernel_rfl:cR as150 m150 r150 u150=true) (resEqb_eq piece150)
theorem ok151:HdOk Tryz.prog ct151:=pickF_ok ctZ_ok ctZ_ok (allT_cons hM129 (allT_cons hM150 allT_nil))
theorem hM151:HdOk Tryz.prog M151:=hitM_ok ctZ_ok (evH_ok mix ok151 60) (by kernel_rfl:clB as151 m151=true) (resEqb_eq piece151)
theorem ok152:HdOk Tryz.prog ct152:=hR150 ctZ_ok
theorem hM152:HdOk Tryz.prog M152:=hitM_ok ctZ_ok (evH_ok mix ok152 60) (by kernel_rfl:clB as152 m152=true) (resEqb_eq piece152)
theorem ok153:HdOk Tryz.prog ct153:=pickF_ok ctZ_ok ctZ_ok (allT_cons hM127 (allT_cons hM151 (allT_cons hM152 allT_nil)))
theorem hM153:HdOk Tryz.prog M153:=hitM_ok ctZ_ok (evH_ok mix ok153 60) (by kernel_rfl:clB as153 m153=true) (resEqb_eq piece153)
theorem ok154:HdOk Tryz.prog ct154:=ctZ_ok
theorem hM154:HdOk Tryz.prog M154:=hitM_ok ctZ_ok (evH_ok mix ok154 60) (by kernel_rfl:clB as154 m154=true) (resEqb_eq piece154)
theorem hR154{g:Hd}(hg:HdOk Tryz.prog g):HdOk Tryz.prog (H154 g):=hitR_ok hg (evH_ok mix ok154 60) (by kernel_rfl:cR as154 m154 r154 u154=true) (resEqb_eq piece154)
theorem ok155:HdOk Tryz.prog ct155:=ctZ_ok
theorem hM155:HdOk Tryz.prog M155:=hitM_ok ctZ_ok (evH_ok mix ok155 60) (by kernel_rfl:clB as155 m155=true) (resEqb_eq piece155)
theorem ok156:HdOk Tryz.prog ct156:=pickF_ok ctZ_ok ctZ_ok (allT_cons hM154 (allT_cons hM155 allT_nil))
theorem hM156:HdOk Tryz.prog M156:=hitM_ok ctZ_ok (evH_ok mix ok156 60) (by kernel_rfl:clB as156 m156=true) (resEqb_eq piece156)
theorem ok157:HdOk Tryz.prog ct157:=ctZ_ok
theorem hR157{g:Hd}(hg:HdOk Tryz.prog g):HdOk Tryz.prog (H157 g):=hitR_ok hg (evH_ok mix ok157 60) (by kernel_rfl:cR as157 m157 r157 u157=true) (resEqb_eq piece157)
theorem ok158:HdOk Tryz.prog ct158:=hR157 ctZ_ok
theorem hM158:HdOk Tryz.prog M158:=hitM_ok ctZ_ok (evH_ok mix ok158 60) (by kernel_rfl:clB as158 m158=true) (resEqb_eq piece158)
theorem hR158{g:Hd}(hg:HdOk Tryz.prog g):HdOk Tryz.prog (H158 g):=hitR_ok hg (evH_ok mix ok158 60) (by kernel_rfl:cR as158 m158 r158 u158=true) (resEqb_eq piece158)
theorem ok159:HdOk Tryz.prog ct159:=hR158 ctZ_ok
theorem hM159:HdOk Tryz.prog M159:=hitM_ok ctZ_ok (evH_ok mix ok159 60) (by kernel_rfl:clB as159 m159=true) (resEqb_eq piece159)
theorem ok160:HdOk Tryz.prog ct160:=pickF_ok ctZ_ok ctZ_ok (allT_cons hM159 allT_nil)
theorem hM160:HdOk Tryz.prog M160:=hitM_ok ctZ_ok (evH_ok mix ok160 60) (by kernel_rfl:clB as160 m160=true) (resEqb_eq piece160)
theorem ok161:HdOk Tryz.prog ct161:=hR157 ctZ_ok
theorem hM161:HdOk Tryz.prog M161:=hitM_ok ctZ_ok (evH_ok mix ok161 60) (by kernel_rfl:clB as161 m161=true) (resEqb_eq piece161)
theorem hR161{g:Hd}(hg:HdOk Tryz.prog g):HdOk Tryz.prog (H161 g):=hitR_ok hg (evH_ok mix ok161 60) (by kernel_rfl:cR as161 m161 r161 u161=true) (resEqb_eq piece161)
theorem ok162:HdOk Tryz.prog ct162:=pickF_ok ctZ_ok ctZ_ok (allT_cons hM161 allT_nil)
theorem hM162:HdOk Tryz.prog M162:=hitM_ok ctZ_ok (evH_ok mix ok162 60) (by kernel_rfl:clB as162 m162=true) (resEqb_eq piece162)
theorem ok163:HdOk Tryz.prog ct163:=pickF_ok ctZ_ok ctZ_ok (allT_cons hM162 allT_nil)
theorem hM163:HdOk Tryz.prog M163:=hitM_ok ctZ_ok (evH_ok mix ok163 60) (by kernel_rfl:clB as163 m163=true) (resEqb_eq piece163)
theorem ok164:HdOk Tryz.prog ct164:=hR161 ctZ_ok
theorem hM164:HdOk Tryz.prog M164:=hitM_ok ctZ_ok (evH_ok mix ok164 60) (by kernel_rfl:clB as164 m164=true) (resEqb_eq piece164)
theorem ok165:HdOk Tryz.prog ct165:=pickF_ok ctZ_ok ctZ_ok (allT_cons hM164 allT_nil)
theorem hM165:HdOk Tryz.prog M165:=hitM_ok ctZ_ok (evH_ok mix ok165 60) (by kernel_rfl:clB as165 m165=true) (resEqb_eq piece165)
theorem ok166:HdOk Tryz.prog ct166:=hR161 ctZ_ok
theorem hM166:HdOk Tryz.prog M166:=hitM_ok ctZ_ok (evH_ok mix ok166 60) (by kernel_rfl:clB as166 m166=true) (resEqb_eq piece166)
theorem ok167:HdOk Tryz.prog ct167:=pickF_ok ctZ_ok ctZ_ok (allT_cons hM166 allT_nil)
theorem hM167:HdOk Tryz.prog M167:=hitM_ok ctZ_ok (evH_ok mix ok167 60) (by kernel_rfl:clB as167 m167=true) (resEqb_eq piece167)
theorem ok168:HdOk Tryz.prog ct168:=hR161 ctZ_ok
theorem hM168:HdOk Tryz.prog M168:=hitM_ok ctZ_ok (evH_ok mix ok168 60) (by kernel_rfl:clB as168 m168=true) (resEqb_eq piece168)
theorem ok169:HdOk Tryz.prog ct169:=pickF_ok ctZ_ok ctZ_ok (allT_cons hM168 allT_nil)
theorem hM169:HdOk Tryz.prog M169:=hitM_ok ctZ_ok (evH_ok mix ok169 60) (by kernel_rfl:clB as169 m169=true) (resEqb_eq piece169)
theorem ok170:HdOk Tryz.prog ct170:=hR161 ctZ_ok
theorem hM170:HdOk Tryz.prog M170:=hitM_ok ctZ_ok (evH_ok mix ok170 60) (by kernel_rfl:clB as170 m170=true) (resEqb_eq piece170)
theorem ok171:HdOk Tryz.prog ct171:=pickF_ok ctZ_ok ctZ_ok (allT_cons hM170 allT_nil)
theorem hM171:HdOk Tryz.prog M171:=hitM_ok ctZ_ok (evH_ok mix ok171 60) (by kernel_rfl:clB as171 m171=true) (resEqb_eq piece171)
theorem ok172:HdOk Tryz.prog ct172:=hR161 ctZ_ok
theorem hM172:HdOk Tryz.prog M172:=hitM_ok ctZ_ok (evH_ok mix ok172 60) (by kernel_rfl:clB as172 m172=true) (resEqb_eq piece172)
theorem ok173:HdOk Tryz.prog ct173:=pickF_ok ctZ_ok ctZ_ok (allT_cons hM172 allT_nil)
theorem hM173:HdOk Tryz.prog M173:=hitM_ok ctZ_ok (evH_ok mix ok173 60) (by kernel_rfl:clB as173 m173=true) (resEqb_eq piece173)
theorem ok174:HdOk Tryz.prog ct174:=hR161 ctZ_ok
theorem hM174:HdOk Tryz.prog M174:=hitM_ok ctZ_ok (evH_ok mix ok174 60) (by kernel_rfl:clB as174 m174=true) (resEqb_eq piece174)
theorem ok175:HdOk Tryz.prog ct175:=pickF_ok ctZ_ok ctZ_ok (allT_cons hM174 allT_nil)
theorem hM175:HdOk Tryz.prog M175:=hitM_ok ctZ_ok (evH_ok mix ok175 60) (by kernel_rfl:clB as175 m175=true) (resEqb_eq piece175)
theorem ok176:HdOk Tryz.prog ct176:=pickF_ok (hR158 (hR157 (hR154 (hR132 (hR133 ctZ_ok))))) ctZ_ok (allT_cons hM160 (allT_cons hM163 (allT_cons hM165 (allT_cons hM167 (allT_cons hM169 (allT_cons hM171 (allT_cons hM173 (allT_cons hM175 allT_nil))))))))
theorem hM176:HdOk Tryz.prog M176:=hitM_ok ctZ_ok (evH_ok mix ok176 60) (by kernel_rfl:clB as176 m176=true) (resEqb_eq piece176)
theorem hR176{g:Hd}(hg:HdOk Tryz.prog g):HdOk Tryz.prog (H176 g):=hitR_ok hg (evH_ok mix ok176 60) (by kernel_rfl:cR as176 m176 r176 u176=true) (resEqb_eq piece176)
theorem ok177:HdOk Tryz.prog ct177:=pickF_ok ctZ_ok ctZ_ok (allT_cons hM158 (allT_cons hM176 allT_nil))
theorem hM177:HdOk Tryz.prog M177:=hitM_ok ctZ_ok (evH_ok mix ok177 60) (by kernel_rfl:clB as177 m177=true) (resEqb_eq piece177)
theorem ok178:HdOk Tryz.prog ct178:=hR176 ctZ_ok
theorem hM178:HdOk Tryz.prog M178:=hitM_ok ctZ_ok (evH_ok mix ok178 60) (by kernel_rfl:clB as178 m178=true) (resEqb_eq piece178)
theorem ok179:HdOk Tryz.prog ct179:=pickF_ok ctZ_ok ctZ_ok (allT_cons hM156 (allT_cons hM177 (allT_cons hM178 allT_nil)))
theorem hM179:HdOk Tryz.prog M179:=hitM_ok ctZ_ok (evH_ok mix ok179 60) (by kernel_rfl:clB as179 m179=true) (resEqb_eq piece179)
theorem ok181:HdOk Tryz.prog ct181:=hR20 ctZ_ok
theorem hM181:HdOk Tryz.prog M181:=hitM_ok ctZ_ok (evH_ok mix ok181 60) (by kernel_rfl:clB as181 m181=true) (resEqb_eq piece181)
theorem ok182:HdOk Tryz.prog ct182:=pickF_ok (hR19 (hR21 (hR22 (hR23 (hR24 (hR25 (hR26 (hR27 (hR28 (hR29 (hR30 (hR31 (hR32 (hR33 (hR34 (hR35 ctZ_ok)))))))))))))))) ctZ_ok (allT_cons hM181 allT_nil)
theorem ch17:CallT Tryz.prog 5 as182 (λ_=>none) r182 (applyU (λ_=>none) u182):=call_of_piece (evH_ok mix ok182 60) piece182
def l17:List A:=[(N 1),(.h 3000019),(.h 3000023),(.h 3000025),(I 17),(.h 3000021)]
theorem hitJ_ok{g:Hd}(hg:HdOk Tryz.prog g):HdOk Tryz.prog (hitJ g):=hitJ_of (frozen1 (x:=ci 17) (c:=ci 17) (i:=3000028) (l:=l17) (cs:=wD (chL 17) 17) ch17 rfl rfl (by kernel_rfl) (by kernel_rfl)) hg
theorem ok180:HdOk Tryz.prog ct180:=pickF_ok (hR18 ((hitJ_ok ctZ_ok))) (hitJ_ok ctZ_ok) (allT_cons hM18 (allT_cons hM36 (allT_cons hM83 (allT_cons hM117 (allT_cons hM118 (allT_cons hM119 (allT_cons hM124 (allT_cons hM153 (allT_cons hM179 allT_nil)))))))))
theorem root_t:CallT Tryz.prog 3 [] (λ_=>none) (.ok (.d (.v (.bool true)))) (λ_=>none):=closed_run mix ok180 pieceL
end Go.Pv.CD
