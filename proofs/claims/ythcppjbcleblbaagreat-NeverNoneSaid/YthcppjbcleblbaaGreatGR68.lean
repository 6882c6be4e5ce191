import Derived.Test.YthcppjbcleblbaaGreatLit
/- Pieces of the closed run of the chapter's example. -/
set_option linter.all false
namespace Go.Pv.NN
open Go Go.Proofs
theorem piece68 : resEqb (evH Tryz.prog ctB 60 (.fn 38) as68 (trU m68) 7857) r68 u68 8081 = true := by kernel_rfl
theorem piece69 : resEqb (evH Tryz.prog ctB 60 (.fn 38) as69 (trU m69) 8521) r69 u69 8745 = true := by kernel_rfl
theorem piece70 : resEqb (evH Tryz.prog ctB 60 (.fn 38) as70 (trU m70) 9185) r70 u70 9409 = true := by kernel_rfl
theorem piece71 : resEqb (evH Tryz.prog ctB 60 (.fn 38) as71 (trU m71) 9733) r71 u71 9957 = true := by kernel_rfl
theorem piece72 : resEqb (evH Tryz.prog ctB 60 (.fn 38) as72 (trU m72) 10629) r72 u72 10853 = true := by kernel_rfl
theorem piece73 : resEqb (evH Tryz.prog ctB 60 (.fn 38) as73 (trU m73) 11525) r73 u73 11749 = true := by kernel_rfl
theorem piece74 : resEqb (evH Tryz.prog ctB 60 (.fn 38) as74 (trU m74) 12189) r74 u74 12413 = true := by kernel_rfl
theorem piece75 : resEqb (evH Tryz.prog ctB 60 (.fn 38) as75 (trU m75) 12853) r75 u75 13077 = true := by kernel_rfl
theorem piece76 : resEqb (evH Tryz.prog ctB 60 (.fn 38) as76 (trU m76) 13401) r76 u76 13625 = true := by kernel_rfl
theorem piece77 : resEqb (evH Tryz.prog ctB 60 (.fn 38) as77 (trU m77) 14297) r77 u77 14521 = true := by kernel_rfl
theorem piece78 : resEqb (evH Tryz.prog ctB 60 (.fn 38) as78 (trU m78) 15082) r78 u78 15306 = true := by kernel_rfl
theorem piece79 : resEqb (evH Tryz.prog ctB 60 (.fn 38) as79 (trU m79) 15310) r79 u79 15534 = true := by kernel_rfl
theorem piece80 : resEqb (evH Tryz.prog ctB 60 (.fn 38) as80 (trU m80) 15863) r80 u80 16087 = true := by kernel_rfl
theorem piece81 : resEqb (evH Tryz.prog ctB 60 (.fn 38) as81 (trU m81) 16091) r81 u81 16315 = true := by kernel_rfl
theorem piece82 : resEqb (evH Tryz.prog ctB 60 (.fn 38) as82 (trU m82) 16644) r82 u82 16868 = true := by kernel_rfl
theorem piece83 : resEqb (evH Tryz.prog ctB 60 (.fn 38) as83 (trU m83) 16872) r83 u83 17096 = true := by kernel_rfl
theorem piece84 : resEqb (evH Tryz.prog ctB 60 (.fn 38) as84 (trU m84) 17309) r84 u84 17533 = true := by kernel_rfl
theorem piece85 : resEqb (evH Tryz.prog ctB 60 (.fn 38) as85 (trU m85) 17537) r85 u85 17761 = true := by kernel_rfl
theorem piece86 : resEqb (evH Tryz.prog ctB 60 (.fn 38) as86 (trU m86) 18322) r86 u86 18546 = true := by kernel_rfl
theorem piece87 : resEqb (evH Tryz.prog ctB 60 (.fn 38) as87 (trU m87) 18550) r87 u87 18774 = true := by kernel_rfl
theorem piece88 : resEqb (evH Tryz.prog ctB 60 (.fn 38) as88 (trU m88) 19335) r88 u88 19559 = true := by kernel_rfl
theorem piece89 : resEqb (evH Tryz.prog ctB 60 (.fn 38) as89 (trU m89) 19563) r89 u89 19787 = true := by kernel_rfl
theorem piece90 : resEqb (evH Tryz.prog ctB 60 (.fn 38) as90 (trU m90) 20116) r90 u90 20340 = true := by kernel_rfl
theorem piece91 : resEqb (evH Tryz.prog ctB 60 (.fn 38) as91 (trU m91) 20344) r91 u91 20568 = true := by kernel_rfl
theorem piece92 : resEqb (evH Tryz.prog ctB 60 (.fn 38) as92 (trU m92) 20897) r92 u92 21121 = true := by kernel_rfl
theorem piece93 : resEqb (evH Tryz.prog ctB 60 (.fn 38) as93 (trU m93) 21125) r93 u93 21349 = true := by kernel_rfl
theorem piece94 : resEqb (evH Tryz.prog ctB 60 (.fn 38) as94 (trU m94) 21562) r94 u94 21786 = true := by kernel_rfl
theorem piece95 : resEqb (evH Tryz.prog ctB 60 (.fn 38) as95 (trU m95) 21790) r95 u95 22014 = true := by kernel_rfl
theorem piece96 : resEqb (evH Tryz.prog ctB 60 (.fn 38) as96 (trU m96) 22575) r96 u96 22799 = true := by kernel_rfl
theorem piece97 : resEqb (evH Tryz.prog ctB 60 (.fn 38) as97 (trU m97) 22803) r97 u97 23027 = true := by kernel_rfl
theorem piece98 : resEqb (evH Tryz.prog ctB 60 (.fn 38) as98 (trU m98) 23588) r98 u98 23812 = true := by kernel_rfl
theorem piece99 : resEqb (evH Tryz.prog ctB 60 (.fn 38) as99 (trU m99) 23816) r99 u99 24040 = true := by kernel_rfl
theorem piece100 : resEqb (evH Tryz.prog ctB 60 (.fn 38) as100 (trU m100) 24369) r100 u100 24593 = true := by kernel_rfl
theorem piece101 : resEqb (evH Tryz.prog ctB 60 (.fn 38) as101 (trU m101) 24597) r101 u101 24821 = true := by kernel_rfl
theorem piece102 : resEqb (evH Tryz.prog ctB 60 (.fn 38) as102 (trU m102) 25150) r102 u102 25374 = true := by kernel_rfl
theorem piece103 : resEqb (evH Tryz.prog ctB 60 (.fn 38) as103 (trU m103) 25378) r103 u103 25602 = true := by kernel_rfl
theorem piece104 : resEqb (evH Tryz.prog ctB 60 (.fn 38) as104 (trU m104) 25931) r104 u104 26155 = true := by kernel_rfl
theorem piece105 : resEqb (evH Tryz.prog ctB 60 (.fn 38) as105 (trU m105) 26159) r105 u105 26383 = true := by kernel_rfl
theorem piece106 : resEqb (evH Tryz.prog ctB 60 (.fn 38) as106 (trU m106) 26596) r106 u106 26820 = true := by kernel_rfl
theorem piece107 : resEqb (evH Tryz.prog ctB 60 (.fn 38) as107 (trU m107) 26824) r107 u107 27048 = true := by kernel_rfl
theorem piece108 : resEqb (evH Tryz.prog ctB 60 (.fn 38) as108 (trU m108) 27609) r108 u108 27833 = true := by kernel_rfl
theorem piece109 : resEqb (evH Tryz.prog ctB 60 (.fn 38) as109 (trU m109) 27837) r109 u109 28061 = true := by kernel_rfl
theorem piece110 : resEqb (evH Tryz.prog ctB 60 (.fn 38) as110 (trU m110) 28622) r110 u110 28846 = true := by kernel_rfl
theorem piece111 : resEqb (evH Tryz.prog ctB 60 (.fn 38) as111 (trU m111) 28850) r111 u111 29074 = true := by kernel_rfl
theorem piece112 : resEqb (evH Tryz.prog ctB 60 (.fn 38) as112 (trU m112) 29403) r112 u112 29627 = true := by kernel_rfl
theorem piece113 : resEqb (evH Tryz.prog ctB 60 (.fn 38) as113 (trU m113) 29631) r113 u113 29855 = true := by kernel_rfl
theorem piece114 : resEqb (evH Tryz.prog ctB 60 (.fn 38) as114 (trU m114) 30184) r114 u114 30408 = true := by kernel_rfl
theorem piece115 : resEqb (evH Tryz.prog ctB 60 (.fn 38) as115 (trU m115) 30412) r115 u115 30636 = true := by kernel_rfl
theorem piece116 : resEqb (evH Tryz.prog ctB 60 (.fn 38) as116 (trU m116) 30849) r116 u116 31073 = true := by kernel_rfl
theorem piece117 : resEqb (evH Tryz.prog ctB 60 (.fn 38) as117 (trU m117) 31077) r117 u117 31301 = true := by kernel_rfl
theorem piece118 : resEqb (evH Tryz.prog ctB 60 (.fn 38) as118 (trU m118) 31862) r118 u118 32086 = true := by kernel_rfl
theorem piece119 : resEqb (evH Tryz.prog ctB 60 (.fn 38) as119 (trU m119) 32090) r119 u119 32314 = true := by kernel_rfl
end Go.Pv.NN
