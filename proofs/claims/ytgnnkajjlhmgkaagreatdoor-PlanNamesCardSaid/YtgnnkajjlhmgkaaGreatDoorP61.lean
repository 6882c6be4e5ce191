import Derived.Test.YtgnnkajjlhmgkaaGreatDoorLit
/- Pieces of the closed run of the chapter's example. -/
set_option linter.all false
set_option maxRecDepth 100000
namespace Go.Pv.NP
open Go Go.Proofs
theorem piece61 : resEqb (evH Tryz.prog ct61 60 (.fn 186) as61 (trU m61) 1377450) r61 u61 1381692 = true := by kernel_rfl
theorem piece62 : resEqb (evH Tryz.prog ct62 60 (.fn 187) as62 (trU m62) 1381700) r62 u62 1382229 = true := by kernel_rfl
theorem piece63 : resEqb (evH Tryz.prog ct63 60 (.fn 183) as63 (trU m63) 1382273) r63 u63 1385833 = true := by kernel_rfl
theorem piece64 : resEqb (evH Tryz.prog ct64 60 (.fn 186) as64 (trU m64) 1386613) r64 u64 1391044 = true := by kernel_rfl
theorem piece65 : resEqb (evH Tryz.prog ct65 60 (.fn 187) as65 (trU m65) 1391052) r65 u65 1391581 = true := by kernel_rfl
theorem piece66 : resEqb (evH Tryz.prog ct66 60 (.fn 183) as66 (trU m66) 1391625) r66 u66 1392898 = true := by kernel_rfl
theorem piece67 : resEqb (evH Tryz.prog ct67 60 (.fn 186) as67 (trU m67) 1393426) r67 u67 1397227 = true := by kernel_rfl
theorem piece68 : resEqb (evH Tryz.prog ct68 60 (.fn 183) as68 (trU m68) 1397682) r68 u68 1404090 = true := by kernel_rfl
theorem piece69 : resEqb (evH Tryz.prog ct69 60 (.fn 184) as69 (trU m69) 1404098) r69 u69 1404649 = true := by kernel_rfl
theorem piece70 : resEqb (evH Tryz.prog ct70 60 (.fn 185) as70 (trU m70) 1404657) r70 u70 1405238 = true := by kernel_rfl
end Go.Pv.NP
