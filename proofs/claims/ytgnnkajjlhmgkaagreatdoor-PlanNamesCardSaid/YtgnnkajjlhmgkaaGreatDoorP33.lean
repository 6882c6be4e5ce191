import Derived.Test.YtgnnkajjlhmgkaaGreatDoorLit
/- Pieces of the closed run of the chapter's example. -/
set_option linter.all false
set_option maxRecDepth 100000
namespace Go.Pv.NP
open Go Go.Proofs
theorem piece33 : resEqb (evH Tryz.prog ct33 60 (.fn 186) as33 (trU m33) 1247143) r33 u33 1251681 = true := by kernel_rfl
theorem piece34 : resEqb (evH Tryz.prog ct34 60 (.fn 187) as34 (trU m34) 1251689) r34 u34 1252218 = true := by kernel_rfl
theorem piece35 : resEqb (evH Tryz.prog ct35 60 (.fn 183) as35 (trU m35) 1252262) r35 u35 1263959 = true := by kernel_rfl
theorem piece36 : resEqb (evH Tryz.prog ct36 60 (.fn 184) as36 (trU m36) 1263967) r36 u36 1264690 = true := by kernel_rfl
theorem piece37 : resEqb (evH Tryz.prog ct37 60 (.fn 185) as37 (trU m37) 1264698) r37 u37 1265483 = true := by kernel_rfl
end Go.Pv.NP
