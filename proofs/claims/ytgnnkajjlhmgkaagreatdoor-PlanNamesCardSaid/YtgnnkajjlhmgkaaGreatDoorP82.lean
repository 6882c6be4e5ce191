import Derived.Test.YtgnnkajjlhmgkaaGreatDoorLit
/- Pieces of the closed run of the chapter's example. -/
set_option linter.all false
set_option maxRecDepth 100000
namespace Go.Pv.NP
open Go Go.Proofs
theorem piece82 : resEqb (evH Tryz.prog ct82 60 (.fn 31) as82 (trU m82) 1371252) r82 u82 1611032 = true := by kernel_rfl
theorem piece83 : resEqb (evH Tryz.prog ct83 60 (.fn 183) as83 (trU m83) 1615875) r83 u83 1619043 = true := by kernel_rfl
theorem piece84 : resEqb (evH Tryz.prog ct84 60 (.fn 186) as84 (trU m84) 1619823) r84 u84 1624198 = true := by kernel_rfl
theorem piece85 : resEqb (evH Tryz.prog ct85 60 (.fn 187) as85 (trU m85) 1624206) r85 u85 1624735 = true := by kernel_rfl
theorem piece86 : resEqb (evH Tryz.prog ct86 60 (.fn 183) as86 (trU m86) 1624779) r86 u86 1628374 = true := by kernel_rfl
end Go.Pv.NP
