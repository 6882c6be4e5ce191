import Derived.Test.YtgnnkajjlhmgkaaGreatDoorCards
import Derived.ProofKit
/- The row's closed fact on goroutines: no function of the program starts one. -/
set_option linter.all false
set_option maxRecDepth 100000
namespace Go.Proofs.YtgnnkajjlhmgkaaGreatDoor.planNames
open Go Go.RowKit
theorem goes_none {P:Program}{f:FuncId}(h:P.funcs.any Func.goes=false):P.goes f=false:=by
  have key:∀ g:FuncId,(P.funcs[g]?).any Func.goes=false:=by
    intro g
    cases hg:P.funcs[g]? with
    | none=>rfl
    | some fn=>
      obtain ⟨hl,e⟩:=Array.getElem?_eq_some_iff.1 hg
      have:=(Array.any_eq_false.1 h) g hl
      rw[e]at this
      simpa using this
  unfold Program.goes
  rw[h,Bool.and_false,Bool.or_false]
  simp only[key]
  simp
theorem allG:Tryz.prog.funcs.any Func.goes=false:=by kernel_rfl
theorem fnG:Tryz.prog.funcNamed Rows.planNamesRow.func=some 3:=by kernel_rfl
theorem stG:Rows.planNamesRow.start=.entering:=rfl
theorem goes_row{P:Program}{c:OpenClaim}{f:FuncId}(h:P.funcs.any Func.goes=false)(hf:P.funcNamed c.func=some f)(hs:c.start=.entering):false=c.goesBy P:=by
  unfold OpenClaim.goesBy Program.goesAt Program.goesFrom
  rw[hf,hs]
  simp only[Option.any_some,goes_none h,Bool.or_false]
theorem goesF:false=Rows.planNamesRow.goesBy Tryz.prog:=goes_row allG fnG stG
end Go.Proofs.YtgnnkajjlhmgkaaGreatDoor.planNames
