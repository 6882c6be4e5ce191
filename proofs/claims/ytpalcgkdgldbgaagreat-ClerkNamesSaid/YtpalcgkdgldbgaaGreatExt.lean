import Derived.Test.YtpalcgkdgldbgaaGreatLit
import Derived.Test.YtpalcgkdgldbgaaGreatProg
import Derived.Laws.Externs
/- The two functions of the model that errors.Is calls. -/
set_option linter.unusedVariables false
set_option linter.unusedSimpArgs false
set_option linter.constructorNameAsVariable false
namespace Go.Pv
open Go Go.Proofs Go.RowKit
set_option linter.unusedVariables false

theorem run_ext {P : Program} {f : FuncId} {e : Array Value → Sem Value} (h1 : (P.funcs[f]?).map (fun fn => fn.name == "runtime.NumGoroutine") = some false) (h2 : (P.funcs[f]?).map (fun fn => fn.body.isNone) = some true)
    (h3 : (P.funcs[f]?).map (fun fn => Extern.findNext fn) = some none) (h4 : (P.funcs[f]?).map (fun fn => Extern.find fn) = some (some e)) (args : Array Value) (w : World) : (callFunc f args).run P w = ((e args).run P w).andThen fun v w' => .ok (.value v) w' := by
  obtain ⟨fn, hf, k1⟩ := Option.map_eq_some_iff.1 h1
  rw [hf] at h2 h3 h4
  simp only [Option.map_some, Option.some.injEq] at h2 h3 h4
  exact run_callFunc_extern hf k1 h2 h3 h4 args w
def cmpE : Array Value → Sem Value := Extern.ReflectliteType.method fun t => do Extern.Rtype.noPackHeld "Comparable" t; pure (.bool (← typeInfo t).comparable)
theorem typeOf24 (v : Value) (w : World) : (Extern.ReflectliteType.typeOf #[.iface 24 v]).run Tryz.prog w = .ok (.iface 139 (.agg #[.pointer (some ⟨0, 24, none⟩)])) w := by kernel_rfl
theorem comp24 (w : World) : (cmpE #[.agg #[.pointer (some ⟨0, 24, none⟩)]]).run Tryz.prog w = .ok (.bool true) w := by kernel_rfl

theorem ext31 {a : A} {x : A} (ha : ifcOf a = some (24, x)) : ExT Tryz.prog 31 [a] (.d (.ifc 139 (.agg [.v (.pointer (some ⟨0, 24, none⟩))]))) := by
  intro w M m ρ vs hd
  simp only [A.DenL] at hd
  obtain ⟨y, yr, rfl, hy, rfl⟩ := hd
  obtain ⟨v, rfl, _⟩ := ifcOf_den ha hy
  have h := run_ext (P := Tryz.prog) (f := 31) (e := Extern.ReflectliteType.typeOf) (by kernel_rfl) (by kernel_rfl) (by kernel_rfl) (by kernel_rfl) #[.iface 24 v] w
  refine ⟨.iface 139 (.agg #[.pointer (some ⟨0, 24, none⟩)]), ?_, ?_⟩
  · show (callFunc 31 #[.iface 24 v]).run Tryz.prog w = _
    rw [h, typeOf24]; rfl
  · simp only [A.Den, C.Den]
    exact ⟨_, rfl, #[.pointer (some ⟨0, 24, none⟩)], rfl, by simp [Value.oneCell'], by simp [C.DenL, C.Den]⟩

theorem ext264 : ExT Tryz.prog 264 [.d (.agg [.v (.pointer (some ⟨0, 24, none⟩))])] (.d (.v (.bool true))) := by
  intro w M m ρ vs hd
  simp only [A.DenL] at hd
  obtain ⟨y, yr, rfl, hy, rfl⟩ := hd
  simp only [A.Den, C.Den] at hy
  obtain ⟨l, rfl, _, hl⟩ := hy
  simp only [C.DenL, C.Den] at hl
  obtain ⟨z, zr, hz, rfl, rfl⟩ := hl
  have e : l = #[.pointer (some ⟨0, 24, none⟩)] := by apply Array.ext'; simpa using hz
  subst e
  have h := run_ext (P := Tryz.prog) (f := 264) (e := cmpE) (by kernel_rfl) (by kernel_rfl) (by kernel_rfl) (by kernel_rfl) #[.agg #[.pointer (some ⟨0, 24, none⟩)]] w
  refine ⟨.bool true, ?_, by simp only [A.Den, C.Den]⟩
  show (callFunc 264 #[.agg #[.pointer (some ⟨0, 24, none⟩)]]).run Tryz.prog w = _
  rw [h, comp24]; rfl

theorem ctN_ok : HdOk Tryz.prog ctN := by
  refine ⟨fun f xs t nx outs nx' h => (by cases h), fun i xs t nx outs nx' h => (by cases h), fun f xs t nx outs nx' h => ?_⟩
  replace h : cond (Nat.beq f 31) (match xs with
      | [a] => match ifcOf a with
        | some (k, _) => cond (Nat.beq k 24) (some ([(.ok (.d (.ifc 139 (.agg [.v (.pointer (some ⟨0, 24, none⟩))]))), [])], nx)) none
        | none => none
      | _ => none) (cond (Nat.beq f 264) (match xs with
      | [.d (.agg [.v (.pointer (some ⟨0, 24, none⟩))])] => some ([(.ok (.d (.v (.bool true))), [])], nx)
      | _ => none) none) = some (outs, nx') := h
  cases h1 : Nat.beq f 31 with
  | true =>
    rw [h1] at h
    have e := Nat.eq_of_beq_eq_true h1; subst e
    simp only [cond_true] at h
    split at h
    · split at h
      · rename_i k x hk
        replace h := cond_none h
        have e := Nat.eq_of_beq_eq_true h.1
        replace h := h.2
        subst e
        simp only [Option.some.injEq, Prod.mk.injEq] at h
        obtain ⟨rfl, _⟩ := h
        exact ⟨_, rfl, ext31 hk⟩
      · cases h
    · cases h
  | false =>
    rw [h1] at h
    simp only [cond_false] at h
    replace h := cond_none h
    have e := Nat.eq_of_beq_eq_true h.1
    replace h := h.2
    subst e
    split at h
    · simp only [Option.some.injEq, Prod.mk.injEq] at h
      obtain ⟨rfl, _⟩ := h
      exact ⟨_, rfl, ext264⟩
    · cases h
end Go.Pv
