import Derived.Test.YtogddmlaiiongaaGreatDoorPv2
import Derived.Lib.ConvBytes
/- A program logic over the model, and an evaluator of closed runs that is sound for it (part 3). -/
set_option linter.unusedVariables false
set_option linter.unusedSimpArgs false
set_option linter.constructorNameAsVariable false
set_option linter.unusedSectionVars false
set_option linter.deprecated false
namespace Go.Pv
open Go.RowKit
set_option linter.unusedVariables false
set_option linter.unusedSimpArgs false
set_option linter.constructorNameAsVariable false

def iotaL (d : Nat) : Nat → List Nat
  | 0 => []
  | n + 1 => d :: iotaL (d + 1) n

def stU : List Nat → List (Nat × R)
  | [] => []
  | i :: r => (i, .sta) :: stU r

def freeL (m : Mem) : List Nat → Bool
  | [] => true
  | i :: r => freeB m i && freeL m r

def effRange (P : Program) (m : Mem) (d : Nat) (t : TypeId) (x : A) : Option E :=
  match x with
  | .h i => match m i, mapT P t with
    | some (.mp false kv st), some _ => some (freeB m d && (freeB m (d + 1) && (freeL m (iotaL (d + 2) kv.length) && (kvGet (.agg []) kv).isNone)), .h d,
        (d + 1, .sta) :: stU (iotaL (d + 2) kv.length) ++ [(i, .mp false kv ((.agg [], d + 1) :: (kv.zip (iotaL (d + 2) kv.length)).map fun p => (p.1.1, p.2))), (d, .it i (d + 1) (iotaL (d + 2) kv.length) [])])
    | _, _ => none
  | .d (.v (.map none)) => match mapT P t with
    | some _ => some (freeB m d, .h d, [(d, .it0)])
    | none => none
  | .d (.v (.string s)) => some (isStrT P t && freeB m d, .h d, [(d, .si s 0)])
  | _ => none

theorem iota_mem {n d i : Nat} : i ∈ iotaL d n ↔ d ≤ i ∧ i < d + n := by
  induction n generalizing d with
  | zero => simp only [iotaL, List.not_mem_nil, false_iff]; omega
  | succ n ih => simp [iotaL, ih]; omega
theorem iota_len (d n : Nat) : (iotaL d n).length = n := by
  induction n generalizing d with
  | zero => rfl
  | succ n ih => simp [iotaL, ih]
theorem iota_get {d n j : Nat} (h : j < n) : (iotaL d n)[j]? = some (d + j) := by
  induction n generalizing d j with
  | zero => omega
  | succ n ih =>
    cases j with
    | zero => simp [iotaL]
    | succ j => simp only [iotaL, List.getElem?_cons_succ]; rw [ih (by omega)]; congr 1; omega
theorem iota_nodup (d n : Nat) : (iotaL d n).Nodup := by
  induction n generalizing d with
  | zero => simp [iotaL]
  | succ n ih => simp only [iotaL, List.nodup_cons]; exact ⟨fun h => by have := iota_mem.1 h; omega, ih _⟩

section
variable {M0 S0 : Nat → Prop} {w0 : World} {N : Fr} {T : Nat → A} {m : Mem} {ρ : Nat → Value} {a : Act} {w : World} {P : Program}

/-- new stamps -/
theorem SatAt.stamps (hlt : ∀ b, M0 b → b < w0.heap.size) : ∀ (ns : List Nat) (d : Nat) {m : Mem} {ρ : Nat → Value}, SatAt M0 S0 w0 N T m ρ a w → freeL m (iotaL d ns.length) = true →
    ∃ ρ', SatAt M0 S0 w0 N T (applyU m (stU (iotaL d ns.length))) ρ' a w ∧ Onto m (applyU m (stU (iotaL d ns.length))) ρ ρ' ∧ (∀ b, Mut M0 (applyU m (stU (iotaL d ns.length))) ρ' b → Mut M0 m ρ b) ∧
      (∀ (j n : Nat), ns[j]? = some n → ρ' (d + j) = .int .i64 (n : Int) ∧ applyU m (stU (iotaL d ns.length)) (d + j) = some .sta) ∧ ∀ i, (i < d ∨ d + ns.length ≤ i) → applyU m (stU (iotaL d ns.length)) i = m i ∧ ρ' i = ρ i
  | [], d, m, ρ, h, _ => ⟨ρ, h, Onto.refl m ρ, fun _ e => e, by simp, fun i _ => ⟨rfl, rfl⟩⟩
  | n :: ns, d, m, ρ, h, hf => by
    simp only [List.length_cons, iotaL, freeL, Bool.and_eq_true] at hf
    obtain ⟨g1, g2, g3⟩ := h.stamp hlt (freeB_eq hf.1) n
    have hf' : freeL (setM m d .sta) (iotaL (d + 1) ns.length) = true := by
      have : ∀ (l : List Nat), (∀ i ∈ l, i ≠ d) → freeL m l = true → freeL (setM m d .sta) l = true := by
        intro l
        induction l with
        | nil => intro _ h; exact h
        | cons i r ih =>
          intro hi h
          simp only [freeL, Bool.and_eq_true] at h ⊢
          refine ⟨?_, ih (fun j hj => hi j (by simp [hj])) h.2⟩
          have hid := hi i (by simp)
          unfold freeB at *
          simp only [setM, hid, if_false]; exact h.1
      exact this _ (fun i hi => by have := iota_mem.1 hi; omega) hf.2
    obtain ⟨ρ', k1, k2, k3, k4, k5⟩ := SatAt.stamps hlt ns (d + 1) g1 hf'
    refine ⟨ρ', k1, g2.trans k2, fun b hb => g3 b (k3 b hb), fun j n' hj => ?_, fun i hi => ?_⟩
    · cases j with
      | zero =>
        simp at hj; subst hj
        obtain ⟨q1, q2⟩ := k5 d (by omega)
        simp only [Nat.add_zero]
        exact ⟨by rw [q2]; simp [setH], by show applyU (setM m d .sta) (stU (iotaL (d + 1) ns.length)) d = _; rw [q1]; simp [setM]⟩
      | succ j =>
        have := k4 j n' (by simpa using hj)
        rw [show d + (j + 1) = d + 1 + j by omega]; exact this
    · simp only [List.length_cons] at hi
      obtain ⟨q1, q2⟩ := k5 i (by omega)
      have hid : i ≠ d := by omega
      exact ⟨by show applyU (setM m d .sta) (stU (iotaL (d + 1) ns.length)) i = _; rw [q1]; simp [setM, hid], by rw [q2]; simp [setH, hid]⟩

theorem sd_range (h : SatAt M0 S0 w0 N T m ρ a w) (hlt : ∀ b, M0 b → b < w0.heap.size) {d : Nat} {t : TypeId} {x u : A} {y : Value} {pre : Bool} {ups : List (Nat × R)} (hx : x.Den w (Mut M0 m ρ) m ρ y)
    (he : effRange P m d t x = some (pre, u, ups)) (hp : pre = true) : ∃ v w' ρ', (Instr.range t y).run P w = .ok v w' ∧ SatAt M0 S0 w0 N T (applyU m ups) ρ' a w' ∧ Onto m (applyU m ups) ρ ρ' ∧ u.Den w' (Mut M0 (applyU m ups) ρ') (applyU m ups) ρ' v := by
  unfold effRange at he
  split at he
  · rename_i i
    split at he
    · rename_i kv st kt hi hm
      obtain ⟨kt, et⟩ := kt
      have hu := mapT_eq hm
      simp only [Option.some.injEq, Prod.mk.injEq] at he
      obtain ⟨rfl, rfl, rfl⟩ := he
      simp only [Bool.and_eq_true] at hp
      obtain ⟨hp0, hp1, hp2, hp3⟩ := hp
      obtain ⟨b, es, cl, z, h1, h2, h3, h4⟩ := mp_mz h hi
      simp only [A.Den] at hx
      have hy := (has_of hx hi (by simp)).trans h1
      subst hy
      have hd := freeB_eq hp0
      have hd1 := freeB_eq hp1
      have hid : i ≠ d := by rintro rfl; rw [hi] at hd; cases hd
      have hid1 : i ≠ d + 1 := by rintro rfl; rw [hi] at hd1; cases hd1
      obtain ⟨f1, f2, f3⟩ := h.stamp hlt hd1 cl
      have hfl : freeL (setM m (d + 1) .sta) (iotaL (d + 2) kv.length) = true := by
        have : ∀ (l : List Nat), (∀ i ∈ l, i ≠ d + 1) → freeL m l = true → freeL (setM m (d + 1) .sta) l = true := by
          intro l
          induction l with
          | nil => intro _ h; exact h
          | cons i r ih =>
            intro hi h
            simp only [freeL, Bool.and_eq_true] at h ⊢
            refine ⟨?_, ih (fun j hj => hi j (by simp [hj])) h.2⟩
            have hid := hi i (by simp)
            unfold freeB at *
            simp only [setM, hid, if_false]; exact h.1
        exact this _ (fun i hi => by have := iota_mem.1 hi; omega) hp2
      -- the stamps, in the order of the pairs
      obtain ⟨z', hz1, hz2⟩ := perm_map_inv (f := fun p : (Ky × A) × MapEntry => p.1) h3.perm.symm rfl
      have hlen : kv.length = z'.length := by rw [hz2]; simp
      have hns : (z'.map (·.2.born)).length = kv.length := by simp [hlen]
      obtain ⟨ρ1, k1, k2, k3, k4, k5⟩ := SatAt.stamps hlt (z'.map (·.2.born)) (d + 2) f1 (by rw [hns]; exact hfl)
      rw [hns] at k1 k2 k3 k4 k5
      have hfree : ∀ j, d + 2 ≤ j → j < d + 2 + kv.length → m j = none := by
        intro j hj1 hj2
        have : ∀ (l : List Nat), freeL m l = true → j ∈ l → m j = none := by
          intro l
          induction l with
          | nil => simp
          | cons q r ih =>
            intro hf hj
            simp only [freeL, Bool.and_eq_true] at hf
            simp only [List.mem_cons] at hj
            rcases hj with rfl | hj
            · exact freeB_eq hf.1
            · exact ih hf.2 hj
        exact this _ hp2 (iota_mem.2 ⟨hj1, hj2⟩)
      have hio : i < d + 2 ∨ d + 2 + kv.length ≤ i := by
        rcases Nat.lt_or_ge i (d + 2) with q | q
        · exact .inl q
        · rcases Nat.lt_or_ge i (d + 2 + kv.length) with q2 | q2
          · have := hfree i q q2; rw [hi] at this; cases this
          · exact .inr q2
      generalize hmu : applyU (setM m (d + 1) .sta) (stU (iotaL (d + 2) kv.length)) = mu at k1 k2 k3 k4 k5
      obtain ⟨q1, q2⟩ := k5 i hio
      rw [show setM m (d + 1) .sta i = m i by simp [setM, hid1]] at q1
      rw [show setH ρ (d + 1) (.int .i64 (cl : Int)) i = ρ i by simp [setH, hid1]] at q2
      obtain ⟨q3, _⟩ := k5 d (by omega)
      rw [show setM m (d + 1) .sta d = m d by simp [setM]] at q3
      obtain ⟨q5, q6⟩ := k5 (d + 1) (by omega)
      rw [show setM m (d + 1) .sta (d + 1) = some .sta by simp [setM]] at q5
      rw [show setH ρ (d + 1) (.int .i64 (cl : Int)) (d + 1) = .int .i64 (cl : Int) by simp [setH]] at q6
      have hO2 : Onto m mu ρ ρ1 := f2.trans k2
      have hst : StIs mu ρ1 ((.agg [], d + 1) :: (kv.zip (iotaL (d + 2) kv.length)).map fun p => (p.1.1, p.2)) es.toList cl := by
        intro p hp
        simp only [List.mem_cons] at hp
        rcases hp with rfl | hp
        · refine ⟨by rw [q5]; simp, fun _ => ⟨fun e he hek => ?_, by simp [stampOf, q6], fun _ => by simp [stampOf, q6]⟩⟩
          exfalso
          rw [h3.toList] at he
          obtain ⟨qz, hqz, rfl⟩ := List.mem_map.1 he
          have e1 : qz.1.1 = .agg [] := Ky.val_inj (by rw [← h3.key qz hqz, hek])
          have hm' : qz.1 ∈ kv := h3.perm.mem_iff.1 (List.mem_map.2 ⟨qz, hqz, rfl⟩)
          cases hg : kvGet (.agg []) kv with
          | none => exact kvGet_none hg qz.1 hm' e1.symm
          | some _ => rw [hg] at hp3; cases hp3
        · obtain ⟨pq, hpq, rfl⟩ := List.mem_map.1 hp
          obtain ⟨j, hj⟩ := List.mem_iff_getElem?.1 hpq
          rw [List.getElem?_zip_eq_some] at hj
          have hjl : j < kv.length := (List.getElem?_eq_some_iff.1 hj.1).1
          have hj2 := hj.2
          rw [iota_get hjl] at hj2
          simp at hj2
          have hj1 := hj.1
          rw [hz2] at hj1
          simp only [List.getElem?_map, Option.map_eq_some_iff] at hj1
          obtain ⟨pz, hpz, hpz2⟩ := hj1
          obtain ⟨r1, r2⟩ := k4 j pz.2.born (by simp [hpz])
          have hpzm := hz1.mem_iff.1 (List.mem_of_getElem? hpz)
          rw [← hj2]
          refine ⟨by rw [r2]; simp, fun _ => ⟨fun e he hek => ?_, by simp only [stampOf, r1, Int.toNat_natCast]; exact Nat.le_of_lt (h3.old pz hpzm), fun e => by
            exfalso
            have hm' : pz.1 ∈ kv := h3.perm.mem_iff.1 (List.mem_map.2 ⟨pz, hpzm, rfl⟩)
            cases hg : kvGet (.agg []) kv with
            | none => exact kvGet_none hg pz.1 hm' (by rw [hpz2]; exact e.symm)
            | some _ => rw [hg] at hp3; cases hp3⟩⟩
          simp only [stampOf, r1, Int.toNat_natCast]
          rw [h3.toList] at he
          obtain ⟨qz, hqz, rfl⟩ := List.mem_map.1 he
          have e1 : qz.1.1 = pz.1.1 := Ky.val_inj (by rw [← h3.key qz hqz, hek, hpz2])
          obtain ⟨j1, hj1⟩ := List.mem_iff_getElem?.1 hqz
          obtain ⟨j2, hj2⟩ := List.mem_iff_getElem?.1 hpzm
          have := nodup_idx h3.nodup hj1 hj2 e1
          subst this
          rw [hj1] at hj2; cases hj2; rfl
      obtain ⟨g1, g2⟩ := map_write k1 (q1.trans hi) (q2.trans h1) h2 (h3.mono (Stays.refl _ w) (fun b hb _ => f3 b (k3 b hb)) hO2) hst
      have hpo : w.putObj b (.map es cl) = w := by
        have hlt' := (Array.getElem?_eq_some_iff.1 h2).1
        have : w.heap.setIfInBounds b (.map es cl) = w.heap := by
          apply Array.ext_getElem?
          intro j
          by_cases e : b = j
          · subst e; have := (Array.getElem?_eq_some_iff.1 h2).2; simp [hlt', this]
          · rw [Array.getElem?_setIfInBounds_ne e]
        simp only [World.putObj, this]
      rw [hpo] at g1
      generalize hmw : R.mp false kv ((.agg [], d + 1) :: (kv.zip (iotaL (d + 2) kv.length)).map fun p => (p.1.1, p.2)) = rm at g1 g2
      have hd' : setM mu i rm d = none := by simp [setM, Ne.symm hid, q3, hd]
      have hmemU : ∀ j, d + 2 ≤ j → j < d + 2 + kv.length → setM mu i rm j = some .sta ∧ ∃ pz : (Ky × A) × MapEntry, z'[j - (d + 2)]? = some pz ∧ ρ1 j = .int .i64 pz.2.born := by
        intro j hj1 hj2
        have hji : j ≠ i := by rintro rfl; have := hfree j hj1 hj2; rw [hi] at this; cases this
        have hjz : j - (d + 2) < z'.length := by omega
        obtain ⟨r1, r2⟩ := k4 (j - (d + 2)) z'[j - (d + 2)].2.born (by simp [hjz])
        rw [show d + 2 + (j - (d + 2)) = j by omega] at r1 r2
        exact ⟨by simp [setM, hji, r2], _, List.getElem?_eq_getElem hjz, r1⟩
      have h5 : SatAt M0 S0 w0 N T (setM (setM mu i rm) d (.it i (d + 1) (iotaL (d + 2) kv.length) [])) (setH ρ1 d (.pointer (some ⟨w.heap.size, 0, none⟩))) a (w.alloc (.mapIter (some b) cl #[] cl)) := by
        refine g1.newres hlt (keeps_alloc w _) hd' rfl (by simp [blk]) ?_
        intro hO hst hm
        refine ⟨w.heap.size, b, cl, #[], rfl, heap_alloc_new w _, ⟨by simp [setM, hid], fun _ => by simp [setH, hid, q2, h1]⟩, ⟨by simp [setM, Ne.symm hid1, q5], fun _ => by simp [stampOf, setH, q6]⟩, ?_⟩
        refine ⟨by simp, fun j hj => ?_, fun _ => ⟨iota_nodup _ _, ?_, fun j hj => ?_, by simp, by simp⟩⟩
        · have hj' := iota_mem.1 hj
          have := (hmemU j hj'.1 hj'.2).1
          have hjd : j ≠ d := by omega
          rw [show setM (setM mu i rm) d (R.it i (d + 1) (iotaL (d + 2) kv.length) []) j = some .sta by rw [← this]; simp [setM, hjd]]
          simp
        · have e1 : (iotaL (d + 2) kv.length).map (stampOf (setH ρ1 d (.pointer (some ⟨w.heap.size, 0, none⟩)))) = z'.map (·.2.born) := by
            apply List.ext_getElem?
            intro j
            rcases Nat.lt_or_ge j kv.length with hj | hj
            · obtain ⟨_, pz, r1, r2⟩ := hmemU (d + 2 + j) (by omega) (by omega)
              rw [show d + 2 + j - (d + 2) = j by omega] at r1
              have hne : d + 2 + j ≠ d := by omega
              simp [List.getElem?_map, iota_get hj, r1, stampOf, setH, hne, r2]
            · rw [List.getElem?_eq_none (by simp [iota_len]; omega), List.getElem?_eq_none (by simp; omega)]
          rw [e1]
          exact ((hz1.map (·.2.born)).nodup_iff).2 h3.born
        · have hj' := iota_mem.1 hj
          obtain ⟨_, pz, r1, r2⟩ := hmemU j hj'.1 hj'.2
          have hne : j ≠ d := by omega
          refine ⟨?_, by simp⟩
          simp only [stampOf, setH, hne, if_false, r2, Int.toNat_natCast]
          exact h3.old pz (hz1.mem_iff.1 (List.mem_of_getElem? r1))
      have hap : applyU m ((d + 1, .sta) :: stU (iotaL (d + 2) kv.length) ++ [(i, rm), (d, .it i (d + 1) (iotaL (d + 2) kv.length) [])]) = setM (setM mu i rm) d (.it i (d + 1) (iotaL (d + 2) kv.length) []) := by
        rw [applyU_append]
        simp only [applyU, hmu]
      rw [hap]
      refine ⟨.pointer (some ⟨w.heap.size, 0, none⟩), _, _, ?_, h5, (hO2.trans g2).trans (Onto.new _ _ hd'), ?_⟩
      · simp only [Instr.range, Sem.run_bind, run_underlying hu, Result.andThen_ok, run_getMap h2, Sem.run_pure, run_newObj, World.alloc_eq]
      · simp only [A.Den]
        exact ⟨by simp [setM], fun _ => by simp [setH]⟩
    · cases he
  · split at he
    · rename_i kt hm
      obtain ⟨kt, et⟩ := kt
      have hu := mapT_eq hm
      simp only [Option.some.injEq, Prod.mk.injEq] at he
      obtain ⟨rfl, rfl, rfl⟩ := he
      simp only [A.Den, C.Den] at hx; subst hx
      refine ⟨.pointer (some ⟨w.heap.size, 0, none⟩), w.alloc (.mapIter none 0 #[] 0), setH ρ d (.pointer (some ⟨w.heap.size, 0, none⟩)), ?_, ?_, Onto.new _ _ (freeB_eq hp), ?_⟩
      · simp only [Instr.range, Sem.run_bind, run_underlying hu, Result.andThen_ok, Sem.run_pure, run_newObj, World.alloc_eq]
      · exact h.newres hlt (keeps_alloc w _) (freeB_eq hp) rfl (by simp [blk]) fun _ _ _ => ⟨w.heap.size, rfl, heap_alloc_new w _⟩
      · simp only [applyU, A.Den]
        exact ⟨by simp [setM], fun _ => by simp [setH]⟩
    · cases he
  · rename_i s
    simp only [Option.some.injEq, Prod.mk.injEq] at he
    obtain ⟨rfl, rfl, rfl⟩ := he
    rw [Bool.and_eq_true] at hp
    simp only [A.Den, C.Den] at hx; subst hx
    refine ⟨.pointer (some ⟨w.heap.size, 0, none⟩), w.alloc (.stringIter s 0), setH ρ d (.pointer (some ⟨w.heap.size, 0, none⟩)), ?_, ?_, Onto.new _ _ (freeB_eq hp.2), ?_⟩
    · simp only [Instr.range, Sem.run_bind, run_underlying (isStrT_eq hp.1), Result.andThen_ok, Sem.run_pure, run_newObj, World.alloc_eq]
    · exact h.newres hlt (keeps_alloc w _) (freeB_eq hp.2) rfl (by simp [blk]) fun _ _ _ => ⟨w.heap.size, rfl, heap_alloc_new w _⟩
    · simp only [applyU, A.Den]
      exact ⟨by simp [setM], fun _ => by simp [setH]⟩
  · cases he
end
end Go.Pv

namespace Go.Pv
open Go.RowKit
set_option linter.unusedVariables false
set_option linter.unusedSimpArgs false
set_option linter.constructorNameAsVariable false

abbrev Out := A × List (Nat × R)

def kcVal (c : KC) : C := .v c.val
def kyA : Ky → A
  | .one c => .d (.v c.val)
  | .agg l => .d (.agg (l.map kcVal))

def stGet (k : Ky) : List (Ky × Nat) → Option Nat
  | [] => none
  | p :: r => if k = p.1 then some p.2 else stGet k r

/-- what is still to come: key, value, stamp -/
def leftOf (st : List (Ky × Nat)) (start seen : List Nat) : List (Ky × A) → Option (List (Ky × A × Nat))
  | [] => some []
  | p :: r => match stGet p.1 st, leftOf st start seen r with
    | some s, some l => if s ∈ start then (if s ∈ seen then some l else some ((p.1, p.2, s) :: l)) else none
    | _, _ => none

def stampsOk (m : Mem) : List Nat → Bool
  | [] => true
  | i :: r => (match m i with | some .sta => true | _ => false) && stampsOk m r

def effNext (m : Mem) (x : A) (isS : Bool) : Option (Bool × List Out) :=
  match x with
  | .h d => match m d, isS with
    | some (.it i sc start seen), false => match m i with
      | some (.mp _ kv st) => match leftOf st start seen kv with
        | some [] => some (stampsOk m (sc :: start) && decide ((Ky.agg [], sc) ∈ st), [(.tup [.d (.v (.bool false))], [])])
        | some l => some (stampsOk m (sc :: start) && decide ((Ky.agg [], sc) ∈ st), l.map fun q => (.tup [.d (.v (.bool true)), kyA q.1, q.2.1], [(d, .it i sc start (q.2.2 :: seen))]))
        | none => none
      | _ => none
    | some .it0, false => some (true, [(.tup [.d (.v (.bool false))], [])])
    | some (.si s pos), true => if pos < s.size then some (true, [(.tup [.d (.v (.bool true)), .d (.v (.int .i64 pos)), .d (.v (.int .i32 (Utf8.decode s pos).1))], [(d, .si s (pos + (Utf8.decode s pos).2))])])
      else some (true, [(.tup [.d (.v (.bool false))], [])])
    | _, _ => none
  | _ => none

theorem stGet_mem {k : Ky} {s : Nat} : ∀ {st : List (Ky × Nat)}, stGet k st = some s → (k, s) ∈ st
  | [], h => by simp [stGet] at h
  | p :: r, h => by
    simp only [stGet] at h
    split at h
    · rename_i e; simp at h; subst h; subst e; simp
    · simp [stGet_mem h]

theorem leftOf_spec {st : List (Ky × Nat)} {start seen : List Nat} : ∀ {kv : List (Ky × A)} {l : List (Ky × A × Nat)}, leftOf st start seen kv = some l →
    ∀ p ∈ kv, ∃ s, (p.1, s) ∈ st ∧ s ∈ start ∧ ((s ∈ seen) ∨ (s ∉ seen ∧ (p.1, p.2, s) ∈ l))
  | [], l, h, p, hp => by simp at hp
  | q :: r, l, h, p, hp => by
    simp only [leftOf] at h
    split at h
    · rename_i s l' h1 h2
      split at h
      · rename_i h3
        simp only [List.mem_cons] at hp
        have key : ∀ p ∈ r, ∃ s, (p.1, s) ∈ st ∧ s ∈ start ∧ ((s ∈ seen) ∨ (s ∉ seen ∧ (p.1, p.2, s) ∈ l')) := leftOf_spec h2
        split at h
        · rename_i h4
          simp only [Option.some.injEq] at h; subst h
          rcases hp with rfl | hp
          · exact ⟨s, stGet_mem h1, h3, .inl h4⟩
          · exact key p hp
        · rename_i h4
          simp only [Option.some.injEq] at h; subst h
          rcases hp with rfl | hp
          · exact ⟨s, stGet_mem h1, h3, .inr ⟨h4, by simp⟩⟩
          · obtain ⟨s', g1, g2, g3⟩ := key p hp
            exact ⟨s', g1, g2, g3.imp id fun ⟨a, b⟩ => ⟨a, by simp [b]⟩⟩
      · cases h
    · cases h
theorem leftOf_back {st : List (Ky × Nat)} {start seen : List Nat} : ∀ {kv : List (Ky × A)} {l : List (Ky × A × Nat)}, leftOf st start seen kv = some l → ∀ q ∈ l, (q.1, q.2.1) ∈ kv ∧ (q.1, q.2.2) ∈ st ∧ q.2.2 ∈ start ∧ q.2.2 ∉ seen
  | [], l, h, q, hq => by simp [leftOf] at h; subst h; simp at hq
  | p :: r, l, h, q, hq => by
    simp only [leftOf] at h
    split at h
    · rename_i s l' h1 h2
      split at h
      · rename_i h3
        split at h
        · simp only [Option.some.injEq] at h; subst h
          obtain ⟨a, b⟩ := leftOf_back h2 q hq
          exact ⟨by simp [a], b⟩
        · rename_i h4
          simp only [Option.some.injEq] at h; subst h
          simp only [List.mem_cons] at hq
          rcases hq with rfl | hq
          · exact ⟨by simp, stGet_mem h1, h3, h4⟩
          · obtain ⟨a, b⟩ := leftOf_back h2 q hq
            exact ⟨by simp [a], b⟩
      · cases h
    · cases h

section
variable {M0 S0 : Nat → Prop} {w0 : World} {N : Fr} {T : Nat → A} {m : Mem} {ρ : Nat → Value} {a : Act} {w : World} {P : Program}

theorem stampsOk_mem : ∀ {l : List Nat}, stampsOk m l = true → ∀ i ∈ l, m i = some .sta
  | [], _, i, hi => by simp at hi
  | j :: r, h, i, hi => by
    simp only [stampsOk, Bool.and_eq_true] at h
    simp only [List.mem_cons] at hi
    rcases hi with rfl | hi
    · have h1 := h.1
      split at h1
      · assumption
      · cases h1
    · exact stampsOk_mem h.2 i hi

theorem kyA_den (k : Ky) (M : Nat → Prop) : (kyA k).Den w M m ρ k.val := by
  cases k with
  | one c => simp [kyA, A.Den, C.Den, Ky.val]
  | agg l =>
    simp only [kyA, A.Den, C.Den, Ky.val]
    refine ⟨_, rfl, ?_, ?_⟩
    · intro u hu
      simp at hu
      obtain ⟨c, _, rfl⟩ := hu
      cases c <;> rfl
    · simp only [List.toArray]
      induction l with
      | nil => simp [C.DenL]
      | cons c r ih => simp only [List.map_cons, C.DenL]; exact ⟨_, _, rfl, by simp [kcVal, C.Den], by simpa using ih⟩

theorem putObj_run {b : Nat} {o o' : Obj} (h : w.heap[b]? = some o') (hc : ∀ c e f, o' ≠ .cells c e f) : (setObj b o).run P w = .ok () (w.putObj b o) := by
  cases o' <;> first
    | (exact absurd rfl (hc _ _ _))
    | simp [setObj, Sem.run, h, World.putObj]

theorem sd_next (h : SatAt M0 S0 w0 N T m ρ a w) {x : A} {isS : Bool} {y : Value} {ty : TypeId} {pre : Bool} {outs : List Out} (hx : x.Den w (Mut M0 m ρ) m ρ y) (he : effNext m x isS = some (pre, outs)) (hp : pre = true) :
    ∃ o ∈ outs, ∃ v w', (Instr.next y isS ty).run P w = .ok v w' ∧ SatAt M0 S0 w0 N T (applyU m o.2) ρ a w' ∧ Onto m (applyU m o.2) ρ ρ ∧ o.1.Den w' (Mut M0 (applyU m o.2) ρ) (applyU m o.2) ρ v := by
  have hfalse : ∀ {w' : World} {m' : Mem} {M : Nat → Prop}, (A.tup [.d (.v (.bool false))]).Den w' M m' ρ (.tuple #[.bool false]) := by
    intro w' m' M
    simp only [A.Den, A.DenL, C.Den]
    exact ⟨_, rfl, _, _, rfl, rfl, rfl⟩
  unfold effNext at he
  split at he
  · rename_i d
    simp only [A.Den] at hx
    split at he
    · rename_i i sc start seen hd
      have hy := has_of hx hd (by simp)
      split at he
      · rename_i fz kv st hi
        obtain ⟨b, mb, si, sa, e1, e2, e3, e5, e6⟩ := h.res d _ hd
        obtain ⟨b', es, cl, z, g1, g2, g3, g4⟩ := mp_mz h hi
        have e3' := has_of e3 hi (by simp)
        rw [g1] at e3'; simp at e3'; subst e3'
        rw [e1] at hy; subst hy
        have hpre : pre = (stampsOk m (sc :: start) && decide ((Ky.agg [], sc) ∈ st)) := by
          split at he <;> first
            | (simp only [Option.some.injEq, Prod.mk.injEq] at he; exact he.1.symm)
            | cases he
        rw [hpre, Bool.and_eq_true] at hp
        have hsta := stampsOk_mem hp.1
        have hsc := of_decide_eq_true hp.2
        have hscv : stampOf ρ sc = si := has_of e5 (hsta sc (by simp)) (by simp)
        have hsicl : si = cl := by
          have := (has_of (g4 _ hsc) (hsta sc (by simp)) (by simp)).2.2 rfl
          rw [hscv] at this; exact this
        obtain ⟨hnd, hndS, hall, hsub, hback⟩ := e6.2.2 (fun j hj e => by rw [hsta j (by simp [hj])] at e; cases e)
        have hborn : ∀ p ∈ z, ∀ s, (p.1.1, s) ∈ st → s ∈ start → p.2.born = stampOf ρ s := by
          intro p hp s hs hss
          have := (has_of (g4 _ hs) (hsta s (by simp [hss])) (by simp)).1 p.2 (by rw [g3.toList]; exact List.mem_map.2 ⟨p, hp, rfl⟩) (g3.key p hp)
          exact this
        have hleft : ∀ {l}, leftOf st start seen kv = some l → ∀ p ∈ z, ∃ s, s ∈ start ∧ p.2.born = stampOf ρ s ∧ (s ∈ seen ∨ (s ∉ seen ∧ (p.1.1, p.1.2, s) ∈ l)) := by
          intro l hl p hp
          obtain ⟨s, q1, q2, q3⟩ := leftOf_spec hl p.1 (g3.perm.mem_iff.1 (List.mem_map.2 ⟨p, hp, rfl⟩))
          exact ⟨s, q2, hborn p hp s q1 q2, q3⟩
        have hfil : ∀ {l}, leftOf st start seen kv = some l → ∀ e, e ∈ es.filter (fun e => !sa.contains e.born) ↔ ∃ p ∈ z, e = p.2 ∧ ∃ s, s ∈ start ∧ p.2.born = stampOf ρ s ∧ s ∉ seen ∧ (p.1.1, p.1.2, s) ∈ l := by
          intro l hl e
          rw [Array.mem_filter]
          constructor
          · rintro ⟨h1, h2⟩
            have h1' : e ∈ es.toList := by simpa using h1
            rw [g3.toList] at h1'
            obtain ⟨p, hp, rfl⟩ := List.mem_map.1 h1'
            obtain ⟨s, q1, q2, q3⟩ := hleft hl p hp
            have := (hall s q1).2
            rw [← q2] at this
            rw [this] at h2
            have hns : s ∉ seen := by simpa using h2
            exact ⟨p, hp, rfl, s, q1, q2, hns, (q3.resolve_left hns).2⟩
          · rintro ⟨p, hp, rfl, s, q1, q2, q3, _⟩
            refine ⟨?_, ?_⟩
            · have : p.2 ∈ es.toList := by rw [g3.toList]; exact List.mem_map.2 ⟨p, hp, rfl⟩
              simpa using this
            · have := (hall s q1).2
              rw [q2, this]; simpa using q3
        have holdB : ∀ {l}, leftOf st start seen kv = some l → ∀ e ∈ es, e.born < si := by
          intro l hl e he
          have he' : e ∈ es.toList := by simpa using he
          rw [g3.toList] at he'
          obtain ⟨p, hp, rfl⟩ := List.mem_map.1 he'
          obtain ⟨s, q1, q2, _⟩ := hleft hl p hp
          rw [q2]; exact (hall s q1).1
        have hcheck : ∀ {l}, leftOf st start seen kv = some l → (!sa.isEmpty && !es.isEmpty && es.all (fun e => decide (e.born ≥ si))) = false := by
          intro l hl
          cases hE : es.isEmpty with
          | true => simp
          | false =>
            have : ∃ e, e ∈ es := by
              have : 0 < es.size := by
                rcases Nat.eq_zero_or_pos es.size with q | q
                · simp [Array.isEmpty, q] at hE
                · exact q
              exact ⟨es[0], by simp⟩
            obtain ⟨e, he⟩ := this
            have h1 := holdB hl e he
            have : es.all (fun e => decide (e.born ≥ si)) = false := by
              rw [Array.all_eq_false']
              exact ⟨e, he, by simp; omega⟩
            simp [this]
        have hold : ∀ {l}, leftOf st start seen kv = some l → (es.filter (fun e => !sa.contains e.born)).filter (fun e => decide (e.born < si)) = es.filter (fun e => !sa.contains e.born) ∧ (es.filter (fun e => !sa.contains e.born)).filter (fun e => decide (e.born ≥ si)) = #[] := by
          intro l hl
          constructor
          · rw [Array.filter_eq_self]
            intro e he
            have := holdB hl e (Array.mem_filter.1 he).1
            simpa using this
          · rw [Array.filter_eq_empty_iff]
            intro e he
            have := holdB hl e (Array.mem_filter.1 he).1
            simp; omega
        have hit : m d = some (.it i sc start seen) := hd
        -- the draw
        have hdraw : ∀ (n : Nat), 0 < n → ∃ k w1, (choose (.mapNext n)).run P w = .ok k w1 ∧ k < n ∧ SatAt M0 S0 w0 N T m ρ a w1 ∧ w1.heap = w.heap := by
          intro n hn
          by_cases h1 : n ≤ 1
          · exact ⟨0, w, by simp [choose, Sem.run, Question.forced, h1], hn, h, rfl⟩
          · refine ⟨(Question.mapNext n).cut (w.tape w.drawn (.mapNext n)), { w with drawn := w.drawn + 1 }, ?_, by simp only [Question.cut]; exact Nat.mod_lt _ hn, h.drew _, rfl⟩
            simp only [choose, Sem.run, Question.forced, h1, decide_false, Bool.false_eq_true, if_false]
        cases hl : leftOf st start seen kv with
        | none => rw [hl] at he; cases he
        | some l =>
          rw [hl] at he
          obtain ⟨o1, o2⟩ := hold hl
          have hc := hcheck hl
          have hf := hfil hl
          cases l with
          | nil =>
            simp only [Option.some.injEq, Prod.mk.injEq] at he
            obtain ⟨_, rfl⟩ := he
            have hemp : es.filter (fun e => !sa.contains e.born) = #[] := by
              apply Array.eq_empty_of_size_eq_zero
              rcases Nat.eq_zero_or_pos (es.filter (fun e => !sa.contains e.born)).size with q | q
              · exact q
              · have hmem : (es.filter (fun e => !sa.contains e.born))[0]'q ∈ es.filter (fun e => !sa.contains e.born) := Array.getElem_mem q
                obtain ⟨p, _, _, s, _, _, _, hm⟩ := (hf _).1 hmem
                simp at hm
            refine ⟨_, List.mem_singleton.2 rfl, .tuple #[.bool false], w, ?_, h, Onto.refl m ρ, hfalse⟩
            simp only [Instr.next, Sem.run_bind]
            rw [show (getObj b).run P w = .ok (.mapIter (some b') si sa si) w by simp [getObj, Sem.run, e2]]
            simp only [Result.andThen_ok, Sem.run_bind]
            rw [run_getMap g2]
            simp only [Result.andThen_ok, Sem.run_bind, hc, Bool.false_eq_true, if_false, Sem.run_pure, hemp]
            simp [choose, Sem.run, Question.forced]
          | cons q l' =>
            simp only [Option.some.injEq, Prod.mk.injEq] at he
            obtain ⟨_, rfl⟩ := he
            generalize hF : es.filter (fun e => !sa.contains e.born) = F at o1 o2 hf
            have hpos : 0 < F.size := by
              obtain ⟨q1, q2, q3, q4⟩ := leftOf_back hl q (by simp)
              obtain ⟨p, hp, hp2⟩ := List.mem_map.1 (g3.perm.mem_iff.2 q1)
              have : p.2 ∈ F := (hf p.2).2 ⟨p, hp, rfl, q.2.2, q3, hborn p hp q.2.2 (by rw [hp2]; exact q2) q3, q4, by rw [hp2]; simp⟩
              rcases Nat.eq_zero_or_pos F.size with z0 | z0
              · have := Array.eq_empty_of_size_eq_zero z0; subst this; simp at *
              · exact z0
            obtain ⟨k, w1, hk1, hk2, hk3, hk4⟩ := hdraw F.size hpos
            obtain ⟨p, hpz, hpe, s, hs1, hs2, hs3, hs4⟩ := (hf F[k]).1 (by simp)
            have hw1b : w1.heap[b]? = some (.mapIter (some b') si sa si) := by rw [hk4]; exact e2
            have hO : Onto m (setM m d (.it i sc start (s :: seen))) ρ ρ := by
              have := Onto.set (m := m) (ρ := ρ) d (.it i sc start (s :: seen)) (ρ d) (fun _ _ => ⟨by rw [hit]; simp, rfl, fun fz t es l e => by rw [hit] at e; simp at e⟩)
              rwa [setH_same] at this
            refine ⟨_, List.mem_map.2 ⟨_, hs4, rfl⟩, .tuple #[.bool true, F[k].key, F[k].val], w1.putObj b (.mapIter (some b') si (sa.push F[k].born) cl), ?_, ?_, hO, ?_⟩
            · simp only [Instr.next, Sem.run_bind]
              rw [show (getObj b).run P w = .ok (.mapIter (some b') si sa si) w by simp [getObj, Sem.run, e2]]
              simp only [Result.andThen_ok, Sem.run_bind]
              rw [run_getMap g2]
              have hne : F.isEmpty = false := by unfold Array.isEmpty; exact decide_eq_false (by omega)
              simp only [Result.andThen_ok, Sem.run_bind, hc, Bool.false_eq_true, if_false, Sem.run_pure, hF, o1, o2, hne, Array.empty_append, Array.append_empty, Array.size_map, hk1, Array.getElem?_map, Array.getElem?_eq_getElem hk2, Option.map_some]
              rw [putObj_run hw1b (by simp)]
              simp
            · refine hk3.write hit rfl rfl (by simp) (putObj_keeps w1 b _) (fun c _ e => by rw [e1, e]; rfl) fun hO' hst' hm' => ?_
              refine ⟨b, b', si, _, e1, by rw [putObj_at hw1b, hsicl], e3.mono hO' fun e _ q => e.trans q, e5.mono hO' fun e _ q => q, ?_⟩
              refine ⟨fun j hj => by
                simp only [List.mem_cons] at hj
                rcases hj with rfl | hj
                · exact hs1
                · exact hsub j hj, fun j hj => by
                have hjd : j ≠ d := by rintro rfl; have := hsta j (by simp [hj]); rw [hit] at this; cases this
                simp [setM, hjd, hsta j (by simp [hj])], fun _ => ⟨hnd, hndS, fun j hj => ⟨(hall j hj).1, ?_⟩, fun j hj => by
                  simp only [List.mem_cons] at hj
                  rcases hj with rfl | hj
                  · exact hs1
                  · exact hsub j hj, by simp [hpe, hs2]⟩⟩
              have hcj := (hall j hj).2
              have hbk : F[k].born = stampOf ρ s := by rw [hpe]; exact hs2
              rw [Array.contains_push, hcj, hbk]
              by_cases hjs : j = s
              · subst hjs; simp
              · have hne : stampOf ρ j ≠ stampOf ρ s := fun e => hjs (by
                  obtain ⟨j1, hj1⟩ := List.mem_iff_getElem?.1 hj
                  obtain ⟨j2, hj2⟩ := List.mem_iff_getElem?.1 hs1
                  have := nodup_idx hndS hj1 hj2 e
                  subst this; rw [hj1] at hj2; cases hj2; rfl)
                simp [hjs, hne]
            · have hkey : F[k].key = p.1.1.val := by rw [hpe]; exact g3.key p hpz
              have hval : A.Den (w1.putObj b (.mapIter (some b') si (sa.push F[k].born) cl)) (Mut M0 (setM m d (.it i sc start (s :: seen))) ρ) (setM m d (.it i sc start (s :: seen))) ρ p.1.2 F[k].val := by
                rw [hpe]
                have hst1 : Stays (Mut M0 m ρ) w (w1.putObj b (.mapIter (some b') si (sa.push p.2.born) cl)) := by
                  refine ⟨by simp [World.putObj, hk4], fun c hc1 hc2 => ?_⟩
                  have hcb : c ≠ b := by rintro rfl; exact hc2 (.inr ⟨d, _, hit, rfl, by rw [e1]; rfl⟩)
                  show (w1.heap.setIfInBounds b _)[c]? = _
                  rw [Array.getElem?_setIfInBounds_ne (Ne.symm hcb), hk4]
                refine A.Den_mono hst1 ?_ hO _ _ (g3.den p hpz)
                rintro c (e | ⟨i', r, q1, q2, q3⟩) _
                · exact .inl e
                · by_cases ei : i' = d
                  · subst ei; exact .inr ⟨i', _, hit, rfl, q3⟩
                  · exact .inr ⟨i', r, by simpa [setM, ei] using q1, q2, q3⟩
              simp only [applyU, A.Den]
              refine ⟨_, rfl, ?_⟩
              simp only [A.DenL]
              exact ⟨_, _, rfl, by simp [A.Den, C.Den], _, _, rfl, by rw [hkey]; exact kyA_den _ _, _, _, rfl, hval, rfl⟩
      · cases he
    · rename_i hd
      simp only [Option.some.injEq, Prod.mk.injEq] at he
      obtain ⟨_, rfl⟩ := he
      obtain ⟨b, e1, e2⟩ := h.res d _ hd
      have hy := has_of hx hd (by simp)
      rw [e1] at hy; subst hy
      refine ⟨_, List.mem_singleton.2 rfl, .tuple #[.bool false], w, ?_, h, Onto.refl m ρ, hfalse⟩
      simp [Instr.next, getObj, Sem.run, e2]
    · rename_i s pos hd
      obtain ⟨b, e1, e2⟩ := h.res d _ hd
      have hy := has_of hx hd (by simp)
      rw [e1] at hy; subst hy
      split at he
      · rename_i hlt
        simp only [Option.some.injEq, Prod.mk.injEq] at he
        obtain ⟨_, rfl⟩ := he
        have hO : Onto m (setM m d (.si s (pos + (Utf8.decode s pos).2))) ρ ρ := by
          have := Onto.set (m := m) (ρ := ρ) d (.si s (pos + (Utf8.decode s pos).2)) (ρ d) (fun _ _ => ⟨by rw [hd]; simp, rfl, fun fz t es l e => by rw [hd] at e; simp at e⟩)
          rwa [setH_same] at this
        refine ⟨_, List.mem_singleton.2 rfl, .tuple #[.bool true, goInt pos, .int .i32 (Utf8.decode s pos).1], w.putObj b (.stringIter s (pos + (Utf8.decode s pos).2)), ?_, ?_, hO, ?_⟩
        · simp only [Instr.next, Sem.run_bind]
          rw [show (getObj b).run P w = .ok (.stringIter s pos) w by simp [getObj, Sem.run, e2]]
          simp only [Result.andThen_ok, hlt, if_true, Sem.run_bind]
          rw [putObj_run e2 (by simp)]
          simp
        · exact h.write hd rfl rfl (by simp) (putObj_keeps w b _) (fun k _ e => by rw [e1, e]; rfl) fun _ _ _ => ⟨b, e1, putObj_at e2⟩
        · simp only [A.Den, A.DenL, C.Den]
          exact ⟨_, rfl, _, _, rfl, rfl, _, _, rfl, rfl, _, _, rfl, rfl, rfl⟩
      · rename_i hlt
        simp only [Option.some.injEq, Prod.mk.injEq] at he
        obtain ⟨_, rfl⟩ := he
        refine ⟨_, List.mem_singleton.2 rfl, .tuple #[.bool false], w, ?_, h, Onto.refl m ρ, hfalse⟩
        simp only [Instr.next, Sem.run_bind]
        rw [show (getObj b).run P w = .ok (.stringIter s pos) w by simp [getObj, Sem.run, e2]]
        simp [hlt]
    · cases he
  · cases he
end
end Go.Pv

namespace Go.Pv
open Go.RowKit
set_option linter.unusedVariables false
set_option linter.unusedSimpArgs false
set_option linter.constructorNameAsVariable false

def effEntry (m : Mem) (x : A) : Option E :=
  match x with
  | .h d => match m d with
    | some (.it i sc start (s :: _)) => match m i with
      | some (.mp _ kv st) => match st.find? fun p => p.2 == s && p.1 != .agg [] with
        | some (k, _) => match kvGet k kv with
          | some a => some (stampsOk m (sc :: start) && decide ((Ky.agg [], sc) ∈ st), .tup [kyA k, a], [])
          | none => none
        | none => none
      | _ => none
    | _ => none
  | _ => none

theorem find_unique {α : Type} {p : α → Bool} : ∀ {l : List α} {x : α}, x ∈ l → p x = true → (∀ y ∈ l, p y = true → y = x) → l.find? p = some x
  | [], x, h, _, _ => by simp at h
  | y :: l, x, h, hp, hu => by
    simp only [List.find?_cons]
    cases hy : p y with
    | true => rw [hu y (by simp) hy]
    | false =>
      simp only
      simp only [List.mem_cons] at h
      rcases h with rfl | h
      · rw [hp] at hy; cases hy
      · exact find_unique h hp fun z hz => hu z (by simp [hz])

section
variable {M0 S0 : Nat → Prop} {w0 : World} {N : Fr} {T : Nat → A} {m : Mem} {ρ : Nat → Value} {a : Act} {w : World} {P : Program}

theorem sd_entry (h : SatAt M0 S0 w0 N T m ρ a w) {x v : A} {y : Value} {pre : Bool} {ups : List (Nat × R)} (hx : x.Den w (Mut M0 m ρ) m ρ y) (he : effEntry m x = some (pre, v, ups)) (hp : pre = true) :
    ups = [] ∧ ∃ z, (Instr.entry y).run P w = .ok z w ∧ v.Den w (Mut M0 m ρ) m ρ z := by
  unfold effEntry at he
  split at he
  · rename_i d
    simp only [A.Den] at hx
    split at he
    · rename_i i sc start s seen hd
      have hy := has_of hx hd (by simp)
      split at he
      · rename_i fz kv st hi
        split at he
        · rename_i k s' hfi
          split at he
          · rename_i a0 hg
            simp only [Option.some.injEq, Prod.mk.injEq] at he
            obtain ⟨rfl, rfl, rfl⟩ := he
            obtain ⟨b, mb, si, sa, e1, e2, e3, e5, e6⟩ := h.res d _ hd
            obtain ⟨b', es, cl, z, g1, g2, g3, g4⟩ := mp_mz h hi
            have e3' := has_of e3 hi (by simp)
            rw [g1] at e3'; simp at e3'; subst e3'
            rw [e1] at hy; subst hy
            rw [Bool.and_eq_true] at hp
            have hsta := stampsOk_mem hp.1
            have hsc := of_decide_eq_true hp.2
            have hscv : stampOf ρ sc = si := has_of e5 (hsta sc (by simp)) (by simp)
            have hsicl : si = cl := by
              have := (has_of (g4 _ hsc) (hsta sc (by simp)) (by simp)).2.2 rfl
              rw [hscv] at this; exact this
            obtain ⟨hnd, hndS, hall, hsub, hback⟩ := e6.2.2 (fun j hj e => by rw [hsta j (by simp [hj])] at e; cases e)
            have hmem := List.mem_of_find?_eq_some hfi
            have hs' : s' = s := by have := List.find?_some hfi; simp at this; exact this.1
            subst hs'
            rcases g3.find k with ⟨_, q2⟩ | ⟨j, p, q1, q2, q3, q4⟩
            · rw [q2] at hg; cases hg
            rw [q4] at hg; simp only [Option.some.injEq] at hg; subst hg
            have hpz := List.mem_of_getElem? q2
            have hpe : p.2 ∈ es.toList := by rw [g3.toList]; exact List.mem_map.2 ⟨p, hpz, rfl⟩
            have hpk : p.2.key = k.val := by rw [← q3]; exact g3.key p hpz
            have hbn := (has_of (g4 _ hmem) (hsta s' (by simp [hsub s' (by simp)])) (by simp)).1 p.2 hpe hpk
            have hfind : es.find? (fun e => e.born == stampOf ρ s') = some p.2 := by
              have : es.find? (fun e => e.born == stampOf ρ s') = es.toList.find? (fun e => e.born == stampOf ρ s') := by
                conv => lhs; rw [← Array.toArray_toList (xs := es)]
                exact List.find?_toArray _ _
              rw [this]
              refine find_unique hpe (by simp [hbn]) fun e he hb => ?_
              rw [g3.toList] at he
              obtain ⟨q, hq, rfl⟩ := List.mem_map.1 he
              obtain ⟨jq, hjq⟩ := List.mem_iff_getElem?.1 hq
              have := nodup_idx g3.born hjq q2 (by rw [hbn]; simpa using hb)
              subst this; rw [q2] at hjq; cases hjq; rfl
            refine ⟨rfl, .tuple #[p.2.key, p.2.val], ?_, ?_⟩
            · simp only [Instr.entry, Sem.run_bind]
              rw [show (getObj b).run P w = .ok (.mapIter (some b') si sa si) w by simp [getObj, Sem.run, e2]]
              simp only [Result.andThen_ok, hback, List.head?_cons, Option.map_some, Sem.run_bind]
              rw [run_getMap g2]
              simp only [Result.andThen_ok, hsicl, bne_self_eq_false, Bool.false_eq_true, if_false, Sem.run_bind, Sem.run_pure, hfind]
            · simp only [A.Den, A.DenL]
              exact ⟨_, rfl, _, _, rfl, by rw [hpk]; exact kyA_den _ _, _, _, rfl, g3.den p hpz, rfl⟩
          · cases he
        · cases he
      · cases he
    · cases he
  · cases he

/-- two structs of scalars -/
def effEqS (P : Program) (t : TypeId) (x y : A) : Option (Bool × Bool) :=
  match keyOf x, keyOf y with
  | some (.agg a), some (.agg b) => some ((Ky.agg a).fits P t && (Ky.agg a).same (.agg b) && !P.eqGuardType P.depth t, decide (a = b))
  | _, _ => none

theorem sd_eqS {op : BinOp} {t : TypeId} {x y : A} {u v : Value} {ox oy : Operand} {pre b : Bool} {M : Nat → Prop} (hx : x.Den w M m ρ u) (hy : y.Den w M m ρ v) (he : effEqS P t x y = some (pre, b)) (hp : pre = true) (hop : op = .eql ∨ op = .neq) :
    (do eqGuard op t ox oy u v; binOp op t u v).run P w = .ok (.bool (if op = .eql then b else !b)) w := by
  unfold effEqS at he
  split at he
  · rename_i k l h1 h2
    simp only [Option.some.injEq, Prod.mk.injEq] at he
    obtain ⟨rfl, rfl⟩ := he
    have e1 := keyOf_den h1 hx
    have e2 := keyOf_den h2 hy
    subst e1; subst e2
    simp only [Bool.and_eq_true, Bool.not_eq_true'] at hp
    have hq := run_eqKy (w := w) 9995 hp.1.1 hp.1.2
    simp only [Ky.val] at hq ⊢
    simp only [Sem.run_bind, run_eqGuard_agg w op t ox oy _ _ hp.2, Result.andThen_ok]
    rcases hop with rfl | rfl
    · rw [run_eql_struct w]; simp only [hq, Result.andThen_ok]; simp
    · rw [run_neq_struct w]; simp only [hq, Result.andThen_ok]; simp
  · cases he

/-- an element of a text or of an array -/
def effIndex (P : Program) (t : TypeId) (x ix : A) : Option E :=
  match x, ix with
  | .d (.v (.string s)), .d (.v (.int _ n)) => match s[n.toNat]? with
    | some b => some (isStrT P t && decide (0 ≤ n), .d (.v (.int .u8 b.toNat)), [])
    | none => none
  | .agg l, .d (.v (.int _ n)) => match P.underlying t with
    | some (.array len e) => match aggOf P e with
      | some true => some (decide (0 ≤ n ∧ n < len ∧ n.toNat * P.cellsOf e + P.cellsOf e ≤ l.length), .agg ((l.drop (n.toNat * P.cellsOf e)).take (P.cellsOf e)), [])
      | some false => some (decide (0 ≤ n ∧ n < len ∧ n.toNat * P.cellsOf e < l.length), l.getD (n.toNat * P.cellsOf e) .x, [])
      | none => none
    | _ => none
  | .d (.agg l), .d (.v (.int _ n)) => match P.underlying t with
    | some (.array len e) => match aggOf P e with
      | some true => some (decide (0 ≤ n ∧ n < len ∧ n.toNat * P.cellsOf e + P.cellsOf e ≤ l.length), .d (.agg ((l.drop (n.toNat * P.cellsOf e)).take (P.cellsOf e))), [])
      | some false => some (decide (0 ≤ n ∧ n < len ∧ n.toNat * P.cellsOf e < l.length), .d (l.getD (n.toNat * P.cellsOf e) default), [])
      | none => none
    | _ => none
  | _, _ => none

theorem run_part {t : TypeId} {vs : Array Value} {o : Nat} {M : Nat → Prop} {l : List A} (h0 : ∀ u ∈ vs.toList, u.oneCell' = true) (hd : A.DenL w M m ρ l vs.toList) :
    (aggOf P t = some true → o + P.cellsOf t ≤ l.length → ∃ y, (part t vs o).run P w = .ok y w ∧ (A.agg ((l.drop o).take (P.cellsOf t))).Den w M m ρ y) ∧
    (aggOf P t = some false → o < l.length → ∃ y, (part t vs o).run P w = .ok y w ∧ (l.getD o .x).Den w M m ρ y) := by
  have hlen := (A.DenL_iff.1 hd).1
  constructor
  · intro hg hle
    refine ⟨.agg (vs.extract o (o + P.cellsOf t)), by simp [part, run_isAgg hg, run_sizeOf' hg], ?_⟩
    simp only [A.Den]
    have e1 : (vs.extract o (o + P.cellsOf t)).toList = (vs.toList.drop o).take (P.cellsOf t) := by
      rw [Array.toList_extract]; simp [List.extract_eq_take_drop]
    exact ⟨_, rfl, by rw [e1]; exact fun u hu => h0 u (List.mem_of_mem_drop (List.mem_of_mem_take hu)), by rw [e1]; exact A.DenL_take _ (A.DenL_drop _ hd)⟩
  · intro hg hlt
    have hlt' : o < vs.toList.length := by omega
    refine ⟨vs.toList[o], ?_, ?_⟩
    · have : vs[o]? = some vs.toList[o] := by simp at hlt'; simp [hlt']
      simp [part, run_isAgg hg, this]
    · rw [List.getD_eq_getElem?_getD, List.getElem?_eq_getElem hlt]
      exact (A.DenL_iff.1 hd).2 _ _ _ (List.getElem?_eq_getElem hlt) (List.getElem?_eq_getElem hlt')

theorem sd_index {t : TypeId} {x ix v : A} {y iy : Value} {pre : Bool} {ups : List (Nat × R)} {M : Nat → Prop} (hx : x.Den w M m ρ y) (hix : ix.Den w M m ρ iy) (he : effIndex P t x ix = some (pre, v, ups)) (hp : pre = true) :
    ups = [] ∧ ∃ z, (Instr.index t y iy).run P w = .ok z w ∧ v.Den w M m ρ z := by
  unfold effIndex at he
  split at he
  · rename_i s k n
    simp only [A.Den, C.Den] at hx hix; subst hx; subst hix
    split at he
    · rename_i b hb
      simp only [Option.some.injEq, Prod.mk.injEq] at he
      obtain ⟨rfl, rfl, rfl⟩ := he
      rw [Bool.and_eq_true] at hp
      have h0 := of_decide_eq_true hp.2
      exact ⟨rfl, .int .u8 b.toNat, by simp [Instr.index, asIntOf, run_underlying (isStrT_eq hp.1), h0, hb], by simp [A.Den, C.Den]⟩
    · cases he
  · rename_i l k n
    simp only [A.Den, C.Den] at hix; subst hix
    simp only [A.Den] at hx
    obtain ⟨vs, rfl, h0, hd⟩ := hx
    split at he
    · rename_i len e hu
      split at he
      · rename_i hg
        simp only [Option.some.injEq, Prod.mk.injEq] at he
        obtain ⟨rfl, rfl, rfl⟩ := he
        obtain ⟨p1, p2, p3⟩ := of_decide_eq_true hp
        obtain ⟨z, r1, r2⟩ := (run_part (P := P) (t := e) (o := n.toNat * P.cellsOf e) h0 hd).1 hg p3
        exact ⟨rfl, z, by simp [Instr.index, asIntOf, run_underlying hu, p1, p2, run_sizeOf' hg, r1], r2⟩
      · rename_i hg
        simp only [Option.some.injEq, Prod.mk.injEq] at he
        obtain ⟨rfl, rfl, rfl⟩ := he
        obtain ⟨p1, p2, p3⟩ := of_decide_eq_true hp
        obtain ⟨z, r1, r2⟩ := (run_part (P := P) (t := e) (o := n.toNat * P.cellsOf e) h0 hd).2 hg p3
        exact ⟨rfl, z, by simp [Instr.index, asIntOf, run_underlying hu, p1, p2, run_sizeOf' hg, r1], r2⟩
      · cases he
    · cases he
  · rename_i l k n
    simp only [A.Den, C.Den] at hix; subst hix
    simp only [A.Den, C.Den] at hx
    obtain ⟨vs, rfl, h0, hd⟩ := hx
    have hd' : A.DenL w M m ρ (l.map A.d) vs.toList := A.DenL_map_d.2 hd
    split at he
    · rename_i len e hu
      split at he
      · rename_i hg
        simp only [Option.some.injEq, Prod.mk.injEq] at he
        obtain ⟨rfl, rfl, rfl⟩ := he
        obtain ⟨p1, p2, p3⟩ := of_decide_eq_true hp
        obtain ⟨z, r1, r2⟩ := (run_part (P := P) (t := e) (o := n.toNat * P.cellsOf e) h0 hd').1 hg (by simpa using p3)
        refine ⟨rfl, z, by simp [Instr.index, asIntOf, run_underlying hu, p1, p2, run_sizeOf' hg, r1], ?_⟩
        rw [← List.map_drop, ← List.map_take] at r2
        simp only [A.Den, C.Den] at r2 ⊢
        obtain ⟨us, q1, q2, q3⟩ := r2
        exact ⟨us, q1, q2, A.DenL_map_d.1 q3⟩
      · rename_i hg
        simp only [Option.some.injEq, Prod.mk.injEq] at he
        obtain ⟨rfl, rfl, rfl⟩ := he
        obtain ⟨p1, p2, p3⟩ := of_decide_eq_true hp
        obtain ⟨z, r1, r2⟩ := (run_part (P := P) (t := e) (o := n.toNat * P.cellsOf e) h0 hd').2 hg (by simpa using p3)
        refine ⟨rfl, z, by simp [Instr.index, asIntOf, run_underlying hu, p1, p2, run_sizeOf' hg, r1], ?_⟩
        rw [List.getD_eq_getElem?_getD, List.getElem?_map, List.getElem?_eq_getElem p3] at r2
        rw [List.getD_eq_getElem?_getD, List.getElem?_eq_getElem p3]
        exact r2
      · cases he
    · cases he
  · cases he
end
end Go.Pv

namespace Go.Pv
open Go.RowKit
set_option linter.unusedVariables false
set_option linter.unusedSimpArgs false
set_option linter.constructorNameAsVariable false

/-- what any operation comes to, calls of functions and the next of an iterator apart -/
def effAll (P : Program) (m : Mem) (T : Nat → A) (d : Nat) (o : Oper) : Option E :=
  match o.op with
  | .lookup t x ix ok => effLookup P m t (evT T x) (evT T ix) ok
  | .mapUpdate t x k v => effMapSet P m t (evT T x) (evT T k) (evT T v)
  | .insert t x k v => effMapSet P m t (evT T x) (evT T k) (evT T v)
  | .mapEntry t x k => effMapEntry P m d t (evT T x) (evT T k)
  | .entryStore t x s v => effEntryStore m (evT T x) (evT T s) (evT T v)
  | .range t x => effRange P m d t (evT T x)
  | .entry x => effEntry m (evT T x)
  | .index t x ix => effIndex P t (evT T x) (evT T ix)
  | .binOp op t x y _ => match effOp P m T d o with
    | some e => some e
    | none => match op with
      | .eql => (effEqS P t (evT T x) (evT T y)).map fun r => (r.1, .d (.v (.bool r.2)), [])
      | .neq => (effEqS P t (evT T x) (evT T y)).map fun r => (r.1, .d (.v (.bool (!r.2))), [])
      | _ => none
  | .call c => match effOp P m T d o with
    | some e => some e
    | none => match c.callee, c.args.toList, c.argTypes.toList with
      | .builtin .delete, [x, k], [t, _] => effDelete P m t (evT T x) (evT T k)
      | _, _, _ => none
  | _ => effOp P m T d o

section
variable {M0 S0 : Nat → Prop} {w0 : World} {N : Fr} {T : Nat → A} {m : Mem} {ρ : Nat → Value} {a : Act} {w : World} {P : Program}

theorem sd_all (h : SatAt M0 S0 w0 N T m ρ a w) (hlt : ∀ b, M0 b → b < w0.heap.size) {o : Oper} {d : Nat} {pre : Bool} {v : A} {ups : List (Nat × R)} (he : effAll P m T d o = some (pre, v, ups)) (hp : pre = true) : Gives P M0 S0 w0 N T m ρ a w o v (applyU m ups) := by
  unfold effAll at he
  split at he
  · rename_i t x ix ok ho
    obtain ⟨rfl, z, hr, hv⟩ := sd_lookup (P := P) h (ev_den h x) (ev_den h ix) he hp
    exact gives_pure h (by simp [execOp, ho, hr]) hv
  · rename_i t x k v' ho
    obtain ⟨w', hr, hs, hO, rfl⟩ := sd_mapSet (P := P) h (ev_den h x) (ev_den h k) (ev_den h v') he hp
    exact ⟨undef, w', ρ, _, by simp [execOp, ho, hr], .inr ⟨rfl, rfl⟩, hs, hO, by simp only [A.Den]⟩
  · rename_i t x k v' ho
    obtain ⟨w', hr, hs, hO, rfl⟩ := sd_mapSet (P := P) h (ev_den h x) (ev_den h k) (ev_den h v') he hp
    exact ⟨undef, w', ρ, _, by simp [execOp, ho, hr], .inr ⟨rfl, rfl⟩, hs, hO, by simp only [A.Den]⟩
  · rename_i t x k ho
    obtain ⟨z, w', ρ', hr, hs, hO, hv⟩ := sd_mapEntry (P := P) h hlt (ev_den h x) (ev_den h k) he hp
    exact ⟨z, w', ρ', _, by simp [execOp, ho, hr], .inl rfl, hs, hO, hv⟩
  · rename_i t x s v' ho
    obtain ⟨w', hr, hs, hO, rfl⟩ := sd_entryStore (P := P) (t := t) h (ev_den h x) (ev_den h s) (ev_den h v') he
    exact ⟨undef, w', ρ, _, by simp [execOp, ho, hr], .inr ⟨rfl, rfl⟩, hs, hO, by simp only [A.Den]⟩
  · rename_i t x ho
    obtain ⟨z, w', ρ', hr, hs, hO, hv⟩ := sd_range (P := P) h hlt (ev_den h x) he hp
    exact ⟨z, w', ρ', _, by simp [execOp, ho, hr], .inl rfl, hs, hO, hv⟩
  · rename_i x ho
    obtain ⟨rfl, z, hr, hv⟩ := sd_entry (P := P) h (ev_den h x) he hp
    exact gives_pure h (by simp [execOp, ho, hr]) hv
  · rename_i t x ix ho
    obtain ⟨rfl, z, hr, hv⟩ := sd_index (P := P) (w := w) (ev_den h x) (ev_den h ix) he hp
    exact gives_pure h (by simp [execOp, ho, hr]) hv
  · rename_i op t x y ty ho
    split at he
    · rename_i e heq
      simp only [Option.some.injEq] at he; subst he
      exact sd_op h hlt heq hp
    · split at he
      · simp only [Option.map_eq_some_iff] at he
        obtain ⟨⟨p, b⟩, h1, h2⟩ := he
        simp only [Prod.mk.injEq] at h2; obtain ⟨rfl, rfl, rfl⟩ := h2
        have hr := sd_eqS (P := P) (w := w) (op := .eql) (ox := x) (oy := y) (ev_den h x) (ev_den h y) h1 hp (.inl rfl)
        refine gives_pure h (y := .bool b) ?_ (by simp [A.Den, C.Den])
        simp only [execOp, ho, Sem.run_bind] at hr ⊢
        rw [hr]; simp
      · simp only [Option.map_eq_some_iff] at he
        obtain ⟨⟨p, b⟩, h1, h2⟩ := he
        simp only [Prod.mk.injEq] at h2; obtain ⟨rfl, rfl, rfl⟩ := h2
        have hr := sd_eqS (P := P) (w := w) (op := .neq) (ox := x) (oy := y) (ev_den h x) (ev_den h y) h1 hp (.inr rfl)
        refine gives_pure h (y := .bool (!b)) ?_ (by simp [A.Den, C.Den])
        simp only [execOp, ho, Sem.run_bind] at hr ⊢
        rw [hr]; simp
      · cases he
  · rename_i c ho
    split at he
    · rename_i e heq
      simp only [Option.some.injEq] at he; subst he
      exact sd_op h hlt heq hp
    · obtain ⟨callee, args, tys⟩ := c
      simp only at he
      split at he
      · rename_i x k t t' h2 h3
        have e1 := arr2 h2; have e2 := arr2 h3; subst e1; subst e2
        obtain ⟨w', hr, hs, hO, rfl⟩ := sd_delete (P := P) (t' := t') (ty := o.type) h (ev_den h x) (ev_den h k) he hp
        refine ⟨.tuple #[], w', ρ, _, by simp [execOp, ho, resolve, invoke, builtin, hr], .inl rfl, hs, hO, ?_⟩
        simp only [A.Den, A.DenL]
        exact ⟨#[], rfl, rfl⟩
      · cases he
  · exact sd_op h hlt he hp

theorem effAll_noDefer {P : Program} {m : Mem} {T : Nat → A} {d : Nat} {o : Oper} {e : E} (h : effAll P m T d o = some e) : noDefer o = true := by
  unfold noDefer
  split
  · rename_i c ho; simp [effAll, effOp, ho] at h
  · rfl

theorem OpT.of_all {P : Program} {o : Oper} {T : Nat → A} {m : Mem} {d : Nat} {pre : Bool} {v : A} {ups : List (Nat × R)} (he : effAll P m T d o = some (pre, v, ups)) (hp : pre = true) : OpT P o T m v (applyU m ups) := by
  intro ro N M0 S0 w0 ρ a w h hlt next Q hn
  obtain ⟨y, w', ρ', res, hr, hres, hs, hO, hv⟩ := sd_all h hlt he hp
  exact wpIn_val (effAll_noDefer he) hr hres (hn y w' ρ' hs hO hv)
end
end Go.Pv

namespace Go.Pv
open Go.RowKit
set_option linter.unusedVariables false
set_option linter.unusedSimpArgs false
set_option linter.constructorNameAsVariable false

/-- numbers to things -/
inductive Tr (α : Type) where
  | nil
  | node (v : Option α) (l r : Tr α)

/-! a number's place: 0 at the root; the odd to the left; by so much fuel: as much as the number -/
def Tr.getF {α : Type} (f : Nat) : Tr α → Nat → Option α :=
  Nat.rec (motive := fun _ => Tr α → Nat → Option α) (fun t _ => Tr.casesOn (motive := fun _ => Option α) t none (fun v _ _ => v))
    (fun _ ih t n => Tr.casesOn (motive := fun _ => Option α) t none (fun v l r => Bool.casesOn (motive := fun _ => Option α) (Nat.beq n 0) (Bool.casesOn (motive := fun _ => Option α) (Nat.beq (Nat.mod n 2) 0) (ih l (Nat.div n 2)) (ih r (Nat.pred (Nat.div n 2)))) v)) f
def Tr.setF {α : Type} (x : α) (f : Nat) : Tr α → Nat → Tr α :=
  Nat.rec (motive := fun _ => Tr α → Nat → Tr α) (fun t _ => Tr.casesOn (motive := fun _ => Tr α) t (.node (some x) .nil .nil) (fun _ l r => .node (some x) l r))
    (fun _ ih t n => Tr.casesOn (motive := fun _ => Tr α) t
      (Bool.casesOn (motive := fun _ => Tr α) (Nat.beq n 0) (Bool.casesOn (motive := fun _ => Tr α) (Nat.beq (Nat.mod n 2) 0) (.node none (ih .nil (Nat.div n 2)) .nil) (.node none .nil (ih .nil (Nat.pred (Nat.div n 2))))) (.node (some x) .nil .nil))
      (fun v l r => Bool.casesOn (motive := fun _ => Tr α) (Nat.beq n 0) (Bool.casesOn (motive := fun _ => Tr α) (Nat.beq (Nat.mod n 2) 0) (.node v (ih l (Nat.div n 2)) r) (.node v l (ih r (Nat.pred (Nat.div n 2))))) (.node (some x) l r))) f

theorem beq_dec (a b : Nat) : Nat.beq a b = decide (a = b) := by
  cases h : Nat.beq a b with
  | true => simp [Nat.eq_of_beq_eq_true h]
  | false => have := Nat.ne_of_beq_eq_false h; simp [this]
theorem pick_if {α : Type} (c : Bool) (a b : α) : Bool.casesOn (motive := fun _ => α) c a b = if c = true then b else a := by cases c <;> rfl

theorem Tr.getF_nil {α : Type} : ∀ (f n : Nat), Tr.getF f (.nil : Tr α) n = none
  | 0, _ => rfl
  | _ + 1, _ => rfl
theorem Tr.getF_node {α : Type} (f : Nat) (v : Option α) (l r : Tr α) (n : Nat) : Tr.getF (f + 1) (.node v l r) n = if n = 0 then v else if n % 2 = 0 then Tr.getF f r (n / 2 - 1) else Tr.getF f l (n / 2) := by
  have e : Tr.getF (f + 1) (.node v l r) n = Bool.casesOn (motive := fun _ => Option α) (Nat.beq n 0) (Bool.casesOn (motive := fun _ => Option α) (Nat.beq (Nat.mod n 2) 0) (Tr.getF f l (Nat.div n 2)) (Tr.getF f r (Nat.pred (Nat.div n 2)))) v := rfl
  rw [e, pick_if, pick_if, beq_dec, beq_dec]
  simp only [decide_eq_true_eq]
  rfl
theorem Tr.getF_zero {α : Type} (v : Option α) (l r : Tr α) (n : Nat) : Tr.getF 0 (.node v l r) n = v := rfl
theorem Tr.setF_nil {α : Type} (x : α) (f n : Nat) : Tr.setF x (f + 1) .nil n = if n = 0 then .node (some x) .nil .nil else if n % 2 = 0 then .node none .nil (Tr.setF x f .nil (n / 2 - 1)) else .node none (Tr.setF x f .nil (n / 2)) .nil := by
  have e : Tr.setF x (f + 1) .nil n = Bool.casesOn (motive := fun _ => Tr α) (Nat.beq n 0) (Bool.casesOn (motive := fun _ => Tr α) (Nat.beq (Nat.mod n 2) 0) (.node none (Tr.setF x f .nil (Nat.div n 2)) .nil) (.node none .nil (Tr.setF x f .nil (Nat.pred (Nat.div n 2))))) (.node (some x) .nil .nil) := rfl
  rw [e, pick_if, pick_if, beq_dec, beq_dec]
  simp only [decide_eq_true_eq]
  rfl
theorem Tr.setF_node {α : Type} (x : α) (f n : Nat) (v : Option α) (l r : Tr α) : Tr.setF x (f + 1) (.node v l r) n = if n = 0 then .node (some x) l r else if n % 2 = 0 then .node v l (Tr.setF x f r (n / 2 - 1)) else .node v (Tr.setF x f l (n / 2)) r := by
  have e : Tr.setF x (f + 1) (.node v l r) n = Bool.casesOn (motive := fun _ => Tr α) (Nat.beq n 0) (Bool.casesOn (motive := fun _ => Tr α) (Nat.beq (Nat.mod n 2) 0) (.node v (Tr.setF x f l (Nat.div n 2)) r) (.node v l (Tr.setF x f r (Nat.pred (Nat.div n 2))))) (.node (some x) l r) := rfl
  rw [e, pick_if, pick_if, beq_dec, beq_dec]
  simp only [decide_eq_true_eq]
  rfl

/-- so much fuel is enough for n -/
def Fit (f n : Nat) : Prop := n + 1 < 2 ^ (f + 1)
theorem Fit.zero {n : Nat} (h : Fit 0 n) : n = 0 := by unfold Fit at h; simp at h; omega
theorem Fit.left {f n : Nat} (h : Fit (f + 1) n) (hn : ¬ n % 2 = 0) : Fit f (n / 2) := by
  unfold Fit at h ⊢
  rw [Nat.pow_succ] at h
  omega
theorem Fit.right {f n : Nat} (h : Fit (f + 1) n) (h0 : ¬ n = 0) (hn : n % 2 = 0) : Fit f (n / 2 - 1) := by
  unfold Fit at h ⊢
  rw [Nat.pow_succ] at h
  omega
theorem fit_log (n : Nat) : Fit (Nat.log2 (n + 1)) n := Nat.lt_log2_self

theorem Tr.getF_setF {α : Type} (x : α) : ∀ (f g : Nat) (t : Tr α) (n k : Nat), Fit f n → Fit g k → Tr.getF g (Tr.setF x f t n) k = if k = n then some x else Tr.getF g t k
  | 0, g, t, n, k, h1, h2 => by
    have hn : n = 0 := h1.zero
    subst hn
    have e : ∃ l r, Tr.setF x 0 t 0 = .node (some x) l r ∧ ((t = .nil ∧ l = .nil ∧ r = .nil) ∨ ∃ v, t = .node v l r) := by
      cases t with
      | nil => exact ⟨_, _, rfl, .inl ⟨rfl, rfl, rfl⟩⟩
      | node v l r => exact ⟨_, _, rfl, .inr ⟨v, rfl⟩⟩
    obtain ⟨l, r, e, ht⟩ := e
    rw [e]
    cases g with
    | zero =>
      have hk : k = 0 := h2.zero
      subst hk; rw [if_pos rfl]; rfl
    | succ g =>
      rw [Tr.getF_node]
      by_cases hk : k = 0
      · rw [if_pos hk, if_pos hk]
      · rw [if_neg hk, if_neg hk]
        rcases ht with ⟨rfl, rfl, rfl⟩ | ⟨v, rfl⟩
        · rw [Tr.getF_nil, Tr.getF_nil, Tr.getF_nil, ite_self]
        · rw [Tr.getF_node, if_neg hk]
  | f + 1, g, t, n, k, h1, h2 => by
    have e : ∃ v l r, (t = .nil ∧ v = none ∧ l = .nil ∧ r = .nil ∨ t = .node v l r) ∧ Tr.setF x (f + 1) t n = if n = 0 then .node (some x) l r else if n % 2 = 0 then .node v l (Tr.setF x f r (n / 2 - 1)) else .node v (Tr.setF x f l (n / 2)) r := by
      cases t with
      | nil => exact ⟨none, .nil, .nil, .inl ⟨rfl, rfl, rfl, rfl⟩, Tr.setF_nil x f n⟩
      | node v l r => exact ⟨v, l, r, .inr rfl, Tr.setF_node x f n v l r⟩
    obtain ⟨v, l, r, ht, e⟩ := e
    have hget : ∀ g k, Fit g k → Tr.getF g t k = if k = 0 then v else if k % 2 = 0 then Tr.getF (g - 1) r (k / 2 - 1) else Tr.getF (g - 1) l (k / 2) := by
      intro g k hk
      rcases ht with ⟨rfl, rfl, rfl, rfl⟩ | rfl
      · simp only [Tr.getF_nil, ite_self]
      · cases g with
        | zero => have : k = 0 := hk.zero
                  subst this; rfl
        | succ g => rw [Tr.getF_node]; rfl
    rw [e, hget g k h2]
    cases g with
    | zero =>
      have hk : k = 0 := h2.zero
      subst hk
      by_cases hn : n = 0
      · subst hn; simp [Tr.getF_zero]
      · rw [if_neg hn, if_neg (Ne.symm hn)]
        split <;> simp [Tr.getF_zero]
    | succ g =>
      simp only [Nat.add_sub_cancel]
      by_cases hn : n = 0
      · subst hn
        rw [if_pos rfl, Tr.getF_node]
        by_cases hk : k = 0
        · rw [if_pos hk, if_pos hk]
        · rw [if_neg hk, if_neg hk, if_neg hk]
      · rw [if_neg hn]
        by_cases hm : n % 2 = 0
        · rw [if_pos hm, Tr.getF_node]
          by_cases hk : k = 0
          · rw [if_pos hk, if_pos hk, if_neg (by omega)]
          · rw [if_neg hk, if_neg hk]
            by_cases hk2 : k % 2 = 0
            · rw [if_pos hk2, if_pos hk2, Tr.getF_setF x f g r (n / 2 - 1) (k / 2 - 1) (h1.right hn hm) (h2.right hk hk2)]
              by_cases e : k = n
              · subst e; simp
              · rw [if_neg e, if_neg (by omega)]
            · rw [if_neg hk2, if_neg hk2, if_neg (by rintro rfl; exact hk2 hm)]
        · rw [if_neg hm, Tr.getF_node]
          by_cases hk : k = 0
          · rw [if_pos hk, if_pos hk, if_neg (by omega)]
          · rw [if_neg hk, if_neg hk]
            by_cases hk2 : k % 2 = 0
            · rw [if_pos hk2, if_pos hk2, if_neg (by rintro rfl; exact hm hk2)]
            · rw [if_neg hk2, if_neg hk2, Tr.getF_setF x f g l (n / 2) (k / 2) (h1.left hm) (h2.left hk2)]
              by_cases e : k = n
              · subst e; simp
              · rw [if_neg e, if_neg (by omega)]

def Tr.get {α : Type} (t : Tr α) (n : Nat) : Option α := Tr.getF (Nat.log2 (Nat.succ n)) t n
def Tr.set {α : Type} (f : Nat) (t : Tr α) (n : Nat) (x : α) : Tr α := Tr.setF x (Nat.log2 (Nat.succ n)) t n
theorem Tr.get_nil {α : Type} (n : Nat) : (Tr.nil : Tr α).get n = none := Tr.getF_nil _ _

theorem Tr.get_set {α : Type} (f : Nat) (t : Tr α) (n k : Nat) (x : α) : (Tr.set f t n x).get k = if k = n then some x else t.get k :=
  Tr.getF_setF x _ _ t n k (fit_log n) (fit_log k)

def Tr.setU (f : Nat) : Tr R → List (Nat × R) → Tr R
  | t, [] => t
  | t, (i, r) :: u => Tr.setU f (Tr.set f t i r) u

theorem Tr.get_setU (f : Nat) : ∀ (u : List (Nat × R)) (t : Tr R), (Tr.setU f t u).get = applyU t.get u
  | [], t => rfl
  | (i, r) :: u, t => by
    simp only [Tr.setU, applyU]
    rw [Tr.get_setU f u]
    congr 1
    funext k
    rw [Tr.get_set]; rfl

def Tr.fn (t : Tr A) : Nat → A := fun n => Option.casesOn (motive := fun _ => A) (Tr.get t n) .x (fun v => v)
theorem Tr.fn_def (t : Tr A) (n : Nat) : t.fn n = (t.get n).getD .x := by
  show (Option.casesOn (motive := fun _ => A) (Tr.get t n) .x (fun v => v) : A) = (Tr.get t n).getD .x
  cases Tr.get t n <;> rfl

theorem Tr.fn_set (f : Nat) (t : Tr A) (n : Nat) (x : A) : (Tr.set f t n x).fn = setT t.fn (some n) x := by
  funext k
  simp only [Tr.fn_def, Tr.get_set, setT]
  by_cases e : k = n
  · subst e; simp
  · have : ¬ (some n = some k) := fun h => e (by simpa using h.symm)
    simp [e, this]

def Tr.put (f : Nat) (t : Tr A) (d : Option Nat) (x : A) : Tr A := match d with
  | some n => Tr.set f t n x
  | none => t
theorem Tr.fn_put (f : Nat) (t : Tr A) (d : Option Nat) (x : A) : (t.put f d x).fn = setT t.fn d x := by
  cases d with
  | none => funext k; simp [Tr.put, setT]
  | some n => exact Tr.fn_set f t n x
end Go.Pv

namespace Go.Pv
open Go.RowKit
set_option linter.unusedVariables false
set_option linter.unusedSimpArgs false
set_option linter.constructorNameAsVariable false

/-- the blocks of live resources -/
def LiveB (m : Mem) (ρ : Nat → Value) (b : Nat) : Prop := ∃ i r, m i = some r ∧ r.live = true ∧ blk (ρ i) = some b

section
variable {M0 S0 : Nat → Prop} {w0 : World} {N : Fr} {T : Nat → A} {m : Mem} {ρ : Nat → Value} {a : Act} {w : World} {P : Program}

/-- a state, as of now -/
theorem SatAt.now (h : SatAt M0 S0 w0 N T m ρ a w) : SatAt M0 (LiveB m ρ) w N T m ρ a w :=
  { keeps := Keeps.refl _ _, size := h.size, defers := h.defers, tmps := h.tmps, res := h.res
    own := fun i r b hi hl hb => ⟨.inr ⟨i, r, hi, hl, hb⟩, (h.own i r b hi hl hb).2⟩, apart := h.apart }

theorem SatAt.evo (h : SatAt M0 S0 w0 N T m ρ a w) {N1 : Fr} {T1 : Nat → A} {m' : Mem} {ρ' : Nat → Value} {a1 : Act} {w' : World} (h1 : SatAt M0 (LiveB m ρ) w N1 T1 m' ρ' a1 w') :
    Stays (Mut M0 m ρ) w w' ∧ ∀ b, Mut M0 m' ρ' b → b < w.heap.size → Mut M0 m ρ b := by
  refine ⟨h1.keeps.stays fun b _ e => .inr e, ?_⟩
  rintro b (e | ⟨i, r, hi, hl, hb⟩) hlt
  · exact .inl e
  · rcases (h1.own i r b hi hl hb).1 with q | q
    · omega
    · exact .inr q

/-- after a call: the caller's frame goes on -/
theorem SatAt.back (h : SatAt M0 S0 w0 N T m ρ a w) {N1 : Fr} {T1 : Nat → A} {m' : Mem} {ρ' : Nat → Value} {a1 : Act} {w' : World} (h1 : SatAt M0 (LiveB m ρ) w N1 T1 m' ρ' a1 w') (hO : Onto m m' ρ ρ') : SatAt M0 S0 w0 N T m' ρ' a w' := by
  obtain ⟨e1, e2⟩ := h.evo h1
  have hown : ∀ b, LiveB m ρ b → w0.heap.size ≤ b ∨ S0 b := fun b ⟨i, r, hi, hl, hb⟩ => (h.own i r b hi hl hb).1
  exact { keeps := h.keeps.trans h1.keeps fun b hb e => (hown b e).resolve_left (by omega), size := h.size
          defers := fun ds e => DefsDen_mono e1 e2 hO _ _ (h.defers ds e)
          tmps := fun n => A.Den_mono e1 e2 hO _ _ (h.tmps n)
          res := h1.res
          own := fun i r b hi hl hb => by
            obtain ⟨x, y, z⟩ := h1.own i r b hi hl hb
            refine ⟨?_, y, z⟩
            rcases x with x | x
            · exact .inl (Nat.le_trans h.keeps.size x)
            · exact hown b x
          apart := h1.apart }
end

/-- a function's results -/
def resA (P : Program) (m : Mem) (T : Nat → A) : ResultVar → Option A
  | .tmp t => some (T t)
  | .cell ad t => match effLoad P m t (T ad) with
    | some (true, v, _) => some v
    | _ => none
def resL (P : Program) (m : Mem) (T : Nat → A) : List ResultVar → Option (List A)
  | [] => some []
  | r :: rs => match resA P m T r, resL P m T rs with
    | some v, some vs => some (v :: vs)
    | _, _ => none
def resV (P : Program) (m : Mem) (T : Nat → A) (rs : List ResultVar) : Option A :=
  match resL P m T rs with
  | some [v] => some v
  | some vs => some (.tup vs)
  | none => none

section
variable {M0 S0 : Nat → Prop} {w0 : World} {N : Fr} {T : Nat → A} {m : Mem} {ρ : Nat → Value} {a : Act} {w : World} {P : Program}

theorem resL_run (h : SatAt M0 S0 w0 N T m ρ a w) : ∀ {rs : List ResultVar} {vs : List A}, resL P m T rs = some vs →
    ∃ ys : List Value, (rs.mapM fun r => (match r with | .tmp t => pure (a.tmps.getD t undef) | .cell ad t => (do loadVar t (← asAddr (a.tmps.getD ad undef))) : Sem Value)).run P w = .ok ys w ∧ A.DenL w (Mut M0 m ρ) m ρ vs ys
  | [], vs, hr => by
    simp only [resL, Option.some.injEq] at hr; subst hr
    exact ⟨[], by simp, by simp [A.DenL]⟩
  | r :: rs, vs, hr => by
    simp only [resL] at hr
    split at hr
    · rename_i v vs' h1 h2
      simp only [Option.some.injEq] at hr; subst hr
      obtain ⟨ys, k1, k2⟩ := resL_run h h2
      have key : ∃ y, ((match r with | .tmp t => pure (a.tmps.getD t undef) | .cell ad t => (do loadVar t (← asAddr (a.tmps.getD ad undef))) : Sem Value)).run P w = .ok y w ∧ v.Den w (Mut M0 m ρ) m ρ y := by
        cases r with
        | tmp t =>
          simp only [resA, Option.some.injEq] at h1; subst h1
          exact ⟨_, by simp, h.tmps t⟩
        | cell ad t =>
          simp only [resA] at h1
          split at h1
          · rename_i v' u he
            simp only [Option.some.injEq] at h1; subst h1
            obtain ⟨_, z, q1, q2⟩ := sd_load (P := P) h (h.tmps ad) he rfl
            refine ⟨z, ?_, q2⟩
            simp only [Instr.loadAt] at q1
            have hp : ∃ ad', a.tmps.getD ad undef = .pointer (some ad') := by
              generalize a.tmps.getD ad undef = y at q1
              cases y <;> simp [Instr.sureAddr, asAddr] at q1
              rename_i o; cases o with
              | none => simp [Instr.sureAddr, asAddr] at q1
              | some d => exact ⟨d, rfl⟩
            obtain ⟨d, hd⟩ := hp
            simp only [hd] at q1 ⊢
            simpa [Instr.sureAddr, asAddr] using q1
          · cases h1
      obtain ⟨y, q1, q2⟩ := key
      refine ⟨y :: ys, ?_, by simp only [A.DenL]; exact ⟨y, ys, rfl, q2, k2⟩⟩
      rw [List.mapM_cons]
      simp only [Sem.run_bind, q1, Result.andThen_ok, k1, Sem.run_pure]
    · cases hr
end

section
variable {M0 S0 : Nat → Prop} {w0 : World} {N : Fr} {T : Nat → A} {m : Mem} {ρ : Nat → Value} {a : Act} {w : World} {P : Program}

theorem results_run (h : SatAt M0 S0 w0 N T m ρ a w) {fn : Func} {v : A} (hr : resV P m T fn.results.toList = some v) : ∃ y, (results fn a.tmps).run P w = .ok y w ∧ v.Den w (Mut M0 m ρ) m ρ y := by
  unfold resV at hr
  have key : ∀ {vs : List A}, resL P m T fn.results.toList = some vs → ∃ ys : List Value, (results fn a.tmps).run P w = .ok (if h : ys.toArray.size = 1 then ys.toArray[0] else .tuple ys.toArray) w ∧ A.DenL w (Mut M0 m ρ) m ρ vs ys := by
    intro vs hl
    obtain ⟨ys, k1, k2⟩ := resL_run h hl
    refine ⟨ys, ?_, k2⟩
    unfold results
    have e : fn.results = fn.results.toList.toArray := by simp
    rw [Sem.run_bind]
    conv => lhs; rw [e, List.mapM_toArray]
    rw [Sem.run_map]
    erw [k1]
    simp
  split at hr
  · rename_i v' hl
    simp only [Option.some.injEq] at hr; subst hr
    obtain ⟨ys, k1, k2⟩ := key hl
    simp only [A.DenL] at k2
    obtain ⟨y, yr, rfl, k3, rfl⟩ := k2
    exact ⟨y, by simpa using k1, k3⟩
  · rename_i vs hne hl
    simp only [Option.some.injEq] at hr; subst hr
    obtain ⟨ys, k1, k2⟩ := key hl
    have hlen := (A.DenL_iff.1 k2).1
    have h1 : ys.length ≠ 1 := by
      intro e
      rw [e] at hlen
      match vs, hlen, hne with
      | [v], _, hne => exact hne v rfl
    exact ⟨.tuple ys.toArray, by rw [k1]; simp [h1], by simp only [A.Den]; exact ⟨_, rfl, by simpa using k2⟩⟩
  · cases hr
end

mutual
theorem A.hs_dom {w : World} {M : Nat → Prop} {m : Mem} {ρ : Nat → Value} : ∀ (a : A) (y : Value), a.Den w M m ρ y → ∀ i ∈ a.hs, m i ≠ none
  | .d c, y, _, i, hi => by simp [A.hs] at hi
  | .lp j off, y, hd, i, hi => by simp [A.hs] at hi; subst hi; simp only [A.Den] at hd; exact hd.1
  | .h j, y, hd, i, hi => by simp [A.hs] at hi; subst hi; simp only [A.Den] at hd; exact hd.1
  | .ep j es k off, y, hd, i, hi => by simp [A.hs] at hi; subst hi; simp only [A.Den] at hd; exact hd.1
  | .sv j lo n, y, hd, i, hi => by simp [A.hs] at hi; subst hi; simp only [A.Den] at hd; exact hd.1
  | .fn f u v, y, hd, i, hi => by
    simp only [A.Den] at hd
    obtain ⟨us, vs, _, h1, h2⟩ := hd
    simp only [A.hs, List.mem_append] at hi
    exact hi.elim (A.hsL_dom u _ h1 i) (A.hsL_dom v _ h2 i)
  | .agg l, y, hd, i, hi => by
    simp only [A.Den] at hd
    obtain ⟨vs, _, _, h1⟩ := hd
    simp only [A.hs] at hi
    exact A.hsL_dom l _ h1 i hi
  | .tup l, y, hd, i, hi => by
    simp only [A.Den] at hd
    obtain ⟨vs, _, h1⟩ := hd
    simp only [A.hs] at hi
    exact A.hsL_dom l _ h1 i hi
  | .ifc t a, y, hd, i, hi => by
    simp only [A.Den] at hd
    obtain ⟨v, _, h1⟩ := hd
    simp only [A.hs] at hi
    exact A.hs_dom a _ h1 i hi
  | .x, y, _, i, hi => by simp [A.hs] at hi
theorem A.hsL_dom {w : World} {M : Nat → Prop} {m : Mem} {ρ : Nat → Value} : ∀ (l : List A) (ys : List Value), A.DenL w M m ρ l ys → ∀ i ∈ A.hsL l, m i ≠ none
  | [], ys, _, i, hi => by simp [A.hsL] at hi
  | c :: r, ys, hd, i, hi => by
    simp only [A.DenL] at hd
    obtain ⟨y, yr, _, h1, h2⟩ := hd
    simp only [A.hsL, List.mem_append] at hi
    exact hi.elim (A.hs_dom c _ h1 i) (A.hsL_dom r _ h2 i)
end

theorem R.hs_dom {w : World} {M : Nat → Prop} {m : Mem} {ρ : Nat → Value} {h : Value} {r : R} (hr : r.Ok w M m ρ h) : ∀ i ∈ r.hs, m i ≠ none := by
  intro i hi
  cases r with
  | dead => simp [R.hs] at hi
  | cells fz l => obtain ⟨_, _, _, _, _, h2, _⟩ := hr; exact A.hsL_dom _ _ h2 i (by simpa [R.hs] using hi)
  | osl fz t es l => obtain ⟨_, _, h2, _⟩ := hr; exact A.hsL_dom _ _ h2 i (by simpa [R.hs] using hi)
  | mp fz kv st =>
    obtain ⟨_, _, _, _, _, _, _, h3, _, h5⟩ := hr
    simp only [R.hs, List.mem_append] at hi
    rcases hi with hi | hi
    · exact A.hsL_dom _ _ h3 i hi
    · obtain ⟨p, hp, rfl⟩ := List.mem_map.1 hi; exact (h5 p hp).1
  | fr l => obtain ⟨_, _, h2⟩ := hr; exact A.hsL_dom _ _ h2 i (by simpa [R.hs] using hi)
  | lo _ _ _ _ _ _ => obtain ⟨_, _, _, _, _, _, h2⟩ := hr; exact A.hsL_dom _ _ h2 i (by simpa [R.hs] using hi)
  | it j sc start seen =>
    obtain ⟨_, _, _, _, _, _, h1, h2, h3⟩ := hr
    simp only [R.hs, List.mem_cons] at hi
    rcases hi with rfl | rfl | hi
    · exact h1.1
    · exact h2.1
    · exact h3.2.1 i hi
  | cu src es l =>
    obtain ⟨_, _, h1, _, h3⟩ := hr
    simp only [R.hs, List.mem_append] at hi
    rcases hi with hi | hi
    · exact A.hs_dom _ _ h1 i hi
    · rcases h3 with rfl | ⟨_, _, _, _, _, _, h6, _⟩
      · simp [A.hsL] at hi
      · exact A.hsL_dom _ _ h6 i hi
  | _ => simp [R.hs] at hi

def DA.hs : DA → List Nat
  | .call _ as cs => A.hsL as ++ A.hsL cs
  | .coll i => [i]
  | .bi _ _ _ _ as => A.hsL as

section
variable {M0 S0 : Nat → Prop} {w0 : World} {N : Fr} {T : Nat → A} {m : Mem} {ρ : Nat → Value} {a : Act} {w : World} {P : Program}

theorem defs_dom {w : World} {M : Nat → Prop} {m : Mem} {ρ : Nat → Value} : ∀ {ds : List DA} {l : List Deferred}, DefsDen w M m ρ ds l → ∀ d ∈ ds, ∀ i ∈ d.hs, m i ≠ none
  | [], l, _, d, hd, i, hi => by simp at hd
  | .call f as cs :: r, l, ⟨vs, us, rest, _, h1, h2, h3⟩, d, hd, i, hi => by
    simp only [List.mem_cons] at hd
    rcases hd with rfl | hd
    · simp only [DA.hs, List.mem_append] at hi
      exact hi.elim (A.hsL_dom _ _ h1 i) (A.hsL_dom _ _ h2 i)
    · exact defs_dom h3 d hd i hi
  | .bi b tys ty cs as :: r, l, ⟨vs, rest, _, h1, h3⟩, d, hd, i, hi => by
    simp only [List.mem_cons] at hd
    rcases hd with rfl | hd
    · simp only [DA.hs] at hi
      exact A.hsL_dom _ _ h1 i hi
    · exact defs_dom h3 d hd i hi
  | .coll k :: r, l, ⟨D, rest, _, h1, h3⟩, d, hd, i, hi => by
    simp only [List.mem_cons] at hd
    rcases hd with rfl | hd
    · simp only [DA.hs, List.mem_singleton] at hi
      subst hi; exact h1.1
    · exact defs_dom h3 d hd i hi

theorem DefsDen_restrict {w : World} {M : Nat → Prop} {m m1 : Mem} {ρ : Nat → Value} (hm : ∀ i r, m1 i = some r → m i = some r) : ∀ {ds : List DA} {l : List Deferred}, (∀ d ∈ ds, ∀ i ∈ d.hs, m1 i ≠ none) → DefsDen w M m ρ ds l → DefsDen w M m1 ρ ds l
  | [], l, _, h => h
  | .call f as cs :: r, l, hi, ⟨vs, us, rest, h0, h1, h2, h3⟩ =>
    ⟨vs, us, rest, h0, A.DenL_restrict hm _ _ (fun i hii => hi (.call f as cs) (by simp) i (by simp [DA.hs, hii])) h1, A.DenL_restrict hm _ _ (fun i hii => hi (.call f as cs) (by simp) i (by simp [DA.hs, hii])) h2, DefsDen_restrict hm (fun d hd => hi d (by simp [hd])) h3⟩
  | .bi b tys ty cs as :: r, l, hi, ⟨vs, rest, h0, h1, h3⟩ =>
    ⟨vs, rest, h0, A.DenL_restrict hm _ _ (fun i hii => hi (.bi b tys ty cs as) (by simp) i (by simp [DA.hs, hii])) h1, DefsDen_restrict hm (fun d hd => hi d (by simp [hd])) h3⟩
  | .coll k :: r, l, hi, ⟨D, rest, h0, h1, h3⟩ =>
    ⟨D, rest, h0, h1.restrict hm (hi (.coll k) (by simp) k (by simp [DA.hs])) fun _ q => q, DefsDen_restrict hm (fun d hd => hi d (by simp [hd])) h3⟩

/-- resources are forgotten -/
theorem SatAt.drop (h : SatAt M0 S0 w0 N T m ρ a w) {m1 : Mem} (hm : ∀ i r, m1 i = some r → m i = some r) (hT : ∀ n, ∀ i ∈ (T n).hs, m1 i ≠ none) (hds : ∀ ds, N.ds = some ds → ∀ d ∈ ds, ∀ i ∈ d.hs, m1 i ≠ none) (hcl : ∀ i r, m1 i = some r → ∀ j ∈ r.hs, m1 j ≠ none) : SatAt M0 S0 w0 N T m1 ρ a w := by
  have hmu : ∀ b, Mut M0 m1 ρ b → b < w.heap.size → Mut M0 m ρ b := by
    rintro b (e | ⟨i, r, h1, h2, h3⟩) _
    · exact .inl e
    · exact .inr ⟨i, r, hm i r h1, h2, h3⟩
  have hmono : ∀ {x : A} {y : Value}, x.Den w (Mut M0 m ρ) m1 ρ y → x.Den w (Mut M0 m1 ρ) m1 ρ y := fun {x y} hd => A.Den_mono (Stays.refl _ w) hmu (Onto.refl m1 ρ) _ _ hd
  exact { keeps := h.keeps, size := h.size
          defers := fun ds e => DefsDen_mono (Stays.refl _ w) hmu (Onto.refl m1 ρ) _ _ (DefsDen_restrict hm (hds ds e) (h.defers ds e))
          tmps := fun n => hmono (A.Den_restrict hm _ _ (hT n) (h.tmps n))
          res := fun i r hi => R.Ok_mono (Stays.refl _ w) hmu (Onto.refl m1 ρ) (fun _ _ _ => rfl) (R.Ok_restrict hm (hcl i r hi) (h.res i r (hm i r hi)))
          own := fun i r b hi hl hb => h.own i r b (hm i r hi) hl hb
          apart := fun i j r s b hi l1 hj l2 b1 b2 => h.apart i j r s b (hm i r hi) l1 (hm j s hj) l2 b1 b2 }
end

theorem applyU_cases : ∀ {u : List (Nat × R)} {m : Mem} {i : Nat} {r : R}, applyU m u i = some r → (i, r) ∈ u ∨ m i = some r
  | [], m, i, r, h => .inr h
  | (j, q) :: t, m, i, r, h => by
    simp only [applyU] at h
    rcases applyU_cases h with h | h
    · exact .inl (by simp [h])
    · unfold setM at h
      split at h
      · rename_i e; simp at h; subst h; subst e; exact .inl (by simp)
      · exact .inr h

theorem applyU_ne : ∀ {u : List (Nat × R)} {m : Mem} {i : Nat}, m i ≠ none → applyU m u i ≠ none
  | [], m, i, h => h
  | (j, q) :: t, m, i, h => by
    simp only [applyU]
    refine applyU_ne ?_
    unfold setM; split
    · simp
    · exact h


/-- how a call ends -/
inductive Rt where
  | ok (a : A)
  | pan (a : A)
  deriving Inhabited
def Rt.hs : Rt → List Nat
  | .ok a => a.hs
  | .pan a => a.hs
def Rt.Den (w : World) (M : Nat → Prop) (m : Mem) (ρ : Nat → Value) : Rt → Ending → Prop
  | .ok a, e => ∃ y, e = .returned y ∧ a.Den w M m ρ y
  | .pan a, e => ∃ y, e = .panicked [{ v := y, recovered := false }] ∧ a.Den w M m ρ y

/-- a call of f at arguments as ends in r, and takes the resources m to m' -/
def CallT (P : Program) (f : FuncId) (as : List A) (m : Mem) (r : Rt) (m' : Mem) : Prop :=
  callable P f = true ∧ ∀ (N : Fr) (T : Nat → A) (M0 S0 : Nat → Prop) (w0 : World) (ρ : Nat → Value) (a : Act) (w : World), SatAt M0 S0 w0 N T m ρ a w → (∀ b, M0 b → b < w0.heap.size) →
    ∀ vs : List Value, A.DenL w (Mut M0 m ρ) m ρ as vs → Calls P f vs.toArray w fun e w' => ∃ ρ', SatAt M0 S0 w0 N T m' ρ' a w' ∧ Onto m m' ρ ρ' ∧ r.Den w' (Mut M0 m' ρ') m' ρ' e

abbrev Ot := Rt × List (Nat × R)

/-- an operation comes to one of several -/
def OpN (P : Program) (o : Oper) (T : Nat → A) (m : Mem) (outs : List Ot) : Prop :=
  ∀ (ro : Option Nat) (N : Fr) (M0 S0 : Nat → Prop) (w0 : World) (ρ : Nat → Value) (a : Act) (w : World), SatAt M0 S0 w0 N T m ρ a w → (∀ b, M0 b → b < w0.heap.size) →
    ∀ (next : Act → World → Prop) (Q : Exit → Act → World → Prop),
      (∀ (u : Ot) (y : Value) (w' : World) (ρ' : Nat → Value), u ∈ outs → SatAt M0 S0 w0 N T (applyU m u.2) ρ' a w' → Onto m (applyU m u.2) ρ ρ' →
        (∀ v, u.1 = .ok v → v.Den w' (Mut M0 (applyU m u.2) ρ') (applyU m u.2) ρ' y → next (a.put o.dst y) w') ∧
        (∀ v, u.1 = .pan v → v.Den w' (Mut M0 (applyU m u.2) ρ') (applyU m u.2) ρ' y → Q (.panic [{ v := y, recovered := false }]) a w')) → o.wpIn (FW ro) 0 P a w next Q

theorem OpN.one {P : Program} {o : Oper} {T : Nat → A} {m : Mem} {v : A} {u : List (Nat × R)} (h : OpT P o T m v (applyU m u)) : OpN P o T m [(.ok v, u)] := by
  intro ro N M0 S0 w0 ρ a w hs hlt next Q hn
  exact h ro N M0 S0 w0 ρ a w hs hlt next Q fun y w' ρ' h1 h2 h3 => (hn (.ok v, u) y w' ρ' (by simp) h1 h2).1 v rfl h3

theorem OpN.next {P : Program} {o : Oper} {T : Nat → A} {m : Mem} {x : Operand} {b : Bool} {outs : List Out} (ho : o.op = .next x b) (he : effNext m (evT T x) b = some (true, outs)) : OpN P o T m (outs.map fun u => (.ok u.1, u.2)) := by
  intro ro N M0 S0 w0 ρ a w hs hlt next Q hn
  obtain ⟨u, hu, y, w', hr, h1, h2, h3⟩ := sd_next (P := P) (ty := o.type) hs (ev_den hs x) he rfl
  refine wpIn_val (res := .value y) (w' := w') (by unfold noDefer; rw [ho]) (by simp [execOp, ho, hr]) (.inl rfl) ?_
  exact (hn (.ok u.1, u.2) y w' ρ (List.mem_map.2 ⟨u, hu, rfl⟩) h1 h2).1 u.1 rfl h3

/-- the call as an operation -/
theorem OpN.call {P : Program} {o : Oper} {T : Nat → A} {m : Mem} {u : List (Nat × R)} {c : Call} {f : FuncId} {as : List A} {r : Rt} (ho : o.op = .call c) (hc : callArgs T c = some (f, as)) (hp : CallT P f as m r (applyU m u)) : OpN P o T m [(r, u)] := by
  intro ro N M0 S0 w0 ρ a w h hlt next Q hn
  obtain ⟨vs, hr, hd⟩ := call_run h ho hc hp.1
  refine wpIn_enter (by unfold noDefer; rw [ho]) hr ((hp.2 N T M0 S0 w0 ρ a w h hlt vs hd).mono ?_)
  rintro e w' ⟨ρ', h1, h2, h3⟩
  cases r with
  | ok v =>
    obtain ⟨y, rfl, h4⟩ := h3
    exact .inl ⟨y, rfl, (hn (.ok v, u) y w' ρ' (by simp) h1 h2).1 v rfl h4⟩
  | pan v =>
    obtain ⟨y, rfl, h4⟩ := h3
    exact .inr ⟨_, rfl, (hn (.pan v, u) y w' ρ' (by simp) h1 h2).2 v rfl h4⟩

/-- the arguments as temporaries -/
def argsT (as : List A) : Nat → A := fun n => (as[n]?).getD .x
end Go.Pv

namespace Go.Pv
open Go.RowKit
set_option linter.unusedVariables false
set_option linter.unusedSimpArgs false
set_option linter.constructorNameAsVariable false

/-- ways out of code -/
inductive Ex where
  | nm
  | ext (id : Nat)
  | ret
  | pan (a : A)
  deriving Inhabited
def Ex.Den (w : World) (M : Nat → Prop) (m : Mem) (ρ : Nat → Value) : Ex → Exit → Prop
  | .nm, e => e = .normal
  | .ext id, e => e = .exit id
  | .ret, e => e = .ret
  | .pan a, e => ∃ y, e = .panic [{ v := y, recovered := false }] ∧ a.Den w M m ρ y
def Ex.isNm : Ex → Bool
  | .nm => true
  | _ => false

abbrev PostT := Ex → (Nat → A) → Mem → List DA → Prop

/-- what code comes to, in a round of a loop (rd) or in none: Post tells the ways out, with temporaries, resources, deferred calls -/
def CodeT (P : Program) (rd : Bool) (n : Nat) (c : Code) (T : Nat → A) (m : Mem) (ds : List DA) (Post : PostT) : Prop :=
  ∀ (ro : Option Nat) (M0 S0 : Nat → Prop) (w0 : World) (ρ : Nat → Value) (a : Act) (w : World), ro.isSome = rd → SatAt M0 S0 w0 ⟨n, some ds⟩ T m ρ a w → (∀ b, M0 b → b < w0.heap.size) →
    ∀ Q : Exit → Act → World → Prop, (∀ ex e T' m' ds' ρ' a' w', Post ex T' m' ds' → SatAt M0 S0 w0 ⟨n, some ds'⟩ T' m' ρ' a' w' → Onto m m' ρ ρ' → ex.Den w' (Mut M0 m' ρ') m' ρ' e → Q e a' w') → c.wpIn (FW ro) 0 P Q a w

section
variable {P : Program} {rd : Bool} {n : Nat} {T : Nat → A} {m : Mem} {ds : List DA} {Post : PostT}

theorem CodeT.mono {c : Code} {Post1 : PostT} (h : CodeT P rd n c T m ds Post1) (hp : ∀ ex T' m' ds', Post1 ex T' m' ds' → Post ex T' m' ds') : CodeT P rd n c T m ds Post := by
  intro ro M0 S0 w0 ρ a w hro hs hlt Q hQ
  exact h ro M0 S0 w0 ρ a w hro hs hlt Q fun ex e T' m' ds' ρ' a' w' q => hQ ex e T' m' ds' ρ' a' w' (hp _ _ _ _ q)

theorem CodeT.skip (h : Post .nm T m ds) : CodeT P rd n .skip T m ds Post := by
  intro ro M0 S0 w0 ρ a w hro hs hlt Q hQ
  exact wpIn_skip (hQ .nm _ T m ds ρ a w h hs (Onto.refl m ρ) rfl)

theorem CodeT.label {l : Nat} (h : Post .nm T m ds) : CodeT P rd n (.label l) T m ds Post := by
  intro ro M0 S0 w0 ρ a w hro hs hlt Q hQ
  exact wpIn_label (hQ .nm _ T m ds ρ a w h hs (Onto.refl m ρ) rfl)

theorem CodeT.exit {id : Nat} (h : Post (.ext id) T m ds) : CodeT P rd n (.exit id) T m ds Post := by
  intro ro M0 S0 w0 ρ a w hro hs hlt Q hQ
  exact wpIn_exit (hQ (.ext id) _ T m ds ρ a w h hs (Onto.refl m ρ) rfl)

theorem CodeT.ret (h : Post .ret T m ds) : CodeT P rd n .ret T m ds Post := by
  intro ro M0 S0 w0 ρ a w hro hs hlt Q hQ
  exact wpIn_ret (hQ .ret _ T m ds ρ a w h hs (Onto.refl m ρ) rfl)

theorem ex_nm {w : World} {M : Nat → Prop} {ρ : Nat → Value} {ex : Ex} {e : Exit} (h : ex.Den w M m ρ e) : (ex.isNm = true → ex = .nm ∧ e = .normal) ∧ (ex.isNm = false → e ≠ .normal) := by
  cases ex with
  | nm => exact ⟨fun _ => ⟨rfl, h⟩, fun q => by cases q⟩
  | ext id => exact ⟨fun q => (by cases q), fun _ => by rw [h]; simp⟩
  | ret => exact ⟨fun q => (by cases q), fun _ => by rw [h]; simp⟩
  | pan a => exact ⟨fun q => (by cases q), fun _ => by obtain ⟨y, h, _⟩ := h; rw [h]; simp⟩

theorem CodeT.seq {x y : Code} {Post1 : PostT} (h : CodeT P rd n x T m ds Post1) (h1 : ∀ T' m' ds', Post1 .nm T' m' ds' → CodeT P rd n y T' m' ds' Post) (h2 : ∀ ex T' m' ds', ex.isNm = false → Post1 ex T' m' ds' → Post ex T' m' ds') : CodeT P rd n (.seq x y) T m ds Post := by
  intro ro M0 S0 w0 ρ a w hro hs hlt Q hQ
  refine wpIn_seq (h ro M0 S0 w0 ρ a w hro hs hlt _ ?_)
  intro ex e T' m' ds' ρ' a' w' hp h' hO hd
  cases hx : ex.isNm with
  | true =>
    obtain ⟨rfl, rfl⟩ := (ex_nm hd).1 hx
    exact h1 T' m' ds' hp ro M0 S0 w0 ρ' a' w' hro h' hlt Q fun ex e T2 m2 ds2 ρ2 a2 w2 q s o => hQ ex e T2 m2 ds2 ρ2 a2 w2 q s (hO.trans o)
  | false =>
    have hne := (ex_nm hd).2 hx
    have := hQ ex e T' m' ds' ρ' a' w' (h2 ex T' m' ds' hx hp) h' hO hd
    cases e <;> first | exact this | exact absurd rfl hne

theorem CodeT.cond {c : Operand} {x y : Code} {b : Bool} (hc : evT T c = .d (.v (.bool b))) (h : CodeT P rd n (if b then x else y) T m ds Post) : CodeT P rd n (.cond c x y) T m ds Post := by
  intro ro M0 S0 w0 ρ a w hro hs hlt Q hQ
  have hd := ev_den hs c
  rw [hc] at hd
  simp only [A.Den, C.Den] at hd
  exact wpIn_cond hd (h ro M0 S0 w0 ρ a w hro hs hlt Q hQ)

/-- a way out, seen behind the block -/
def inB (id : Nat) : Ex → Ex
  | .ext i => if i = id then .nm else .ext i
  | e => e

theorem CodeT.block {id : Nat} {c : Code} {Post1 : PostT} (h : CodeT P rd n c T m ds Post1) (h1 : ∀ ex T' m' ds', Post1 ex T' m' ds' → Post (inB id ex) T' m' ds') : CodeT P rd n (.block id c) T m ds Post := by
  intro ro M0 S0 w0 ρ a w hro hs hlt Q hQ
  refine wpIn_block (h ro M0 S0 w0 ρ a w hro hs hlt _ ?_)
  intro ex e T' m' ds' ρ' a' w' hp h' hO hd
  have := fun e => hQ _ e T' m' ds' ρ' a' w' (h1 ex T' m' ds' hp) h' hO
  cases ex with
  | ext id' =>
    simp only [Ex.Den] at hd; subst hd
    simp only [Exit.inBlock, inB] at this ⊢
    by_cases e : id' = id
    · simp only [e, if_true] at this ⊢; exact this _ rfl
    · simp only [e, if_false] at this ⊢; exact this _ rfl
  | nm => simp only [Ex.Den] at hd; subst hd; exact this _ rfl
  | ret => simp only [Ex.Den] at hd; subst hd; exact this _ rfl
  | pan v => obtain ⟨y, rfl, hy⟩ := hd; exact this _ ⟨y, rfl, hy⟩

/-- a loop, by so many rounds -/
def LoopT (P : Program) (rd : Bool) (n : Nat) (c : Code) (Post : PostT) : Nat → (Nat → A) → Mem → List DA → Prop
  | 0, _, _, _ => False
  | k + 1, T, m, ds => ∃ Post1, CodeT P rd n c T m ds Post1 ∧ (∀ T' m' ds', Post1 .nm T' m' ds' → LoopT P rd n c Post k T' m' ds') ∧ ∀ ex T' m' ds', ex.isNm = false → Post1 ex T' m' ds' → Post ex T' m' ds'

theorem wpIn_loop_ghost {F : Fence} {n : Nat} {P : Program} {Q : Exit → Act → World → Prop} {a : Act} {w : World} {c : Code} (I : Nat → Act → World → Prop) (k : Nat) (h0 : I k a w)
    (round : ∀ j a w, I j a w → c.wpIn F n P (Exit.then (fun a' w' => ∃ i, i < j ∧ I i a' w') Q) a w) : (Code.loop c).wpIn F n P Q a w := by
  intro b kk cs hro hb hr
  have key : ∀ j a w, I j a w →
      ∃ e a' w', Q e a' w' ∧ ArrivesIn (Machine.fenced P F) P (lone (b.atR a (.code c :: .inLoop c :: kk)) cs w) b kk cs e a' w' := by
    intro j
    induction j using Nat.strongRecOn with
    | _ j ih =>
      intro a w hI
      obtain ⟨e, a₁, w₁, hq, harr⟩ := round j a w hI b (.inLoop c :: kk) cs hro hb hr
      cases e with
      | normal =>
        obtain ⟨i, hlt, hI₁⟩ := hq
        obtain ⟨e₂, a₂, w₂, hq₂, harr₂⟩ := ih i hlt a₁ w₁ hI₁
        exact ⟨e₂, a₂, w₂, hq₂, .of_steps (StepsIn.trans harr (.one (fenced_calm hb hr rfl) stepR_inLoop)) harr₂⟩
      | exit id => exact ⟨_, a₁, w₁, hq, .pass (x := .inLoop c) rfl (fun _ _ => .inl (by simp)) harr⟩
      | goto l => exact ⟨_, a₁, w₁, hq, .pass (x := .inLoop c) rfl (fun _ _ => .inl (by simp)) harr⟩
      | ret => exact ⟨_, a₁, w₁, hq, .pass (x := .inLoop c) rfl (fun _ _ => .inl (by simp)) harr⟩
      | panic ch => exact ⟨_, a₁, w₁, hq, .pass (x := .inLoop c) rfl (fun _ _ => .inl (by simp)) harr⟩
      | outgrown => exact ⟨_, a₁, w₁, hq, .pass (x := .inLoop c) rfl (fun _ _ => .inl (by simp)) harr⟩
  obtain ⟨e, a', w', hq, harr⟩ := key k a w h0
  exact ⟨e, a', w', hq, .of_steps (.one (fenced_calm hb hr rfl) stepR_loop) harr⟩

theorem CodeT.loop {c : Code} {k : Nat} (h : LoopT P rd n c Post k T m ds) : CodeT P rd n (.loop c) T m ds Post := by
  intro ro M0 S0 w0 ρ a w hro hs hlt Q hQ
  refine wpIn_loop_ghost (fun j a' w' => ∃ T' m' ds' ρ', LoopT P rd n c Post j T' m' ds' ∧ SatAt M0 S0 w0 ⟨n, some ds'⟩ T' m' ρ' a' w' ∧ Onto m m' ρ ρ') k ⟨T, m, ds, ρ, h, hs, Onto.refl m ρ⟩ ?_
  rintro j a' w' ⟨T', m', ds', ρ', hL, hs', hO⟩
  cases j with
  | zero => exact hL.elim
  | succ j =>
    obtain ⟨Post1, h1, h2, h3⟩ := hL
    refine h1 ro M0 S0 w0 ρ' a' w' hro hs' hlt _ ?_
    intro ex e T2 m2 ds2 ρ2 a2 w2 hp h' hO2 hd
    cases hx : ex.isNm with
    | true =>
      obtain ⟨rfl, rfl⟩ := (ex_nm hd).1 hx
      exact ⟨j, Nat.lt_succ_self j, T2, m2, ds2, ρ2, h2 T2 m2 ds2 hp, h', hO.trans hO2⟩
    | false =>
      have hne := (ex_nm hd).2 hx
      have := hQ ex e T2 m2 ds2 ρ2 a2 w2 (h3 ex T2 m2 ds2 hx hp) h' (hO.trans hO2) hd
      cases e <;> first | exact this | exact absurd rfl hne

/-- a deferred call -/
def OpD (P : Program) (o : Oper) (T : Nat → A) (m : Mem) (da : DA) : Prop :=
  ∀ (N : Fr) (M0 S0 : Nat → Prop) (w0 : World) (ρ : Nat → Value) (a : Act) (w : World), SatAt M0 S0 w0 N T m ρ a w → ∃ d, (execOp a.eval o).run P w = .ok (.defer d) w ∧ DefsDen w (Mut M0 m ρ) m ρ [da] [d]

theorem DefsDen_cons {w : World} {M : Nat → Prop} {m : Mem} {ρ : Nat → Value} {da : DA} {d : Deferred} {l : List DA} {ds : List Deferred} (h : DefsDen w M m ρ [da] [d]) (hl : DefsDen w M m ρ l ds) : DefsDen w M m ρ (da :: l) (d :: ds) := by
  cases da with
  | call f as cs =>
    obtain ⟨vs, us, rest, e, h1, h2, h3⟩ := h
    simp only [DefsDen] at h3; subst h3
    simp only [List.cons.injEq, and_true] at e; subst e
    exact ⟨vs, us, ds, rfl, h1, h2, hl⟩
  | bi b tys ty cs as =>
    obtain ⟨vs, rest, e, h1, h3⟩ := h
    simp only [DefsDen] at h3; subst h3
    simp only [List.cons.injEq, and_true] at e; subst e
    exact ⟨vs, ds, rfl, h1, hl⟩
  | coll i =>
    obtain ⟨D, rest, e, h1, h3⟩ := h
    simp only [DefsDen] at h3; subst h3
    simp only [List.cons.injEq, and_true] at e; subst e
    exact ⟨D, ds, rfl, h1, hl⟩

/-- a region whose order stands -/
def OpsT (P : Program) (rd : Bool) (n : Nat) (ops : Array Oper) (Post : PostT) : List Nat → (Nat → A) → Mem → List DA → Prop
  | [], T, m, ds => Post .nm T m ds
  | i :: r, T, m, ds => match ops[i]? with
    | none => OpsT P rd n ops Post r T m ds
    | some o => (∀ d, o.dst = some d → d < n) ∧ match wantA ops T o with
      | some true => (∃ outs : List Ot, OpN P o T m outs ∧ ∀ u ∈ outs, (∀ v, u.1 = .ok v → OpsT P rd n ops Post r (setT T o.dst v) (applyU m u.2) ds) ∧ ∀ v, u.1 = .pan v → Post (.pan v) T (applyU m u.2) ds) ∨
        (rd = false ∧ ∃ da, OpD P o T m da ∧ OpsT P rd n ops Post r (setT T o.dst (.tup [])) m (da :: ds))
      | some false => OpsT P rd n ops Post r (setT T o.dst (.tup [])) m ds
      | none => False

theorem SatAt.defer {M0 S0 : Nat → Prop} {w0 : World} {ρ : Nat → Value} {a : Act} {w : World} (h : SatAt M0 S0 w0 ⟨n, some ds⟩ T m ρ a w) {da : DA} {d : Deferred} (hd : DefsDen w (Mut M0 m ρ) m ρ [da] [d]) : SatAt M0 S0 w0 ⟨n, some (da :: ds)⟩ T m ρ { a with defers := d :: a.defers } w :=
  { keeps := h.keeps, size := h.size, defers := fun ds' e => by simp only [Option.some.injEq] at e; subst e; exact DefsDen_cons hd (h.defers ds rfl), tmps := h.tmps, res := h.res, own := h.own, apart := h.apart }

theorem ops_wp {ops : Array Oper} {ro : Option Nat} (hro : ro.isSome = rd) {M0 S0 : Nat → Prop} {w0 : World} (hlt : ∀ b, M0 b → b < w0.heap.size) {Q : Exit → Act → World → Prop} {m0 : Mem} {ρ0 : Nat → Value}
    (hQ : ∀ ex e T' m' ds' ρ' a' w', Post ex T' m' ds' → SatAt M0 S0 w0 ⟨n, some ds'⟩ T' m' ρ' a' w' → Onto m0 m' ρ0 ρ' → ex.Den w' (Mut M0 m' ρ') m' ρ' e → Q e a' w') :
    ∀ (l : List Nat) (T : Nat → A) (m : Mem) (ds : List DA) (ρ : Nat → Value) (a : Act) (w : World), OpsT P rd n ops Post l T m ds → SatAt M0 S0 w0 ⟨n, some ds⟩ T m ρ a w → Onto m0 m ρ0 ρ → wpOpsIn (FW ro) 0 P ops Q l a w
  | [], T, m, ds, ρ, a, w, h, hs, hO => hQ .nm _ T m ds ρ a w h hs hO rfl
  | i :: r, T, m, ds, ρ, a, w, h, hs, hO => by
    simp only [OpsT] at h
    simp only [wpOpsIn]
    cases ho : ops[i]? with
    | none => rw [ho] at h; exact ops_wp hro hlt hQ r T m ds ρ a w h hs hO
    | some o =>
      rw [ho] at h
      obtain ⟨hd, h⟩ := h
      cases hw : wantA ops T o with
      | none => rw [hw] at h; exact h.elim
      | some b =>
        rw [hw] at h
        simp only [want_den hs hw]
        cases b with
        | true =>
          simp only [if_true]
          rcases h with ⟨outs, h1, h2⟩ | ⟨hrd, da, h1, h2⟩
          · refine h1 ro ⟨n, some ds⟩ M0 S0 w0 ρ a w hs hlt _ Q ?_
            intro u y w' ρ' hu hs' hO'
            refine ⟨fun v e hv => ?_, fun v e hv => ?_⟩
            · exact ops_wp hro hlt hQ r _ _ ds ρ' _ w' ((h2 u hu).1 v e) (hs'.put _ (fun d e => hd d e) hv) (hO.trans hO')
            · exact hQ (.pan v) _ _ _ ds ρ' _ w' ((h2 u hu).2 v e) hs' (hO.trans hO') ⟨y, rfl, hv⟩
          · obtain ⟨d, hr, hden⟩ := h1 _ M0 S0 w0 ρ a w hs
            have hro' : ro = none := by cases ro with
              | none => rfl
              | some _ => rw [hrd] at hro; cases hro
            subst hro'
            refine ⟨fun _ _ => trivial, ?_⟩
            rw [show (FW none).round = none from rfl, Oper.semAt_none, hr, Oper.uponIn_defer]
            exact ops_wp hro hlt hQ r _ m _ ρ _ w h2 ((hs.defer hden).put _ (fun d e => hd d e) (by simp only [A.Den]; exact ⟨#[], rfl, rfl⟩)) hO
        | false =>
          simp only [Bool.false_eq_true, if_false]
          exact ⟨fun _ _ => trivial, ops_wp hro hlt hQ r _ m ds ρ _ w h (hs.put _ (fun d e => hd d e) (by simp only [A.Den]; exact ⟨#[], rfl, rfl⟩)) hO⟩

theorem CodeT.region {id : Nat} {ops : Array Oper} (h : OpsT P rd n ops Post (List.range ops.size) T m ds) : CodeT P rd n (.region id ops false) T m ds Post := by
  intro ro M0 S0 w0 ρ a w hro hs hlt Q hQ
  exact wpIn_region (ops_wp hro hlt hQ _ T m ds ρ a w h hs (Onto.refl m ρ))

theorem CodeT.draw {id : Nat} {ops : Array Oper} {recs : List Rec} {anc : Nat → Nat → Bool} {F : Nat → Nat → Prop} (hm : P.follows .mixedOrders = true) (hok : RegOk P ops recs anc F n T m) (h : Post .nm (recT T recs) (recM m recs) ds) : CodeT P rd n (.region id ops true) T m ds Post := by
  intro ro M0 S0 w0 ρ a w hro hs hlt Q hQ
  exact region_draw (N := ⟨n, some ds⟩) hm hok hlt hs fun a' w' ρ' h' hO => hQ .nm _ _ _ ds ρ' a' w' h h' hO rfl
end
end Go.Pv

namespace Go.Pv
open Go.RowKit
set_option linter.unusedVariables false
set_option linter.unusedSimpArgs false
set_option linter.constructorNameAsVariable false

/-! how a frame leaves: deferred calls of functions, of builtins, and what the rounds of a loop deferred -/
def LeavesX (P : Program) (fn : Func) (tmps : Array Value) (R : Ending → World → Prop) : List Deferred → FrameMode → World → Prop
  | [], .returning, w => ∃ v, (results fn tmps).run P w = .ok v w ∧ R (.returned v) w
  | [], .panicking chain, w => R (.panicked chain) w
  | [], .run, _ => False
  | d :: ds, u, w => u ≠ .run ∧
      ((∃ r w', d.target = .collected r ∧ (Instr.takeDeferred r).run P w = .ok [] w' ∧ LeavesX P fn tmps R ds u w') ∨
       (∃ fv cap f args, d.target = .fn fv cap ∧ (invoke d.target d.args).run P w = .ok (.enter f args) w ∧
        CallsD P f args u w fun
          | .returned _, u', w' => LeavesX P fn tmps R ds (settle u') w'
          | .panicked chain, u', w' => LeavesX P fn tmps R ds (raised u' chain) w'
          | .outgrown, _, w' => R .outgrown w') ∨
       (∃ b tys ty cs v w', d.target = .builtin b tys ty cs ∧ (invoke d.target d.args).run P w = .ok (.value v) w' ∧ LeavesX P fn tmps R ds u w'))

theorem step_biX {P : Program} {fr : Frame} {cs : List Frame} {w w' : World} {d : Deferred} {ds : List Deferred} {b : Builtin} {tys : Array TypeId} {ty : TypeId} {bs : Array Bool} {v : Value}
    (hm : fr.mode ≠ .run) (hd : fr.defers = d :: ds) (ht : d.target = .builtin b tys ty bs) (hk : (invoke d.target d.args).run P w = .ok (.value v) w') :
    step P (lone fr cs w) = .next (lone { fr with defers := ds } cs w') := by
  obtain ⟨t, a⟩ := d
  simp only at ht hk
  subst ht
  refine step_lone_go ?_
  cases hmode : fr.mode with
  | run => exact absurd hmode hm
  | returning => simp [stepG, unwind, callDeferred, hmode, hd, hk]
  | panicking chain => simp [stepG, unwind, callDeferred, hmode, hd, hk]

theorem step_collX {P : Program} {fr : Frame} {cs : List Frame} {w w' : World} {d : Deferred} {r : Nat} {ds : List Deferred}
    (hm : fr.mode ≠ .run) (hd : fr.defers = d :: ds) (ht : d.target = .collected r) (hk : (Instr.takeDeferred r).run P w = .ok [] w') :
    step P (lone fr cs w) = .next (lone { fr with defers := ds } cs w') := by
  obtain ⟨t, a⟩ := d
  simp only at ht
  subst ht
  refine step_lone_go ?_
  cases hmode : fr.mode with
  | run => exact absurd hmode hm
  | returning => simp [stepG, unwind, hmode, hd, Sem.runT_eq, hk, GStep.bare_after]
  | panicking chain => simp [stepG, unwind, hmode, hd, Sem.runT_eq, hk, GStep.bare_after]

theorem leavesX_steps {P : Program} {fn : Func} {tmps : Array Value} {R : Ending → World → Prop} : ∀ (ds : List Deferred) (u : FrameMode) (w : World) (fr : Frame) (cs : List Frame),
    fr.mode = u → fr.defers = ds → fr.tmps = tmps → P.funcs[fr.fn]? = some fn → fr.kind = .normal → LeavesX P fn tmps R ds u w →
    ∃ e w' fr', R e w' ∧ Comes P (lone fr cs w) (lone fr' cs w') e ∧ fr'.fn = fr.fn ∧ fr'.leaving P w' e
  | [], u, w, fr, cs, hu, hd, ht, hf, hk, h => by
    cases u with
    | run => exact h.elim
    | returning =>
      obtain ⟨v, hr, hR⟩ := h
      exact ⟨.returned v, w, fr, hR, Steps.refl _ _, rfl, hu, hd, hk, fn, hf, ht ▸ hr⟩
    | panicking chain => exact ⟨.panicked chain, w, fr, h, Steps.refl _ _, rfl, hu, hd, fn, hf⟩
  | d :: ds, u, w, fr, cs, hu, hd, ht, hf, hk, h => by
    obtain ⟨hrun, h⟩ := h
    rcases h with ⟨r, w', htar, htake, hrest⟩ | ⟨fv, cap, f, args, htar, hinv, hcall⟩ | ⟨b, tys, ty, bs, v, w', htar, hinv, hrest⟩
    rotate_left 2
    · have h1 := step_biX (cs := cs) (hu ▸ hrun) hd htar hinv
      obtain ⟨e', w'', fr', hR', hs', hfn', hl'⟩ := leavesX_steps ds u w' { fr with defers := ds } cs hu rfl ht hf hk hrest
      exact ⟨e', w'', fr', hR', Comes.of_steps (.one h1) hs', hfn', hl'⟩
    · have h1 := step_collX (cs := cs) (hu ▸ hrun) hd htar htake
      obtain ⟨e', w'', fr', hR', hs', hfn', hl'⟩ := leavesX_steps ds u w' { fr with defers := ds } cs hu rfl ht hf hk hrest
      exact ⟨e', w'', fr', hR', Comes.of_steps (.one h1) hs', hfn', hl'⟩
    · have h1 := step_defer (cs := cs) (hu ▸ hrun) hd htar hinv
      obtain ⟨e, u', w', frX, hR, hsteps, hkX, hgo⟩ := hcall { fr with defers := ds } cs hu
      cases e with
      | outgrown => exact ⟨.outgrown, w', fr, hR, Outgrown.of_steps (.one h1) hsteps, rfl, trivial⟩
      | returned v =>
        have h2 := step_going_returned (c := { { fr with defers := ds } with mode := u' }) (cs := cs) hkX hgo
        obtain ⟨e', w'', fr', hR', hs', hfn', hl'⟩ := leavesX_steps ds (settle u') w' { { { fr with defers := ds } with mode := u' } with mode := settle u' } cs rfl rfl ht hf hk hR
        exact ⟨e', w'', fr', hR', Comes.of_steps (.head h1 (Steps.trans hsteps (.one h2))) hs', hfn', hl'⟩
      | panicked chain =>
        have h2 := step_going_panicked (c := { { fr with defers := ds } with mode := u' }) (cs := cs) hgo
        obtain ⟨e', w'', fr', hR', hs', hfn', hl'⟩ := leavesX_steps ds (raised u' chain) w' { { { fr with defers := ds } with mode := u' } with mode := raised u' chain } cs rfl rfl ht hf hk hR
        exact ⟨e', w'', fr', hR', Comes.of_steps (.head h1 (Steps.trans hsteps (.one h2))) hs', hfn', hl'⟩

def bodyX (P : Program) (fn : Func) (R : Ending → World → Prop) : Exit → Act → World → Prop
  | .normal, a, w | .ret, a, w => LeavesX P fn a.tmps R a.defers .returning w
  | .panic chain, a, w => LeavesX P fn a.tmps R a.defers (.panicking chain) w
  | _, _, _ => False

theorem calls_of_wpX {P : Program} {f : FuncId} {fn : Func} {c : Code} {args : Array Value} {w : World} {R : Ending → World → Prop} (hf : P.funcs[f]? = some fn) (hb : fn.body = some c)
    (h : c.wpIn (FW none) 0 P (bodyX P fn R) { tmps := args ++ Array.replicate (fn.ntmps - args.size) undef, defers := [] } w) : Calls P f args w R := by
  have h := wpIn_wide.1 h
  intro cs
  let b : Frame := { (default : Frame) with fn := f, kind := .normal }
  have henter : Frame.enter P f args .normal = b.at { tmps := args ++ Array.replicate (fn.ntmps - args.size) undef, defers := [] } [.code c] := by
    simp [Frame.enter, Frame.at, hf, hb, b]
  obtain ⟨e, a', w', hq, harr⟩ := h b [] cs
  rw [← henter] at harr
  cases e with
  | normal =>
    obtain ⟨e', w'', fr', hR, hs, hfn, hl⟩ := leavesX_steps a'.defers .returning w' { b.at a' [] with mode := .returning } cs rfl rfl rfl hf rfl hq
    exact ⟨e', w'', fr', hR, Comes.of_steps (Steps.trans harr (.one step_end)) hs, hfn, hl⟩
  | ret =>
    obtain ⟨todo, hs₀⟩ := harr
    obtain ⟨e', w'', fr', hR, hs, hfn, hl⟩ := leavesX_steps a'.defers .returning w' { b.at a' todo with mode := .returning } cs rfl rfl rfl hf rfl hq
    exact ⟨e', w'', fr', hR, Comes.of_steps hs₀ hs, hfn, hl⟩
  | panic chain =>
    obtain ⟨todo, hs₀⟩ := harr
    obtain ⟨e', w'', fr', hR, hs, hfn, hl⟩ := leavesX_steps a'.defers (.panicking chain) w' { b.at a' todo with mode := .panicking chain } cs rfl rfl rfl hf rfl hq
    exact ⟨e', w'', fr', hR, Comes.of_steps hs₀ hs, hfn, hl⟩
  | exit id => exact hq.elim
  | goto l => exact hq.elim
  | outgrown => exact hq.elim

/-- what is not reached is forgotten -/
theorem SatAt.cut {M0 S0 : Nat → Prop} {w0 : World} {N : Fr} {T : Nat → A} {m m3 : Mem} {ρ ρ' : Nat → Value} {a : Act} {w w' : World} (hs : SatAt M0 S0 w0 N T m ρ a w) (h1 : SatAt M0 S0 w0 N T m3 ρ' a w') (hO : Onto m m3 ρ ρ')
    {u : List (Nat × R)} {v : A} {y : Value} (hsub : ∀ i r, applyU m u i = some r → m3 i = some r) (hv : ∀ i ∈ v.hs, applyU m u i ≠ none) (hc : ∀ p ∈ u, ∀ j ∈ p.2.hs, applyU m u j ≠ none) (hden : v.Den w' (Mut M0 m3 ρ') m3 ρ' y) :
    SatAt M0 S0 w0 N T (applyU m u) ρ' a w' ∧ Onto m (applyU m u) ρ ρ' ∧ v.Den w' (Mut M0 (applyU m u) ρ') (applyU m u) ρ' y := by
  have hdom : ∀ i, m i ≠ none → applyU m u i ≠ none := fun i hi => applyU_ne hi
  have h2 := h1.drop hsub (fun n i hi => hdom i (A.hs_dom _ _ (hs.tmps n) i hi)) (fun ds e d hd i hi => hdom i (defs_dom (hs.defers ds e) d hd i hi)) (fun i r hi j hj => by
    rcases applyU_cases hi with q | q
    · exact hc _ q j hj
    · exact hdom j (R.hs_dom (hs.res i r q) j hj))
  refine ⟨h2, ?_, ?_⟩
  · intro i hi
    have hne := hdom i hi
    cases hq : applyU m u i with
    | none => exact absurd hq hne
    | some r =>
      have := hO i hi
      rw [hsub i r hq] at this
      exact ⟨by simp, this.2⟩
  · have hmu : ∀ b, Mut M0 (applyU m u) ρ' b → b < w'.heap.size → Mut M0 m3 ρ' b := by
      rintro b (e | ⟨i, r, g1, g2, g3⟩) _
      · exact .inl e
      · exact .inr ⟨i, r, hsub i r g1, g2, g3⟩
    exact A.Den_mono (Stays.refl _ w') hmu (Onto.refl _ ρ') _ _ (A.Den_restrict hsub _ _ hv hden)

/-- the rounds deferred nothing: their blocks are taken -/
theorem SatAt.take {M0 S0 : Nat → Prop} {w0 : World} {n : Nat} {ds : List DA} {T : Nat → A} {m : Mem} {ρ : Nat → Value} {a : Act} {w : World} {P : Program} {i : Nat} (h : SatAt M0 S0 w0 ⟨n, some (.coll i :: ds)⟩ T m ρ a w) (hi : m i = some (.df false)) :
    ∃ D dr w', a.defers = { target := .collected D, args := #[] } :: dr ∧ (Instr.takeDeferred D).run P w = .ok [] w' ∧ SatAt M0 S0 w0 ⟨n, some ds⟩ T (setM m i (.df true)) ρ { a with defers := dr } w' ∧ Onto m (setM m i (.df true)) ρ ρ := by
  obtain ⟨D, dr, e, hh, hr⟩ := h.defers _ rfl
  have hρ := has_of hh hi (by simp)
  obtain ⟨b, hb, hw⟩ := h.res i _ hi
  rw [hρ] at hb
  simp only [Value.pointer.injEq, Option.some.injEq, Addr.mk.injEq, and_true] at hb
  subst hb
  simp only [Bool.false_eq_true, if_false] at hw
  refine ⟨D, dr, w.putObj D (.deferred none), e, ?_, ?_, ?_⟩
  · have e1 : (getObj D).run P w = .ok (.deferred (some [])) w := by simp [getObj, hw, Sem.run]
    unfold Instr.takeDeferred
    simp only [Sem.run_bind, e1, Result.andThen_ok]
    rw [putObj_run hw (by intro c e f h; cases h)]
    simp [Result.andThen_ok]
  · have h' : SatAt M0 S0 w0 ⟨n, some ds⟩ T m ρ { a with defers := dr } w :=
      { keeps := h.keeps, size := h.size, defers := fun ds' e' => by simp only [Option.some.injEq] at e'; subst e'; exact hr, tmps := h.tmps, res := h.res, own := h.own, apart := h.apart }
    refine h'.write hi rfl rfl (fun fz t es l e => by cases e) (putObj_keeps w D _) (fun b _ e => by subst e; rw [hρ]; rfl) ?_
    intro _ _ _
    exact ⟨D, hρ, by simpa using putObj_at hw⟩
  · exact Onto.set (m := m) (ρ := ρ) i (.df true) (ρ i) (fun _ _ => ⟨by rw [hi]; simp, rfl, fun fz t es l e => by rw [hi] at e; cases e⟩) |> fun q => by rwa [setH_same] at q
end Go.Pv

namespace Go.Pv
open Go.RowKit
set_option linter.unusedVariables false
set_option linter.unusedSimpArgs false
set_option linter.constructorNameAsVariable false

/-! resources get other names -/
mutual
theorem A.ren_congr {f g : Nat → Nat} : ∀ (a : A), (∀ i ∈ a.hs, f i = g i) → a.ren f = a.ren g
  | .d c, _ => rfl
  | .lp i o, hh => by simp only [A.ren]; rw [hh i (by simp [A.hs])]
  | .h i, hh => by simp only [A.ren]; rw [hh i (by simp [A.hs])]
  | .ep i e k o, hh => by simp only [A.ren]; rw [hh i (by simp [A.hs])]
  | .sv i l n, hh => by simp only [A.ren]; rw [hh i (by simp [A.hs])]
  | .fn f' u v, hh => by
    simp only [A.hs, List.mem_append] at hh
    simp only [A.ren]
    rw [A.renL_congr u fun i hi => hh i (.inl hi), A.renL_congr v fun i hi => hh i (.inr hi)]
  | .agg l, hh => by simp only [A.hs] at hh; simp only [A.ren]; rw [A.renL_congr l hh]
  | .tup l, hh => by simp only [A.hs] at hh; simp only [A.ren]; rw [A.renL_congr l hh]
  | .ifc t a, hh => by simp only [A.hs] at hh; simp only [A.ren]; rw [A.ren_congr a hh]
  | .x, _ => rfl
theorem A.renL_congr {f g : Nat → Nat} : ∀ (l : List A), (∀ i ∈ A.hsL l, f i = g i) → A.renL f l = A.renL g l
  | [], _ => rfl
  | c :: r, hh => by
    simp only [A.hsL, List.mem_append] at hh
    simp only [A.renL]
    rw [A.ren_congr c fun i hi => hh i (.inl hi), A.renL_congr r fun i hi => hh i (.inr hi)]
end
mutual
theorem A.ren_id : ∀ (a : A), a.ren (fun i => i) = a
  | .d c => rfl
  | .lp i o => rfl
  | A.h i => rfl
  | .ep i e k o => rfl
  | .sv i l n => rfl
  | .fn f u v => by simp only [A.ren]; rw [A.renL_id u, A.renL_id v]
  | .agg l => by simp only [A.ren]; rw [A.renL_id l]
  | .tup l => by simp only [A.ren]; rw [A.renL_id l]
  | .ifc t a => by simp only [A.ren]; rw [A.ren_id a]
  | .x => rfl
theorem A.renL_id : ∀ (l : List A), A.renL (fun i => i) l = l
  | [] => rfl
  | c :: r => by simp only [A.renL]; rw [A.ren_id c, A.renL_id r]
end
mutual
theorem A.hs_ren (g : Nat → Nat) : ∀ (a : A), (a.ren g).hs = a.hs.map g
  | .d c => rfl
  | .lp i o => rfl
  | .h i => rfl
  | .ep i e k o => rfl
  | .sv i l n => rfl
  | .fn f u v => by simp only [A.ren, A.hs, A.hsL_ren g u, A.hsL_ren g v, List.map_append]
  | .agg l => by simp only [A.ren, A.hs, A.hsL_ren g l]
  | .tup l => by simp only [A.ren, A.hs, A.hsL_ren g l]
  | .ifc t a => by simp only [A.ren, A.hs, A.hs_ren g a]
  | .x => rfl
theorem A.hsL_ren (g : Nat → Nat) : ∀ (l : List A), A.hsL (A.renL g l) = (A.hsL l).map g
  | [] => rfl
  | c :: r => by simp only [A.renL, A.hsL, A.hs_ren g c, A.hsL_ren g r, List.map_append]
end

theorem hsL_app : ∀ (a b : List A), A.hsL (a ++ b) = A.hsL a ++ A.hsL b
  | [], b => rfl
  | c :: r, b => by simp [A.hsL, hsL_app r b]

theorem renL_map_congr {f g : Nat → Nat} : ∀ (l : List (List A)), (∀ i ∈ A.hsL l.flatten, f i = g i) → l.map (A.renL f) = l.map (A.renL g)
  | [], _ => rfl
  | e :: r, h => by
    simp only [List.flatten_cons, hsL_app, List.mem_append] at h
    simp only [List.map_cons]
    rw [A.renL_congr e fun i hi => h i (.inl hi), renL_map_congr r fun i hi => h i (.inr hi)]
theorem kv_ren_congr {f g : Nat → Nat} : ∀ (l : List (Ky × A)), (∀ i ∈ A.hsL (l.map (·.2)), f i = g i) → (l.map fun p => (p.1, p.2.ren f)) = l.map fun p => (p.1, p.2.ren g)
  | [], _ => rfl
  | e :: r, h => by
    simp only [List.map_cons, A.hsL, List.mem_append] at h
    simp only [List.map_cons]
    rw [A.ren_congr e.2 fun i hi => h i (.inl hi), kv_ren_congr r fun i hi => h i (.inr hi)]

def R.noIt : R → Bool
  | .it _ _ _ _ => false
  | _ => true
theorem R.ren_congr {f g : Nat → Nat} (r : R) (hn : r.noIt = true) (h : ∀ i ∈ r.hs, f i = g i) : r.ren f = r.ren g := by
  cases r with
  | cells fz l => simp only [R.ren]; rw [A.renL_congr l (by simpa only [R.hs] using h)]
  | osl fz t es l => simp only [R.ren]; rw [renL_map_congr l (by simpa only [R.hs] using h)]
  | mp fz kv st =>
    simp only [R.hs, List.mem_append] at h
    simp only [R.ren]
    rw [kv_ren_congr kv fun i hi => h i (.inl hi)]
    congr 1
    exact List.map_congr_left fun p hp => by rw [h p.2 (.inr (List.mem_map.2 ⟨p, hp, rfl⟩))]
  | fr l => simp only [R.ren]; rw [A.renL_congr l (by simpa only [R.hs] using h)]
  | it i sc a b => cases hn
  | lo st pend ts ps asg bod => simp only [R.ren]; rw [A.renL_congr ts (by simpa only [R.hs] using h)]
  | cu src es l =>
    simp only [R.hs, List.mem_append] at h
    simp only [R.ren]
    rw [A.ren_congr src fun i hi => h i (.inl hi), renL_map_congr l fun i hi => h i (.inr hi)]
  | _ => rfl
theorem map_renL_id : ∀ (l : List (List A)), l.map (A.renL fun i => i) = l
  | [] => rfl
  | e :: r => by simp only [List.map_cons]; rw [A.renL_id, map_renL_id r]
theorem R.ren_id (r : R) : r.ren (fun i => i) = r := by
  cases r with
  | cells fz l => simp only [R.ren]; rw [A.renL_id]
  | osl fz t es l => simp only [R.ren]; rw [map_renL_id]
  | mp fz kv st =>
    simp only [R.ren]
    congr 1
    · conv => rhs; rw [← List.map_id kv]
      exact List.map_congr_left fun p _ => by rw [A.ren_id]; rfl
    · conv => rhs; rw [← List.map_id st]
      exact List.map_congr_left fun p _ => rfl
  | fr l => simp only [R.ren]; rw [A.renL_id]
  | it i sc a b => simp only [R.ren, List.map_id']
  | lo st pend ts ps asg bod => simp only [R.ren]; rw [A.renL_id]
  | cu src es l => simp only [R.ren]; rw [A.ren_id, map_renL_id]
  | _ => rfl
theorem R.hs_ren (g : Nat → Nat) (r : R) : (r.ren g).hs = r.hs.map g := by
  have e1 : ∀ l : List (List A), A.hsL (l.map (A.renL g)).flatten = (A.hsL l.flatten).map g := fun l => by rw [renL_flatten, A.hsL_ren]
  cases r with
  | cells fz l => simp only [R.ren, R.hs, A.hsL_ren]
  | osl fz t es l => simp only [R.ren, R.hs, e1]
  | mp fz kv st =>
    simp only [R.ren, R.hs, List.map_append]
    congr 1
    · rw [← A.hsL_ren, renL_map, List.map_map, List.map_map]; rfl
    · rw [List.map_map, List.map_map]; rfl
  | fr l => simp only [R.ren, R.hs, A.hsL_ren]
  | it i sc a b => simp only [R.ren, R.hs, List.map_cons]
  | lo st pend ts ps asg bod => simp only [R.ren, R.hs, A.hsL_ren]
  | cu src es l => simp only [R.ren, R.hs, A.hs_ren, e1, List.map_append]
  | _ => rfl

def Rt.ren (g : Nat → Nat) : Rt → Rt
  | .ok a => .ok (a.ren g)
  | .pan a => .pan (a.ren g)
theorem Rt.ren_id (r : Rt) : r.ren (fun i => i) = r := by cases r <;> simp only [Rt.ren, A.ren_id]
theorem Rt.hs_ren (g : Nat → Nat) (r : Rt) : (r.ren g).hs = r.hs.map g := by cases r <;> simp only [Rt.ren, Rt.hs, A.hs_ren]
theorem Rt.ren_congr {f g : Nat → Nat} (r : Rt) (h : ∀ i ∈ r.hs, f i = g i) : r.ren f = r.ren g := by
  cases r <;> simp only [Rt.ren] <;> rw [A.ren_congr _ h]

/-- resources under other names -/
def renM (g gi : Nat → Nat) (m : Mem) : Mem := fun i => (m (gi i)).map (R.ren g)

/-- m' and r are what mf and r0 are, but for the names of what is new -/
def RenTo (m mf : Mem) (r0 : Rt) (m' : Mem) (r : Rt) : Prop :=
  ∃ g gi : Nat → Nat, (∀ i, gi (g i) = i) ∧ (∀ i, g (gi i) = i) ∧ (∀ i, m i ≠ none → g i = i) ∧ r = r0.ren g ∧ ∀ i q, m' i = some q → (∃ q0, mf (gi i) = some q0 ∧ q = q0.ren g) ∨ (m i = some q ∧ mf i = some q)

theorem RenTo.refl {m mf m' : Mem} {r : Rt} (h : ∀ i q, m' i = some q → mf i = some q) : RenTo m mf r m' r :=
  ⟨fun i => i, fun i => i, fun _ => rfl, fun _ => rfl, fun _ _ => rfl, (Rt.ren_id r).symm, fun i q hq => .inl ⟨q, h i q hq, (R.ren_id q).symm⟩⟩

section
variable {M0 S0 : Nat → Prop} {w0 : World} {n : Nat} {ds : List DA} {T : Nat → A} {m mf : Mem} {ρ ρ' : Nat → Value} {a : Act} {w : World}

theorem ontoG_ren {g gi : Nat → Nat} (h1 : ∀ i, gi (g i) = i) (m : Mem) (ρ : Nat → Value) : OntoG g m (renM g gi m) ρ (fun i => ρ (gi i)) := by
  intro i hi
  have e : renM g gi m (g i) = (m i).map (R.ren g) := by unfold renM; rw [h1]
  cases hm : m i with
  | none => exact absurd hm hi
  | some r =>
    rw [hm] at e
    refine ⟨by rw [e]; simp, fun hd => ⟨?_, by simp only [h1], ?_⟩⟩
    · rintro e2
      simp only [Option.some.injEq] at e2; subst e2
      exact hd (by rw [e]; rfl)
    · rintro fz t es l e2
      simp only [Option.some.injEq] at e2; subst e2
      exact ⟨fz, t, l.map (A.renL g), by rw [e]; rfl, by simp⟩

theorem SatAt.ren (s : SatAt M0 S0 w0 ⟨n, some ds⟩ T mf ρ a w) {g gi : Nat → Nat} (h1 : ∀ i, gi (g i) = i) (h2 : ∀ i, g (gi i) = i) :
    SatAt M0 S0 w0 ⟨n, none⟩ (fun _ => .x) (renM g gi mf) (fun i => ρ (gi i)) a w ∧ ∀ (v : A) (y : Value), v.Den w (Mut M0 mf ρ) mf ρ y → (v.ren g).Den w (Mut M0 (renM g gi mf) (fun i => ρ (gi i))) (renM g gi mf) (fun i => ρ (gi i)) y := by
  have hO := ontoG_ren h1 mf ρ
  have live : ∀ i r, renM g gi mf i = some r → ∃ r0, mf (gi i) = some r0 ∧ r = r0.ren g ∧ r.live = r0.live := by
    intro i r hr
    unfold renM at hr
    simp only [Option.map_eq_some_iff] at hr
    obtain ⟨r0, e, rfl⟩ := hr
    exact ⟨r0, e, rfl, R.ren_live g r0⟩
  have hM : ∀ b, Mut M0 (renM g gi mf) (fun i => ρ (gi i)) b → b < w.heap.size → Mut M0 mf ρ b := by
    rintro b (e | ⟨i, r, hi, hl, hb⟩) _
    · exact .inl e
    · obtain ⟨r0, e1, e2, e3⟩ := live i r hi
      exact .inr ⟨gi i, r0, e1, by rw [← e3]; exact hl, hb⟩
  have hg : ∀ i j, g i = g j → i = j := fun i j e => by rw [← h1 i, e, h1]
  refine ⟨?_, fun v y hd => A.Den_push (Stays.refl _ w) hM hO v y hd⟩
  refine { keeps := s.keeps, size := s.size, defers := (fun _ e => nomatch e), tmps := fun _ => by simp [A.Den]
           res := fun i r hi => ?_, own := fun i r b hi hl hb => ?_, apart := fun i j r r' b hi hl hj hl' hb hb' => ?_ }
  · obtain ⟨r0, e1, rfl, _⟩ := live i r hi
    exact R.Ok_push hg (Stays.refl _ w) hM hO (fun _ _ _ => rfl) (s.res _ r0 e1)
  · obtain ⟨r0, e1, rfl, e3⟩ := live i r hi
    exact s.own (gi i) r0 b e1 (by rw [← e3]; exact hl) hb
  · obtain ⟨r0, e1, rfl, e3⟩ := live i r hi
    obtain ⟨r1, f1, rfl, f3⟩ := live j r' hj
    have := s.apart (gi i) (gi j) r0 r1 b e1 (by rw [← e3]; exact hl) f1 (by rw [← f3]; exact hl') hb hb'
    rw [← h2 i, this, h2]

theorem onto_ren {g gi : Nat → Nat} (h1 : ∀ i, gi (g i) = i) (hfix : ∀ i, m i ≠ none → g i = i) (hO : Onto m mf ρ ρ') : Onto m (renM g gi mf) ρ (fun i => ρ' (gi i)) := by
  intro i hi
  have e := hfix i hi
  have e2 : gi i = i := by have := h1 i; rwa [e] at this
  obtain ⟨k1, k2⟩ := hO i hi
  cases hm : mf i with
  | none => exact absurd hm k1
  | some r =>
    have er : renM g gi mf i = some (r.ren g) := by unfold renM; rw [e2, hm]; rfl
    refine ⟨by rw [er]; simp, fun hd => ?_⟩
    have hnd : mf i ≠ some .dead := by
      rw [hm]; rintro e3
      simp only [Option.some.injEq] at e3; subst e3
      exact hd (by rw [er]; rfl)
    obtain ⟨k3, k4, k5⟩ := k2 hnd
    refine ⟨k3, by simp only [e2, k4], fun fz t es l e3 => ?_⟩
    obtain ⟨fz', t', l', e4, e5⟩ := k5 fz t es l e3
    rw [hm] at e4
    simp only [Option.some.injEq] at e4; subst e4
    exact ⟨fz', t', l'.map (A.renL g), by rw [er]; rfl, by simpa using e5⟩
end

/-- a bijection that takes some numbers to some others, and leaves what is neither -/
theorem exists_perm : ∀ (ps : List (Nat × Nat)), (ps.map (·.1)).Nodup → (ps.map (·.2)).Nodup →
    ∃ g gi : Nat → Nat, (∀ i, gi (g i) = i) ∧ (∀ i, g (gi i) = i) ∧ (∀ p ∈ ps, g p.1 = p.2) ∧ ∀ i, i ∉ ps.map (·.1) → i ∉ ps.map (·.2) → g i = i
  | [], _, _ => ⟨fun i => i, fun i => i, fun _ => rfl, fun _ => rfl, by simp, fun _ _ _ => rfl⟩
  | p :: r, h1, h2 => by
    simp only [List.map_cons, List.nodup_cons] at h1 h2
    obtain ⟨g, gi, k1, k2, k3, k4⟩ := exists_perm r h1.2 h2.2
    have inj : ∀ i j, g i = g j → i = j := fun i j e => by rw [← k1 i, e, k1]
    let sw : Nat → Nat := fun i => if i = g p.1 then p.2 else if i = p.2 then g p.1 else i
    have sw2 : ∀ i, sw (sw i) = i := by
      intro i
      simp only [sw]
      by_cases e1 : i = g p.1
      · subst e1
        simp only [if_true]
        by_cases e2 : p.2 = g p.1
        · rw [if_pos e2, e2]
        · rw [if_neg e2]
      · rw [if_neg e1]
        by_cases e2 : i = p.2
        · rw [if_pos e2, if_pos rfl, e2]
        · rw [if_neg e2, if_neg e1, if_neg e2]
    refine ⟨fun i => sw (g i), fun i => gi (sw i), fun i => by simp only [sw2, k1], fun i => by simp only [k2, sw2], ?_, ?_⟩
    · intro q hq
      simp only [List.mem_cons] at hq
      rcases hq with rfl | hq
      · simp [sw]
      · have e1 : g q.1 ≠ g p.1 := fun e => h1.1 (by have := inj _ _ e; rw [← this]; exact List.mem_map.2 ⟨q, hq, rfl⟩)
        have e2 : g q.1 ≠ p.2 := by rw [k3 q hq]; exact fun e => h2.1 (by rw [← e]; exact List.mem_map.2 ⟨q, hq, rfl⟩)
        simp only [sw, if_neg e1, if_neg e2]
        exact k3 q hq
    · intro i hi hj
      simp only [List.map_cons, List.mem_cons, not_or] at hi hj
      have e := k4 i hi.2 hj.2
      have e1 : g i ≠ g p.1 := fun q => hi.1 (inj _ _ q)
      simp only [sw, if_neg e1]
      rw [e, if_neg hj.1]
end Go.Pv

namespace Go.Pv
open Go.RowKit
set_option linter.unusedVariables false
set_option linter.unusedSimpArgs false
set_option linter.constructorNameAsVariable false

/-- is a frame on its way out returning, or panicking? -/
inductive Md where
  | ret
  | pan (v : A)
def Md.Den (w : World) (M : Nat → Prop) (m : Mem) (ρ : Nat → Value) : Md → FrameMode → Prop
  | .ret, u => u = .returning
  | .pan v, u => ∃ y, u = .panicking [{ v := y, recovered := false }] ∧ v.Den w M m ρ y
theorem Md.Den_mono {w w' : World} {M M' : Nat → Prop} {m m' : Mem} {ρ ρ' : Nat → Value} (h : Stays M w w') (hM : ∀ b, M' b → b < w.heap.size → M b) (hO : Onto m m' ρ ρ') : ∀ {md : Md} {u : FrameMode}, md.Den w M m ρ u → md.Den w' M' m' ρ' u
  | .ret, _, h1 => h1
  | .pan v, _, ⟨y, e, h1⟩ => ⟨y, e, A.Den_mono h hM hO _ _ h1⟩

/-- how a frame leaves -/
def LeaveT (P : Program) (fn : Func) (T : Nat → A) (m : Mem) (ds : List DA) (md : Md) (r : Rt) (mf : Mem) : Prop :=
  ∀ (n : Nat) (M0 S0 : Nat → Prop) (w0 : World) (ρ : Nat → Value) (a : Act) (w : World) (u : FrameMode), SatAt M0 S0 w0 ⟨n, some ds⟩ T m ρ a w → (∀ b, M0 b → b < w0.heap.size) → md.Den w (Mut M0 m ρ) m ρ u →
    ∀ R : Ending → World → Prop, (∀ e w' ρ', SatAt M0 S0 w0 ⟨n, some []⟩ T mf ρ' { a with defers := [] } w' → Onto m mf ρ ρ' → r.Den w' (Mut M0 mf ρ') mf ρ' e → R e w') → LeavesX P fn a.tmps R a.defers u w

section
variable {P : Program} {fn : Func} {T : Nat → A} {m mf : Mem} {ds : List DA} {md : Md} {r : Rt}

theorem act_nil {a : Act} (h : a.defers = []) : { a with defers := [] } = a := by cases a; simp at h; subst h; rfl

theorem LeaveT.ret {v : A} (h : resV P m T fn.results.toList = some v) : LeaveT P fn T m [] .ret (.ok v) m := by
  intro n M0 S0 w0 ρ a w u hs hlt hu R hR
  obtain ⟨y, k1, k2⟩ := results_run (P := P) hs h
  have hde : a.defers = [] := hs.defers [] rfl
  simp only [Md.Den] at hu; subst hu
  rw [hde]
  exact ⟨y, k1, hR _ w ρ (by rw [act_nil hde]; exact hs) (Onto.refl m ρ) ⟨y, rfl, k2⟩⟩

theorem LeaveT.pan {v : A} : LeaveT P fn T m [] (.pan v) (.pan v) m := by
  intro n M0 S0 w0 ρ a w u hs hlt hu R hR
  have hde : a.defers = [] := hs.defers [] rfl
  obtain ⟨y, rfl, hy⟩ := hu
  rw [hde]
  exact hR _ w ρ (by rw [act_nil hde]; exact hs) (Onto.refl m ρ) ⟨y, rfl, hy⟩

theorem LeaveT.coll {i : Nat} (hi : m i = some (.df false)) (h : LeaveT P fn T (setM m i (.df true)) ds md r mf) : LeaveT P fn T m (.coll i :: ds) md r mf := by
  intro n M0 S0 w0 ρ a w u hs hlt hu R hR
  obtain ⟨D, dr, w', e, hk, h1, hO⟩ := hs.take (P := P) hi
  have hu' : md.Den w' (Mut M0 (setM m i (.df true)) ρ) (setM m i (.df true)) ρ u := by
    have hsn : SatAt M0 (LiveB m ρ) w ⟨n, some (.coll i :: ds)⟩ T m ρ a w := hs.now
    obtain ⟨D2, dr2, w2, e2, hk2, h2, _⟩ := hsn.take (P := P) hi
    rw [e] at e2
    simp only [List.cons.injEq, Deferred.mk.injEq, Target.collected.injEq, and_true] at e2
    obtain ⟨rfl, rfl⟩ := e2
    rw [hk] at hk2
    simp only [Result.ok.injEq, true_and] at hk2
    subst hk2
    obtain ⟨q1, q2⟩ := hs.evo h2
    exact Md.Den_mono q1 q2 hO hu
  have hrun : u ≠ .run := by
    cases md with
    | ret => simp only [Md.Den] at hu; subst hu; simp
    | pan v => obtain ⟨y, rfl, _⟩ := hu; simp
  rw [e]
  refine ⟨hrun, .inl ⟨D, w', rfl, hk, ?_⟩⟩
  exact h n M0 S0 w0 ρ { a with defers := dr } w' u h1 hlt hu' R fun e w2 ρ2 s o q => hR e w2 ρ2 s (hO.trans o) q
end

/-- how a way out makes a frame leave -/
def exMd : Ex → Option Md
  | .nm => some .ret
  | .ret => some .ret
  | .pan v => some (.pan v)
  | .ext _ => none

/-- a call, out of its body -/
theorem callT_of_body {P : Program} {f : FuncId} {fn : Func} {c : Code} {as : List A} {m : Mem} {u : List (Nat × R)} {r : Rt} {Post : PostT} (hf : P.funcs[f]? = some fn) (hb : fn.body = some c) (hcl : callable P f = true) (hn : as.length ≤ fn.ntmps)
    (hbody : CodeT P false fn.ntmps c (argsT as) m [] Post) (hpost : ∀ ex T' m' ds', Post ex T' m' ds' → ∃ md mf r0, exMd ex = some md ∧ LeaveT P fn T' m' ds' md r0 mf ∧ RenTo m mf r0 (applyU m u) r)
    (hv : ∀ i ∈ r.hs, applyU m u i ≠ none) (hc : ∀ p ∈ u, ∀ j ∈ p.2.hs, applyU m u j ≠ none) : CallT P f as m r (applyU m u) := by
  refine ⟨hcl, ?_⟩
  intro N T M0 S0 w0 ρ a w h hlt vs hd
  have hlen := (A.DenL_iff.1 hd).1
  refine calls_of_wpX hf hb ?_
  have hlt' : ∀ b, M0 b → b < w.heap.size := fun b hb => Nat.lt_of_lt_of_le (hlt b hb) h.keeps.size
  have h0 : SatAt M0 (LiveB m ρ) w ⟨fn.ntmps, some []⟩ (argsT as) m ρ { tmps := vs.toArray ++ Array.replicate (fn.ntmps - vs.toArray.size) undef, defers := [] } w :=
    { keeps := Keeps.refl _ _, size := by simp; omega
      defers := fun ds e => by simp at e; subst e; rfl
      tmps := fun n => by
        unfold argsT
        rcases Nat.lt_or_ge n as.length with q | q
        · rw [List.getElem?_eq_getElem q]
          have hv : n < vs.length := by omega
          have e1 : (vs.toArray ++ Array.replicate (fn.ntmps - vs.toArray.size) undef).getD n undef = vs[n] := by
            rw [Array.getD_eq_getD_getElem?, Array.getElem?_append_left (by simpa using hv)]
            simp [hv]
          rw [e1]
          exact (A.DenL_iff.1 hd).2 n _ _ (List.getElem?_eq_getElem q) (List.getElem?_eq_getElem hv)
        · rw [List.getElem?_eq_none q]
          simp [A.Den]
      res := h.res, own := h.now.own, apart := h.apart }
  refine hbody none M0 (LiveB m ρ) w ρ _ w rfl h0 hlt' _ ?_
  intro ex e T' m' ds' ρ' a' w' hp h1 hO hex
  obtain ⟨md, mf, r0, hmd, hL, g, gi, hg1, hg2, hfix, hr0, hsub⟩ := hpost ex T' m' ds' hp
  subst hr0
  have key : ∀ (e : Ending) (w2 : World) (ρ2 : Nat → Value), SatAt M0 (LiveB m ρ) w ⟨fn.ntmps, some []⟩ T' mf ρ2 { a' with defers := [] } w2 → Onto m' mf ρ' ρ2 → r0.Den w2 (Mut M0 mf ρ2) mf ρ2 e →
      ∃ ρ', SatAt M0 S0 w0 N T (applyU m u) ρ' a w2 ∧ Onto m (applyU m u) ρ ρ' ∧ (r0.ren g).Den w2 (Mut M0 (applyU m u) ρ') (applyU m u) ρ' e := by
    intro e w2 ρ2 s o q
    obtain ⟨s', hden⟩ := s.ren hg1 hg2
    have hO' := onto_ren hg1 hfix (hO.trans o)
    have hb := h.back s' hO'
    have hsub' : ∀ i q, applyU m u i = some q → renM g gi mf i = some q := by
      intro i q hq
      rcases hsub i q hq with ⟨q0, e1, rfl⟩ | ⟨e1, e2⟩
      · unfold renM; rw [e1]; rfl
      · have e3 := hfix i (by rw [e1]; simp)
        have e4 : gi i = i := by have := hg1 i; rwa [e3] at this
        unfold renM; rw [e4, e2]
        have hd := R.hs_dom (h.res i q e1)
        have hit : q.ren g = q := by
          cases q with
          | it i' sc st se =>
            obtain ⟨_, _, _, _, _, _, g1, g2, g3⟩ := h.res i _ e1
            simp only [R.ren]
            have es : st.map g = st := by
              conv => rhs; rw [← List.map_id st]
              exact List.map_congr_left fun j hj => hfix j (g3.2.1 j hj)
            have ee : se.map g = se := by
              conv => rhs; rw [← List.map_id se]
              exact List.map_congr_left fun j hj => hfix j (g3.2.1 j (g3.1 j hj))
            rw [es, ee, hfix i' g1.1, hfix sc g2.1]
          | _ => exact (R.ren_congr (f := g) (g := fun i => i) _ rfl fun j hj => hfix j (hd j hj)).trans (R.ren_id _)
        simp only [Option.map_some, hit]
    cases r0 with
    | ok v =>
      obtain ⟨y, rfl, hy⟩ := q
      obtain ⟨k1, k2, k3⟩ := h.cut hb hO' hsub' hv hc (hden _ _ hy)
      exact ⟨_, k1, k2, y, rfl, k3⟩
    | pan v =>
      obtain ⟨y, rfl, hy⟩ := q
      obtain ⟨k1, k2, k3⟩ := h.cut hb hO' hsub' hv hc (hden _ _ hy)
      exact ⟨_, k1, k2, y, rfl, k3⟩
  cases ex with
  | nm =>
    simp only [Ex.Den] at hex; subst hex
    simp only [exMd, Option.some.injEq] at hmd; subst hmd
    exact hL fn.ntmps M0 (LiveB m ρ) w ρ' a' w' _ h1 hlt' rfl _ key
  | ret =>
    simp only [Ex.Den] at hex; subst hex
    simp only [exMd, Option.some.injEq] at hmd; subst hmd
    exact hL fn.ntmps M0 (LiveB m ρ) w ρ' a' w' _ h1 hlt' rfl _ key
  | pan v =>
    obtain ⟨y, rfl, hy⟩ := hex
    simp only [exMd, Option.some.injEq] at hmd; subst hmd
    exact hL fn.ntmps M0 (LiveB m ρ) w ρ' a' w' _ h1 hlt' ⟨y, rfl, hy⟩ _ key
  | ext id => cases hmd
end Go.Pv

namespace Go.Pv
open Go.RowKit
set_option linter.unusedVariables false
set_option linter.unusedSimpArgs false
set_option linter.constructorNameAsVariable false

/-! a round of a loop over a function, at the machine -/
def roundX (P : Program) (l : Nat) (R : Ending → World → Prop) : Exit → Act → World → Prop
  | .normal, _, w => ∃ v w', (Instr.endRound l none).run P w = .ok v w' ∧ R (.returned v) w'
  | .ret, _, w => ∃ v w', (Instr.endRound l (some .ret)).run P w = .ok v w' ∧ R (.returned v) w'
  | .exit id, _, w => ∃ v w', (Instr.endRound l (some (.exit id))).run P w = .ok v w' ∧ R (.returned v) w'
  | _, _, _ => False

theorem roundIn_of {P : Program} {ro : Option Nat} {l : Nat} {f : FuncId} {tmps : Array Value} {asg bod : Code} {w : World} {R : Ending → World → Prop}
    (h : asg.wpIn (FW (some l)) 0 P (fun e a₁ w₁ => e = .normal ∧ ∃ w₂, (Instr.beginRound l).run P w₁ = .ok () w₂ ∧ bod.wpIn (FW (some l)) 0 P (roundX P l R) a₁ w₂) { tmps := tmps, defers := [] } w) :
    RoundIn (FW ro) 0 P l f tmps asg bod w R := by
  refine ⟨trivial, fun c cs _ => ?_⟩
  have hr' : (FW (some l)).room ((c :: cs).length + 1 + 0) := fun d e => by cases e
  let b : Frame := { (default : Frame) with fn := f, kind := .normal, roundOf := some l }
  have hb0 : Frame.round l f tmps asg bod .normal = b.atR { tmps := tmps, defers := [] } [.code asg, .beginRound, .code bod] := by
    simp [Frame.round, Frame.atR, b]
  obtain ⟨e, a₁, w₁, ⟨he, w₂, hbr, hbody⟩, harr⟩ := h b [.beginRound, .code bod] (c :: cs) rfl trivial hr'
  subst he
  rw [← hb0] at harr
  have s0 : Steps P (lone (Frame.round l f tmps asg bod .normal) (c :: cs) w) (lone (b.atR a₁ [.beginRound, .code bod]) (c :: cs) w₁) := harr.steps
  have s1 : Steps P (lone (b.atR a₁ [.beginRound, .code bod]) (c :: cs) w₁) (lone (b.atR a₁ [.code bod]) (c :: cs) w₂) := .one (stepR_beginRound rfl hbr)
  obtain ⟨e₂, a₂, w₃, hq₂, harr₂⟩ := hbody b [] (c :: cs) rfl trivial hr'
  have fin : ∀ {v : Value} {w4 : World}, Steps P (lone (b.atR a₁ [.code bod]) (c :: cs) w₂) (lone (c.finish v) cs w4) → R (.returned v) w4 → ∃ e w', R e w' ∧ ComesIn (Machine.fenced P (FW ro)) P (lone (Frame.round l f tmps asg bod .normal) (c :: cs) w)
      (match e with
       | .returned v => lone (c.finish v) cs w'
       | .panicked chain => lone (c.raise chain) cs w'
       | .outgrown => lone c cs w') e := by
    intro v w4 hs hR
    exact ⟨.returned v, w4, hR, (StepsIn.of_steps ((s0.trans s1).trans hs)).mono fun m _ => fenced_wide P m⟩
  cases e₂ with
  | normal =>
    obtain ⟨v, w₄, hend, hR⟩ := hq₂
    exact fin (Steps.trans harr₂.steps (.one (stepR_round_end rfl rfl hend))) hR
  | ret =>
    obtain ⟨v, w₄, hend, hR⟩ := hq₂
    obtain ⟨k₁, hs⟩ := harr₂.2 rfl
    exact fin (Steps.trans hs.steps (.one (stepR_round_ret rfl rfl hend))) hR
  | exit id =>
    obtain ⟨v, w₄, hend, hR⟩ := hq₂
    obtain ⟨k₁, hk, hs⟩ := harr₂.2 rfl rfl
    exact fin (Steps.trans hs.steps (.one (stepR_round_exit rfl rfl hk hend))) hR
  | _ => exact hq₂.elim

abbrev rangeCall (g : Operand) (l : Nat) : Call := { callee := .value g, args := #[.const (.func (.yield l) #[] #[])], argTypes := #[] }

theorem step_endRF {P : Program} {b : Frame} {a : Act} {k : List Item} {cs : List Frame} {w w' : World} {l : Nat} {jump : Option Code} (h : (Instr.endLoop l).run P w = .ok jump w') :
    step P (lone (b.at a (.endRangeFunc l :: k)) cs w) = .next (lone (b.at a ((jump.map Item.code).toList ++ k)) cs w') :=
  step_lone_go (by simp [stepG, stepG.exec, Frame.at, Sem.runT_eq, h, GStep.bare_after])

theorem step_RF {P : Program} {b : Frame} {a : Act} {k : List Item} {cs : List Frame} {w : World} {g : Operand} {ps : Array Tmp} {asg bod : Code} {l : Nat} {mark : List Deferred} {w₁ w₁' w₂ : World} {d : Deferred} {f : FuncId} {args : Array Value}
    (he : (Instr.enterLoop b.fn a.tmps ps asg bod none).run P w = .ok (l, mark) w₁)
    (hres : (resolve a.eval (rangeCall g l) 0).run P w₁ = .ok d w₁') (hinv : (invoke d.target d.args).run P w₁' = .ok (.enter f args) w₂) :
    step P (lone (b.at a (.code (.rangeFunc g ps asg bod) :: k)) cs w) =
      .next (lone (Frame.enter P f args .normal) (b.at { a with defers := mark ++ a.defers } (.inRangeFunc l :: k) :: cs) w₂) :=
  step_lone_go (by
    have hev := Frame.eval_at' b { a with defers := mark ++ a.defers } (.inRangeFunc l :: k)
    simp only [Frame.at] at hev
    have hres' : Sem.run P (resolve ({ tmps := a.tmps, defers := mark ++ a.defers } : Act).eval { callee := .value g, args := #[.const (.func (.yield l) #[] #[])], argTypes := #[] } 0) w₁ = .ok d w₁' := hres
    simp [stepG, stepG.exec, Frame.at, Sem.runT_eq, he, GStep.bare_after, stepG.apply, hev, Sem.run_bind, hres', hinv, Result.andThen])

theorem finish_atRF {b : Frame} {a : Act} {k : List Item} (l : Nat) (v : Value) : (b.at a (.inRangeFunc l :: k)).finish v = b.at a (.endRangeFunc l :: k) := by
  simp [Frame.finish, Frame.at]

theorem wp_rangeFunc {P : Program} {g : Operand} {ps : Array Tmp} {asg bod : Code} {Q : Exit → Act → World → Prop} {a : Act} {w : World}
    (h : ∀ fn, ∃ (l : Nat) (mark : List Deferred) (w₁ : World) (d : Deferred) (w₁' : World) (f : FuncId) (args : Array Value) (w₂ : World),
      (Instr.enterLoop fn a.tmps ps asg bod none).run P w = .ok (l, mark) w₁ ∧ (resolve a.eval (rangeCall g l) 0).run P w₁ = .ok d w₁' ∧ (invoke d.target d.args).run P w₁' = .ok (.enter f args) w₂ ∧
      Calls P f args w₂ fun e w3 => (∃ v jump w4, e = .returned v ∧ (Instr.endLoop l).run P w3 = .ok jump w4 ∧ (match jump with
          | none => Q .normal { a with defers := mark ++ a.defers } w4
          | some c => c.wp P Q { a with defers := mark ++ a.defers } w4)) ∨ ∃ ch, e = .panicked ch ∧ Q (.panic ch) { a with defers := mark ++ a.defers } w3) :
    (Code.rangeFunc g ps asg bod).wp P Q a w := by
  intro b k cs
  obtain ⟨l, mark, w₁, d, w₁', f, args, w₂, he, hres, hinv, hcall⟩ := h b.fn
  have henter := step_RF (P := P) (b := b) (a := a) (k := k) (cs := cs) (w := w) he hres hinv
  obtain ⟨e, w₃, fr, hR, hsteps, hfn, hleave⟩ := hcall (b.at { a with defers := mark ++ a.defers } (.inRangeFunc l :: k) :: cs)
  rcases hR with ⟨v, jump, w4, rfl, hend, hj⟩ | ⟨ch, rfl, hq⟩
  · have sback : Steps P (lone (b.at a (.code (.rangeFunc g ps asg bod) :: k)) cs w) (lone (b.at { a with defers := mark ++ a.defers } ((jump.map Item.code).toList ++ k)) cs w4) := by
      refine .head henter (Steps.trans hsteps (.head (step_leave_returned hleave) ?_))
      rw [finish_atRF]
      exact .one (step_endRF hend)
    cases jump with
    | none => exact ⟨.normal, _, w4, hj, sback⟩
    | some c =>
      obtain ⟨e', a'', w5, hq, harr⟩ := hj b k cs
      exact ⟨e', a'', w5, hq, .of_steps sback harr⟩
  · refine ⟨.panic ch, _, w₃, hq, .inRangeFunc l :: k, .head henter (Steps.trans hsteps (.one ?_))⟩
    rw [← Frame.raise_at]; exact step_leave_panicked hleave
end Go.Pv

namespace Go.Pv
open Go.RowKit
set_option linter.unusedVariables false
set_option linter.unusedSimpArgs false
set_option linter.constructorNameAsVariable false

section
variable {M0 S0 : Nat → Prop} {w0 : World} {N : Fr} {T : Nat → A} {m : Mem} {ρ : Nat → Value} {a : Act} {w : World} {P : Program}

/-- a loop's record turns -/
theorem SatAt.loset (h : SatAt M0 S0 w0 N T m ρ a w) {i : Nat} {st : LoopState} {pe : Option Code} {ts : List A} {ps : Array Tmp} {asg bod : Code} (hi : m i = some (.lo st pe ts ps asg bod)) :
    ∃ l fn vs D, ρ i = .func (.yield l) #[] #[] ∧ w.heap[l]? = some (.loop { state := st, pending := pe, fn := fn, tmps := vs, params := ps, assign := asg, body := bod, defers := D }) ∧ A.DenL w (Mut M0 m ρ) m ρ ts vs.toList ∧
      ∀ st' pe', SatAt M0 S0 w0 N T (setM m i (.lo st' pe' ts ps asg bod)) ρ a (w.putObj l (.loop { state := st', pending := pe', fn := fn, tmps := vs, params := ps, assign := asg, body := bod, defers := D })) ∧ Onto m (setM m i (.lo st' pe' ts ps asg bod)) ρ ρ := by
  obtain ⟨l, fn, vs, D, e, hw, hd⟩ := h.res i _ hi
  refine ⟨l, fn, vs, D, e, hw, hd, fun st' pe' => ⟨?_, ?_⟩⟩
  · refine h.write hi rfl rfl (fun fz t es l e => by cases e) (putObj_keeps w l _) (fun b _ e' => by subst e'; rw [e]; rfl) ?_
    intro hO hst hmu
    exact ⟨l, fn, vs, D, e, putObj_at hw, A.DenL_mono hst hmu hO _ _ hd⟩
  · have := Onto.set (m := m) (ρ := ρ) i (.lo st' pe' ts ps asg bod) (ρ i) (fun _ _ => ⟨by rw [hi]; simp, rfl, fun fz t es l e => by rw [hi] at e; cases e⟩)
    rwa [setH_same] at this

theorem run_getLoop {l : Nat} {r : Loop} (h : w.heap[l]? = some (.loop r)) : (Instr.getLoop l).run P w = .ok r w := by
  unfold Instr.getLoop
  have e1 : (getObj l).run P w = .ok (.loop r) w := by simp [getObj, h, Sem.run]
  simp only [Sem.run_bind, e1, Result.andThen_ok]
  simp
theorem run_setLoop {l : Nat} {r : Loop} {o : Obj} (h : w.heap[l]? = some (.loop r)) : (setObj l o).run P w = .ok () (w.putObj l o) := putObj_run h (by intro c e f h; cases h)

def setPs : List (Tmp × A) → (Nat → A) → (Nat → A)
  | [], T => T
  | p :: r, T => setPs r (setT T (some p.1) p.2)

theorem setPs_den {M : Nat → Prop} : ∀ {ps : List Tmp} {as : List A} {vs : List Value} {T : Nat → A} {tmps : Array Value}, A.DenL w M m ρ as vs → (∀ p ∈ ps, p < tmps.size) → (∀ n, (T n).Den w M m ρ (tmps.getD n undef)) →
    ∀ n, ((setPs (ps.zip as) T) n).Den w M m ρ (((ps.zip vs).foldl (fun t (p : Tmp × Value) => t.setIfInBounds p.1 p.2) tmps).getD n undef) ∧ ((ps.zip vs).foldl (fun t (p : Tmp × Value) => t.setIfInBounds p.1 p.2) tmps).size = tmps.size
  | [], as, vs, T, tmps, _, _, h, n => ⟨by simpa [setPs] using h n, by simp⟩
  | p :: ps, [], vs, T, tmps, hd, _, h, n => by
    simp only [A.DenL] at hd; subst hd
    exact ⟨by simpa [setPs] using h n, by simp⟩
  | p :: ps, c :: as, vs, T, tmps, hd, hp, h, n => by
    simp only [A.DenL] at hd
    obtain ⟨y, yr, rfl, h1, h2⟩ := hd
    have hlt := hp p (by simp)
    have := setPs_den (ps := ps) (T := setT T (some p) c) (tmps := tmps.setIfInBounds p y) h2 (fun q hq => by simpa using hp q (by simp [hq])) (fun k => by
      unfold setT
      by_cases e : p = k
      · subst e
        simp only [if_true]
        rw [Array.getD_eq_getD_getElem?, Array.getElem?_setIfInBounds_self_of_lt hlt]
        exact h1
      · rw [if_neg (by simpa using e), Array.getD_eq_getD_getElem?, Array.getElem?_setIfInBounds_ne e, ← Array.getD_eq_getD_getElem?]
        exact h k) n
    simpa [setPs] using this
end

/-- how a round ends: what yield answers, the loop's state, the jump that is pending -/
def exLo : Ex → Option (Bool × LoopState × Option Code)
  | .nm => some (true, .ready, none)
  | .ret => some (false, .done, some .ret)
  | .ext id => some (false, .done, some (.exit id))
  | .pan _ => none

/-- yield is called: a round -/
theorem OpN.yield {P : Program} {o : Oper} {T : Nat → A} {m : Mem} {c : Call} {fo : Operand} {i : Nat} {ts : List A} {ps : Array Tmp} {asg bod : Code} {PostA PostB : PostT} {outs : List Ot}
    (ho : o.op = .call c) (hc : c.callee = .value fo) (hf : evT T fo = .h i) (hi : m i = some (.lo .ready none ts ps asg bod)) (hlen : c.args.size = ps.size) (hps : ∀ p ∈ ps.toList, p < ts.length)
    (hA : CodeT P true ts.length asg (setPs (ps.toList.zip (c.args.toList.map (evT T))) (argsT ts)) m [] PostA)
    (hAB : ∀ ex T1 m1 ds1, PostA ex T1 m1 ds1 → ex = .nm ∧ ds1 = [] ∧ ∃ pe1 ts1 ps1 asg1 bod1, m1 i = some (.lo .ready pe1 ts1 ps1 asg1 bod1) ∧ CodeT P true ts.length bod T1 (setM m1 i (.lo .busy pe1 ts1 ps1 asg1 bod1)) [] PostB)
    (hB : ∀ ex T2 m2 ds2, PostB ex T2 m2 ds2 → ∃ b st pe, exLo ex = some (b, st, pe) ∧ ∃ st2 pe2 ts2 ps2 asg2 bod2, m2 i = some (.lo st2 pe2 ts2 ps2 asg2 bod2) ∧ ∃ u ∈ outs, u.1 = .ok (.d (.v (.bool b))) ∧ (∀ j q, applyU m u.2 j = some q → setM m2 i (.lo st pe ts2 ps2 asg2 bod2) j = some q) ∧ ∀ p ∈ u.2, ∀ j ∈ p.2.hs, applyU m u.2 j ≠ none) :
    OpN P o T m outs := by
  intro ro N M0 S0 w0 ρ a w h hlt next Q hn
  obtain ⟨l, fn, vs, D, hρ, hw, hden, _⟩ := h.loset hi
  have hfo := ev_den h fo
  rw [hf] at hfo
  simp only [A.Den] at hfo
  have hfv := has_of hfo hi (by simp)
  rw [hρ] at hfv
  have hlen2 := (A.DenL_iff.1 hden).1
  have hrun : (execOp a.eval o).run P w = .ok (.round l fn ((ps.toList.zip (c.args.toList.map a.eval)).foldl (fun t (p : Tmp × Value) => t.setIfInBounds p.1 p.2) vs) asg bod) w := by
    have e1 : (Instr.yield l (c.args.map a.eval)).run P w = .ok (.round l fn ((ps.toList.zip (c.args.toList.map a.eval)).foldl (fun t (p : Tmp × Value) => t.setIfInBounds p.1 p.2) vs) asg bod) w := by
      unfold Instr.yield
      rw [Sem.run_bind, run_getLoop hw]
      simp only [Result.andThen_ok]
      rw [if_neg (by simpa using hlen)]
      have e2 : (ps.zip (c.args.map a.eval)) = (ps.toList.zip (c.args.toList.map a.eval)).toArray := by
        apply Array.ext'
        simp
      simp only [e2, List.foldl_toArray]
      simp
    simp only [execOp, ho, resolve, hc, hfv, Deferred.ofValue, Sem.run_bind, Sem.run_pure, Result.andThen_ok, invoke]
    simpa using e1
  refine wpIn_run (by unfold noDefer; rw [ho]) ?_
  rw [hrun, Oper.uponIn_round]
  refine ⟨fun e => (by cases e), ?_⟩
  refine roundIn_of ?_
  have hlt' : ∀ b, M0 b → b < w.heap.size := fun b hb => Nat.lt_of_lt_of_le (hlt b hb) h.keeps.size
  have hargs := denL_map_ev h c.args.toList
  have hT := fun n => setPs_den (T := argsT ts) (tmps := vs) hargs (fun p hp => by have := hps p hp; rw [hlen2] at this; simpa using this) (fun n => by
    unfold argsT
    rcases Nat.lt_or_ge n ts.length with q | q
    · rw [List.getElem?_eq_getElem q]
      have hv : n < vs.toList.length := by omega
      have e1 : vs.getD n undef = vs.toList[n] := by
        rw [Array.getD_eq_getD_getElem?]
        simp at hv
        simp [hv]
      rw [e1]
      exact (A.DenL_iff.1 hden).2 n _ _ (List.getElem?_eq_getElem q) (List.getElem?_eq_getElem hv)
    · rw [List.getElem?_eq_none q]
      simp [A.Den]) n
  have h0 : SatAt M0 (LiveB m ρ) w ⟨ts.length, some []⟩ (setPs (ps.toList.zip (c.args.toList.map (evT T))) (argsT ts)) m ρ { tmps := (ps.toList.zip (c.args.toList.map a.eval)).foldl (fun t (p : Tmp × Value) => t.setIfInBounds p.1 p.2) vs, defers := [] } w :=
    { keeps := Keeps.refl _ _, size := by simp only; rw [(hT 0).2, hlen2]; simp
      defers := fun ds e => by simp at e; subst e; rfl
      tmps := fun n => (hT n).1
      res := h.res, own := h.now.own, apart := h.apart }
  refine hA (some l) M0 (LiveB m ρ) w ρ _ w rfl h0 hlt' _ ?_
  intro ex e T1 m1 ds1 ρ1 a1 w1 hp h1 hO hex
  obtain ⟨rfl, rfl, pe1, ts1, ps1, asg1, bod1, hi1, hBody⟩ := hAB ex T1 m1 ds1 hp
  simp only [Ex.Den] at hex
  refine ⟨hex, ?_⟩
  have hρ1 : ρ1 i = ρ i := ((hO i (by rw [hi]; simp)).2 (by rw [hi1]; simp)).2.1
  obtain ⟨l1, fn1, vs1, D1, e1, hw1, hden1, hset1⟩ := h1.loset hi1
  rw [hρ1, hρ] at e1
  simp only [Value.func.injEq, Fn.yield.injEq, and_true] at e1
  subst e1
  refine ⟨w1.putObj l (.loop { state := .busy, pending := pe1, fn := fn1, tmps := vs1, params := ps1, assign := asg1, body := bod1, defers := D1 }), ?_, ?_⟩
  · unfold Instr.beginRound
    rw [Sem.run_bind, run_getLoop hw1]
    simp only [Result.andThen_ok]
    rw [Sem.run_bind, run_setLoop hw1]
    simp
  obtain ⟨h2, hO2⟩ := hset1 .busy pe1
  refine hBody (some l) M0 (LiveB m ρ) w ρ1 a1 _ rfl h2 hlt' _ ?_
  intro ex e T3 m3 ds3 ρ3 a3 w3 hp3 h3 hO3 hex3
  obtain ⟨b, st, pe, hlo, st2, pe2, ts2, ps2, asg2, bod2, hi3, u, hu, hu1, hsub, hcl⟩ := hB ex T3 m3 ds3 hp3
  have hρ3 : ρ3 i = ρ i := (((hO3 i (by simp [setM])).2 (by rw [hi3]; simp)).2.1).trans hρ1
  obtain ⟨l3, fn3, vs3, D3, e3, hw3, hden3, hset3⟩ := h3.loset hi3
  rw [hρ3, hρ] at e3
  simp only [Value.func.injEq, Fn.yield.injEq, and_true] at e3
  subst e3
  obtain ⟨h4, hO4⟩ := hset3 st pe
  have hOall := ((hO.trans hO2).trans hO3).trans hO4
  have hb := h.back h4 hOall
  obtain ⟨k1, k2, k3⟩ := h.cut (v := .d (.v (.bool b))) (y := .bool b) hb hOall hsub (by simp [A.hs]) hcl (by simp only [A.Den, C.Den])
  have hfin := (hn u (.bool b) _ ρ3 hu k1 k2).1 _ hu1 k3
  have hend : ∀ (j : Option Code), pe = j → st = (if j.isNone then .ready else .done) → b = j.isNone → (Instr.endRound l j).run P w3 = .ok (.bool b) (w3.putObj l (.loop { state := st, pending := pe, fn := fn3, tmps := vs3, params := ps2, assign := asg2, body := bod2, defers := D3 })) := by
    rintro j rfl rfl rfl
    unfold Instr.endRound
    rw [Sem.run_bind, run_getLoop hw3]
    simp only [Result.andThen_ok]
    rw [Sem.run_bind, run_setLoop hw3]
    simp
  cases ex with
  | nm =>
    simp only [Ex.Den] at hex3; subst hex3
    simp only [exLo, Option.some.injEq, Prod.mk.injEq] at hlo
    obtain ⟨rfl, rfl, rfl⟩ := hlo
    exact ⟨_, _, hend none rfl rfl rfl, hfin⟩
  | ret =>
    simp only [Ex.Den] at hex3; subst hex3
    simp only [exLo, Option.some.injEq, Prod.mk.injEq] at hlo
    obtain ⟨rfl, rfl, rfl⟩ := hlo
    exact ⟨_, _, hend (some .ret) rfl rfl rfl, hfin⟩
  | ext id =>
    simp only [Ex.Den] at hex3; subst hex3
    simp only [exLo, Option.some.injEq, Prod.mk.injEq] at hlo
    obtain ⟨rfl, rfl, rfl⟩ := hlo
    exact ⟨_, _, hend (some (.exit id)) rfl rfl rfl, hfin⟩
  | pan v => cases hlo
end Go.Pv

namespace Go.Pv
open Go.RowKit
set_option linter.unusedVariables false
set_option linter.unusedSimpArgs false
set_option linter.constructorNameAsVariable false

def allT (n : Nat) (T : Nat → A) : List A := (List.range n).map T

theorem allT_den {w : World} {M : Nat → Prop} {m : Mem} {ρ : Nat → Value} {n : Nat} {T : Nat → A} {tmps : Array Value} (hn : tmps.size = n) (h : ∀ k, (T k).Den w M m ρ (tmps.getD k undef)) : A.DenL w M m ρ (allT n T) tmps.toList := by
  rw [A.DenL_iff]
  refine ⟨by simp [allT, hn], fun j c y hc hy => ?_⟩
  obtain ⟨hj, rfl⟩ := List.getElem?_eq_some_iff.1 hy
  have hjn : j < n := by simpa [hn] using hj
  simp only [allT, List.getElem?_map, List.getElem?_range hjn, Option.map_some, Option.some.injEq] at hc
  subst hc
  have := h j
  have hj' : j < tmps.size := by simpa using hj
  simpa [Array.getD_eq_getD_getElem?, hj'] using this

theorem run_enterLoop {P : Program} {w : World} (fn : FuncId) (tmps : Array Value) (ps : Array Tmp) (asg bod : Code) :
    (Instr.enterLoop fn tmps ps asg bod none).run P w = .ok ((w.alloc (.deferred (some []))).heap.size, [{ target := .collected w.heap.size, args := #[] }])
      ((w.alloc (.deferred (some []))).alloc (.loop { state := .ready, pending := none, fn := fn, tmps := tmps, params := ps, assign := asg, body := bod, defers := w.heap.size })) := by
  have e1 : ∀ (o : Obj) (w : World), (newObj o).run P w = .ok w.heap.size (w.alloc o) := fun _ _ => rfl
  simp only [Instr.enterLoop, Sem.run_bind, e1, Result.andThen_ok, Sem.run_pure]

/-- what a jump that is pending does -/
def jumpPost (Post : PostT) (T : Nat → A) (m : Mem) (ds : List DA) : Option Code → Prop
  | none => Post .nm T m ds
  | some .ret => Post .ret T m ds
  | some (.exit id) => Post (.ext id) T m ds
  | _ => False

theorem CodeT.rangeFunc {P : Program} {n : Nat} {T : Nat → A} {m m2 : Mem} {ds : List DA} {Post : PostT} {g : Operand} {ps : Array Tmp} {asg bod : Code} {gf : FuncId} {us vs : List A} {i j : Nat} {r : Rt}
    (hg : evT T g = .fn (.func gf) us vs ∨ ∃ cu cv, evT T g = .d (.fn (.func gf) cu cv) ∧ us = cu.map A.d ∧ vs = cv.map A.d) (hi : m i = none) (hj : m j = none) (hij : i ≠ j)
    (hcall : CallT P gf (us ++ ([.h j] ++ vs)) (setM (setM m i (.df false)) j (.lo .ready none (allT n T) ps asg bod)) r m2)
    (hok : ∀ v, r = .ok v → ∃ st pe ts' ps' asg' bod', m2 j = some (.lo st pe ts' ps' asg' bod') ∧ st ≠ .busy ∧ jumpPost Post T (setM m2 j (.lo .exhausted pe ts' ps' asg' bod')) (.coll i :: ds) pe)
    (hpan : ∀ v, r = .pan v → Post (.pan v) T m2 (.coll i :: ds)) : CodeT P false n (.rangeFunc g ps asg bod) T m ds Post := by
  intro ro M0 S0 w0 ρ a w hro hs hlt Q hQ
  have hro' : ro = none := by cases ro with
    | none => rfl
    | some _ => cases hro
  subst hro'
  refine wpIn_wide.2 (wp_rangeFunc fun fn => ?_)
  -- the block of what the rounds defer
  obtain ⟨w1, hw1⟩ : ∃ w1, w1 = w.alloc (.deferred (some [])) := ⟨_, rfl⟩
  have h1 : SatAt M0 S0 w0 ⟨n, some ds⟩ T (setM m i (.df false)) (setH ρ i (.pointer (some ⟨w.heap.size, 0, none⟩))) a w1 := by
    subst hw1
    exact hs.newres hlt (keeps_alloc w _) hi rfl (by simp [blk]) fun _ _ _ => ⟨w.heap.size, rfl, heap_alloc_new w _⟩
  have hO1 : Onto m (setM m i (.df false)) ρ (setH ρ i (.pointer (some ⟨w.heap.size, 0, none⟩))) := Onto.new _ _ hi
  have hρ1 : setH ρ i (.pointer (some ⟨w.heap.size, 0, none⟩)) i = .pointer (some ⟨w.heap.size, 0, none⟩) := by simp [setH]
  revert h1 hO1 hρ1
  generalize setH ρ i (.pointer (some ⟨w.heap.size, 0, none⟩)) = ρ1
  intro h1 hO1 hρ1
  have hj1 : setM m i (.df false) j = none := by simp [setM, Ne.symm hij, hj]
  -- the loop's record
  obtain ⟨w2, hw2⟩ : ∃ w2, w2 = w1.alloc (.loop { state := .ready, pending := none, fn := fn, tmps := a.tmps, params := ps, assign := asg, body := bod, defers := w.heap.size }) := ⟨_, rfl⟩
  have hden : A.DenL w1 (Mut M0 (setM m i (.df false)) ρ1) (setM m i (.df false)) ρ1 (allT n T) a.tmps.toList := allT_den h1.size h1.tmps
  have h2 : SatAt M0 S0 w0 ⟨n, some ds⟩ T (setM (setM m i (.df false)) j (.lo .ready none (allT n T) ps asg bod)) (setH ρ1 j (.func (.yield w1.heap.size) #[] #[])) a w2 := by
    subst hw2
    refine h1.newres hlt (keeps_alloc w1 _) hj1 rfl (by simp [blk]) fun hO hst hmu => ?_
    exact ⟨w1.heap.size, fn, a.tmps, w.heap.size, rfl, heap_alloc_new w1 _, A.DenL_mono hst hmu hO _ _ hden⟩
  have hO2 : Onto (setM m i (.df false)) (setM (setM m i (.df false)) j (.lo .ready none (allT n T) ps asg bod)) ρ1 (setH ρ1 j (.func (.yield w1.heap.size) #[] #[])) := Onto.new _ _ hj1
  have hρ2 : setH ρ1 j (.func (.yield w1.heap.size) #[] #[]) j = .func (.yield w1.heap.size) #[] #[] := by simp [setH]
  have hρ2i : setH ρ1 j (.func (.yield w1.heap.size) #[] #[]) i = .pointer (some ⟨w.heap.size, 0, none⟩) := by simp [setH, hij, hρ1]
  revert h2 hO2 hρ2 hρ2i
  generalize setH ρ1 j (.func (.yield w1.heap.size) #[] #[]) = ρ2
  intro h2 hO2 hρ2 hρ2i
  -- the frame with the mark
  have h3 : SatAt M0 S0 w0 ⟨n, some (.coll i :: ds)⟩ T (setM (setM m i (.df false)) j (.lo .ready none (allT n T) ps asg bod)) ρ2 { a with defers := [{ target := .collected w.heap.size, args := #[] }] ++ a.defers } w2 :=
    { keeps := h2.keeps, size := h2.size
      defers := fun ds' e => by
        simp only [Option.some.injEq] at e; subst e
        exact ⟨w.heap.size, a.defers, rfl, ⟨by simp [setM, hij], fun _ => hρ2i⟩, h2.defers ds rfl⟩
      tmps := h2.tmps, res := h2.res, own := h2.own, apart := h2.apart }
  have hO3 := hO1.trans hO2
  -- the callee
  have hgv := ev_den h2 g
  have hargs : ∃ ua va : Array Value, a.eval g = .func (.func gf) ua va ∧ A.DenL w2 (Mut M0 (setM (setM m i (.df false)) j (.lo .ready none (allT n T) ps asg bod)) ρ2) (setM (setM m i (.df false)) j (.lo .ready none (allT n T) ps asg bod)) ρ2 us ua.toList ∧ A.DenL w2 (Mut M0 (setM (setM m i (.df false)) j (.lo .ready none (allT n T) ps asg bod)) ρ2) (setM (setM m i (.df false)) j (.lo .ready none (allT n T) ps asg bod)) ρ2 vs va.toList := by
    rcases hg with e | ⟨cu, cv, e, rfl, rfl⟩
    · rw [e] at hgv
      simp only [A.Den] at hgv
      obtain ⟨ua, va, q1, q2, q3⟩ := hgv
      exact ⟨ua, va, q1, q2, q3⟩
    · rw [e] at hgv
      simp only [A.Den, C.Den] at hgv
      obtain ⟨ua, va, q1, q2, q3⟩ := hgv
      exact ⟨ua, va, q1, A.DenL_map_d.2 q2, A.DenL_map_d.2 q3⟩
  obtain ⟨ua, va, he, hu, hv⟩ := hargs
  have hyd : A.DenL w2 (Mut M0 (setM (setM m i (.df false)) j (.lo .ready none (allT n T) ps asg bod)) ρ2) (setM (setM m i (.df false)) j (.lo .ready none (allT n T) ps asg bod)) ρ2 [.h j] [.func (.yield w1.heap.size) #[] #[]] := by
    simp only [A.DenL, A.Den]
    exact ⟨_, _, rfl, ⟨by simp [setM], fun _ => hρ2.symm⟩, rfl⟩
  have harr : ua ++ #[Value.func (.yield w1.heap.size) #[] #[]] ++ va = (ua.toList ++ ([Value.func (.yield w1.heap.size) #[] #[]] ++ va.toList)).toArray := by
    cases ua; cases va; simp
  refine ⟨w1.heap.size, [{ target := .collected w.heap.size, args := #[] }], w2, ⟨.fn (.func gf) va, ua ++ #[.func (.yield w1.heap.size) #[] #[]]⟩, w2, gf, ua ++ #[.func (.yield w1.heap.size) #[] #[]] ++ va, w2, ?_, ?_, ?_, ?_⟩
  · rw [run_enterLoop, hw2, hw1]
  · have e4 : (Array.map a.eval #[Operand.const (.func (.yield w1.heap.size) #[] #[])]) = #[.func (.yield w1.heap.size) #[] #[]] := by simp [Act.eval]
    simp only [resolve, he, Deferred.ofValue, e4, Sem.run_pure]
  · simp only [invoke]
    rw [run_callFunc' hcall.1]
  rw [harr]
  refine (hcall.2 ⟨n, some (.coll i :: ds)⟩ T M0 S0 w0 ρ2 _ w2 h3 hlt _ (A.DenL_append hu (A.DenL_append hyd hv))).mono ?_
  rintro e w3 ⟨ρ3, h4, hO4, hr⟩
  cases r with
  | pan v =>
    obtain ⟨y, rfl, hy⟩ := hr
    exact .inr ⟨_, rfl, hQ (.pan v) _ T m2 _ ρ3 _ w3 (hpan v rfl) h4 (hO3.trans hO4) ⟨y, rfl, hy⟩⟩
  | ok v =>
    obtain ⟨y, rfl, hy⟩ := hr
    obtain ⟨st, pe, ts', ps', asg', bod', hj3, hst, hjump⟩ := hok v rfl
    obtain ⟨l3, fn3, vs3, D3, e3, hw3, hden3, hset3⟩ := h4.loset hj3
    have hρ3 : ρ3 j = ρ2 j := ((hO4 j (by simp [setM])).2 (by rw [hj3]; simp)).2.1
    rw [hρ3, hρ2] at e3
    simp only [Value.func.injEq, Fn.yield.injEq, and_true] at e3
    subst e3
    obtain ⟨h5, hO5⟩ := hset3 .exhausted pe
    refine .inl ⟨y, pe, w3.putObj w1.heap.size (.loop { state := .exhausted, pending := pe, fn := fn3, tmps := vs3, params := ps', assign := asg', body := bod', defers := D3 }), rfl, ?_, ?_⟩
    · unfold Instr.endLoop
      rw [Sem.run_bind, run_getLoop hw3]
      simp only [Result.andThen_ok]
      have hb : (st == .busy) = false := by simpa using hst
      simp only [hb, Bool.false_eq_true, if_false]
      rw [Sem.run_bind, run_setLoop hw3]
      simp
    · have hOf := (hO3.trans hO4).trans hO5
      cases pe with
      | none => exact hQ .nm _ T _ _ ρ3 _ _ hjump h5 hOf rfl
      | some c =>
        cases c with
        | ret => exact wp_ret (hQ .ret _ T _ _ ρ3 _ _ hjump h5 hOf rfl)
        | exit id => exact wp_exit (hQ (.ext id) _ T _ _ ρ3 _ _ hjump h5 hOf rfl)
        | _ => exact hjump.elim
end Go.Pv

namespace Go.Pv
open Go.RowKit
set_option linter.unusedVariables false
set_option linter.unusedSimpArgs false
set_option linter.constructorNameAsVariable false

/-- equal values without addresses -/
def vEq : Value → Value → Bool
  | .bool a, .bool b => a == b
  | .int k a, .int k' b => decide (k = k') && decide (a = b)
  | .string a, .string b => decide (a = b)
  | .pointer none, .pointer none => true
  | .map none, .map none => true
  | .nilFunc, .nilFunc => true
  | .nilIface, .nilIface => true
  | _, _ => false
theorem vEq_eq {a b : Value} (h : vEq a b = true) : a = b := by
  unfold vEq at h
  split at h <;> simp_all

mutual
def C.eqb : C → C → Bool
  | .v a, .v b => vEq a b
  | .sl e l, .sl e' l' => decide (e = e') && C.eqbLL l l'
  | .nl e, .nl e' => decide (e = e')
  | .ip l, .ip l' => C.eqbL l l'
  | .im ks vs, .im ks' vs' => decide (ks = ks') && C.eqbL vs vs'
  | .fn f x1 y1, .fn f' x2 y2 => decide (f = f') && (C.eqbL x1 x2 && C.eqbL y1 y2)
  | .agg l, .agg l' => C.eqbL l l'
  | .ifc t c, .ifc t' c' => decide (t = t') && C.eqb c c'
  | _, _ => false
def C.eqbL : List C → List C → Bool
  | [], [] => true
  | a :: r, b :: s => C.eqb a b && C.eqbL r s
  | _, _ => false
def C.eqbLL : List (List C) → List (List C) → Bool
  | [], [] => true
  | a :: r, b :: s => C.eqbL a b && C.eqbLL r s
  | _, _ => false
end

mutual
theorem C.eqb_eq : ∀ (a b : C), C.eqb a b = true → a = b
  | .v a, b, h => by cases b <;> simp only [C.eqb] at h <;> first | (rw [vEq_eq h]) | cases h
  | .sl e l, b, h => by
    cases b <;> simp only [C.eqb] at h <;> first
      | (rw [Bool.and_eq_true] at h; rw [of_decide_eq_true h.1, C.eqbLL_eq l _ h.2])
      | cases h
  | .nl e, b, h => by cases b <;> simp only [C.eqb] at h <;> first | (rw [of_decide_eq_true h]) | cases h
  | .ip l, b, h => by cases b <;> simp only [C.eqb] at h <;> first | (rw [C.eqbL_eq l _ h]) | cases h
  | .im ks vs, b, h => by
    cases b <;> simp only [C.eqb] at h <;> first
      | (rw [Bool.and_eq_true] at h; rw [of_decide_eq_true h.1, C.eqbL_eq vs _ h.2])
      | cases h
  | .fn f x1 y1, b, h => by
    cases b <;> simp only [C.eqb] at h <;> first
      | (rw [Bool.and_eq_true, Bool.and_eq_true] at h; rw [of_decide_eq_true h.1, C.eqbL_eq x1 _ h.2.1, C.eqbL_eq y1 _ h.2.2])
      | cases h
  | .agg l, b, h => by cases b <;> simp only [C.eqb] at h <;> first | (rw [C.eqbL_eq l _ h]) | cases h
  | .ifc t c, b, h => by
    cases b <;> simp only [C.eqb] at h <;> first
      | (rw [Bool.and_eq_true] at h; rw [of_decide_eq_true h.1, C.eqb_eq c _ h.2])
      | cases h
theorem C.eqbL_eq : ∀ (a b : List C), C.eqbL a b = true → a = b
  | [], b, h => by cases b <;> simp only [C.eqbL] at h <;> first | rfl | cases h
  | c :: r, b, h => by
    cases b with
    | nil => simp [C.eqbL] at h
    | cons d s =>
      simp only [C.eqbL, Bool.and_eq_true] at h
      rw [C.eqb_eq c d h.1, C.eqbL_eq r s h.2]
theorem C.eqbLL_eq : ∀ (a b : List (List C)), C.eqbLL a b = true → a = b
  | [], b, h => by cases b <;> simp only [C.eqbLL] at h <;> first | rfl | cases h
  | c :: r, b, h => by
    cases b with
    | nil => simp [C.eqbLL] at h
    | cons d s =>
      simp only [C.eqbLL, Bool.and_eq_true] at h
      rw [C.eqbL_eq c d h.1, C.eqbLL_eq r s h.2]
end

mutual
def A.eqb : A → A → Bool
  | .d a, .d b => C.eqb a b
  | .lp i o, .lp i' o' => decide (i = i') && decide (o = o')
  | .h i, .h i' => decide (i = i')
  | .ep i e k o, .ep i' e' k' o' => decide (i = i') && (decide (e = e') && (decide (k = k') && decide (o = o')))
  | .sv i l n, .sv i' l' n' => decide (i = i') && (decide (l = l') && decide (n = n'))
  | .fn f x1 y1, .fn f' x2 y2 => decide (f = f') && (A.eqbL x1 x2 && A.eqbL y1 y2)
  | .agg l, .agg l' => A.eqbL l l'
  | .tup l, .tup l' => A.eqbL l l'
  | .ifc t c, .ifc t' c' => decide (t = t') && A.eqb c c'
  | .x, .x => true
  | _, _ => false
def A.eqbL : List A → List A → Bool
  | [], [] => true
  | a :: r, b :: s => A.eqb a b && A.eqbL r s
  | _, _ => false
end

mutual
theorem A.eqb_eq : ∀ (a b : A), A.eqb a b = true → a = b
  | .d a, b, hh => by cases b <;> simp only [A.eqb] at hh <;> first | (rw [C.eqb_eq _ _ hh]) | cases hh
  | .lp i o, b, hh => by
    cases b <;> simp only [A.eqb] at hh <;> first
      | (rw [Bool.and_eq_true] at hh; rw [of_decide_eq_true hh.1, of_decide_eq_true hh.2])
      | cases hh
  | .h i, b, hh => by cases b <;> simp only [A.eqb] at hh <;> first | (rw [of_decide_eq_true hh]) | cases hh
  | .ep i e k o, b, hh => by
    cases b <;> simp only [A.eqb] at hh <;> first
      | (simp only [Bool.and_eq_true] at hh; rw [of_decide_eq_true hh.1, of_decide_eq_true hh.2.1, of_decide_eq_true hh.2.2.1, of_decide_eq_true hh.2.2.2])
      | cases hh
  | .sv i l n, b, hh => by
    cases b <;> simp only [A.eqb] at hh <;> first
      | (simp only [Bool.and_eq_true] at hh; rw [of_decide_eq_true hh.1, of_decide_eq_true hh.2.1, of_decide_eq_true hh.2.2])
      | cases hh
  | .fn f x1 y1, b, hh => by
    cases b <;> simp only [A.eqb] at hh <;> first
      | (rw [Bool.and_eq_true, Bool.and_eq_true] at hh; rw [of_decide_eq_true hh.1, A.eqbL_eq x1 _ hh.2.1, A.eqbL_eq y1 _ hh.2.2])
      | cases hh
  | .agg l, b, hh => by cases b <;> simp only [A.eqb] at hh <;> first | (rw [A.eqbL_eq l _ hh]) | cases hh
  | .tup l, b, hh => by cases b <;> simp only [A.eqb] at hh <;> first | (rw [A.eqbL_eq l _ hh]) | cases hh
  | .ifc t c, b, hh => by
    cases b <;> simp only [A.eqb] at hh <;> first
      | (rw [Bool.and_eq_true] at hh; rw [of_decide_eq_true hh.1, A.eqb_eq c _ hh.2])
      | cases hh
  | .x, b, hh => by cases b <;> simp only [A.eqb] at hh <;> first | rfl | cases hh
theorem A.eqbL_eq : ∀ (a b : List A), A.eqbL a b = true → a = b
  | [], b, hh => by cases b <;> simp only [A.eqbL] at hh <;> first | rfl | cases hh
  | c :: r, b, hh => by
    cases b with
    | nil => simp [A.eqbL] at hh
    | cons d s =>
      simp only [A.eqbL, Bool.and_eq_true] at hh
      rw [A.eqb_eq c d hh.1, A.eqbL_eq r s hh.2]
end

def A.eqbLL : List (List A) → List (List A) → Bool
  | [], [] => true
  | a :: r, b :: s => A.eqbL a b && A.eqbLL r s
  | _, _ => false
theorem A.eqbLL_eq : ∀ (a b : List (List A)), A.eqbLL a b = true → a = b
  | [], b, hh => by cases b <;> simp only [A.eqbLL] at hh <;> first | rfl | cases hh
  | c :: r, b, hh => by
    cases b with
    | nil => simp [A.eqbLL] at hh
    | cons d s =>
      simp only [A.eqbLL, Bool.and_eq_true] at hh
      rw [A.eqbL_eq c d hh.1, A.eqbLL_eq r s hh.2]

def kvEqb : List (Ky × A) → List (Ky × A) → Bool
  | [], [] => true
  | a :: r, b :: s => decide (a.1 = b.1) && (A.eqb a.2 b.2 && kvEqb r s)
  | _, _ => false
theorem kvEqb_eq : ∀ (a b : List (Ky × A)), kvEqb a b = true → a = b
  | [], b, h => by cases b <;> simp only [kvEqb] at h <;> first | rfl | cases h
  | (k, x) :: r, b, h => by
    cases b with
    | nil => simp [kvEqb] at h
    | cons d s =>
      obtain ⟨k', x'⟩ := d
      simp only [kvEqb, Bool.and_eq_true] at h
      rw [of_decide_eq_true h.1, A.eqb_eq x x' h.2.1, kvEqb_eq r s h.2.2]

def R.eqb : R → R → Bool
  | .dead, .dead => true
  | .cells f l, .cells f' l' => (f == f') && A.eqbL l l'
  | .osl f t e l, .osl f' t' e' l' => (f == f') && (decide (t = t') && (decide (e = e') && A.eqbLL l l'))
  | .mp f kv st, .mp f' kv' st' => (f == f') && (kvEqb kv kv' && decide (st = st'))
  | .sta, .sta => true
  | .cu s e l, .cu s' e' l' => A.eqb s s' && (decide (e = e') && A.eqbLL l l')
  | _, _ => false
theorem R.eqb_eq : ∀ (a b : R), R.eqb a b = true → a = b := by
  intro a b h
  cases a <;> cases b <;> simp only [R.eqb] at h <;> (try cases h) <;> (try rfl)
  · simp only [Bool.and_eq_true, beq_iff_eq] at h
    rw [h.1, A.eqbL_eq _ _ h.2]
  · simp only [Bool.and_eq_true, beq_iff_eq] at h
    rw [h.1, of_decide_eq_true h.2.1, of_decide_eq_true h.2.2.1, A.eqbLL_eq _ _ h.2.2.2]
  · simp only [Bool.and_eq_true, beq_iff_eq] at h
    rw [h.1, kvEqb_eq _ _ h.2.1, of_decide_eq_true h.2.2]
  · simp only [Bool.and_eq_true] at h
    rw [A.eqb_eq _ _ h.1, of_decide_eq_true h.2.1, A.eqbLL_eq _ _ h.2.2]
end Go.Pv

namespace Go.Pv
open Go.RowKit
set_option linter.unusedVariables false
set_option linter.unusedSimpArgs false
set_option linter.constructorNameAsVariable false

def isByteT (P : Program) (t : TypeId) : Bool := match P.underlying t with
  | some (.int .u8) => true
  | _ => false

def bytesC (s : ByteArray) : List (List C) := s.data.toList.map fun b => [.v (.int .u8 b.toNat)]

/-- operations that effAll does not take -/
def effMore (P : Program) (m : Mem) (T : Nat → A) (d : Nat) (o : Oper) : Option E :=
  match o.op with
  | .convert s t x => match evT T x, elemOf' P t with
    | .d (.v (.string b)), some e => some (isByteT P e && (match P.underlying s with | some _ => true | none => false), .d (.sl 1 (bytesC b)), [])
    | _, _ => none
  | _ => none

/-- nothing is appended to nil -/
def effPre (P : Program) (m : Mem) (T : Nat → A) (o : Oper) : Option E :=
  match o.op with
  | .call c => match c.callee, c.args.toList, c.argTypes.toList with
    | .builtin .append, [x, y], [t, t'] => match evT T x, srcRows m (evT T y), elemOf' P t with
      | .d (.nl _), some [], some e => match zeroC P e with
        | some z => some (decide (t = t' ∧ z.length = P.cellsOf e ∧ 0 < P.cellsOf e) && srcEs m (P.cellsOf e) (evT T y), .d (.nl (P.cellsOf e)), [])
        | none => none
      | _, _, _ => none
    | _, _, _ => none
  | _ => none

def effNew (P : Program) (m : Mem) (T : Nat → A) (d : Nat) (o : Oper) : Option E :=
  match effPre P m T o with
  | some e => some e
  | none => match effAll P m T d o with
    | some e => some e
    | none => effMore P m T d o
/-- operations that look at no memory -/
def purE (P : Program) (T : Nat → A) (o : Oper) : Option A :=
  match o.op with
  | .move x => some (mvA P o.type (evT T x))
  | .assign x => some (mvA P o.type (evT T x))
  | .pick c a b => match evT T c with
    | .d (.v (.bool t)) => some (cond t (evT T a) (evT T b))
    | _ => none
  | .binOp op t x y _ => match evT T x, evT T y with
    | .d (.v (.int k a)), .d (.v (.int k' b)) => match effInt op k k' a b with
      | some (true, c) => some (.d c)
      | _ => none
    | _, _ => none
  | .unOp op _ x => match effUn op (evT T x) with
    | some (true, v, _) => some v
    | _ => none
  | .extract x i => match evT T x with
    | .tup l => cond (Nat.blt i l.length) (some (l.getD i .x)) none
    | _ => none
  | .field t x f => match effField P (fun _ => none) t (evT T x) f with
    | some (true, v, _) => some v
    | _ => none
  | _ => none

end Go.Pv

namespace Go.Pv
open Go.RowKit
set_option linter.unusedVariables false
set_option linter.unusedSimpArgs false
set_option linter.constructorNameAsVariable false

/-! operations look at the resources of their operands alone -/
section
variable {P : Program} {m m' : Mem}

theorem aliveB_loc {i : Nat} (h : m i = m' i) : aliveB m i = aliveB m' i := by unfold aliveB; rw [h]
theorem handB_loc {i : Nat} (h : m i = m' i) : handB m i = handB m' i := by unfold handB; rw [h]
theorem freeB_loc {i : Nat} (h : m i = m' i) : freeB m i = freeB m' i := by unfold freeB; rw [h]

/-- the memories agree on the ids of a value -/
def Agr (m m' : Mem) (x : A) : Prop := ∀ i ∈ x.hs, m i = m' i
theorem Agr.lp {i o : Nat} (h : Agr m m' (.lp i o)) : m i = m' i := h i (by simp [A.hs])
theorem Agr.h {i : Nat} (h : Agr m m' (.h i)) : m i = m' i := h i (by simp [A.hs])
theorem Agr.ep {i e k o : Nat} (h : Agr m m' (.ep i e k o)) : m i = m' i := h i (by simp [A.hs])
theorem Agr.sv {i l n : Nat} (h : Agr m m' (.sv i l n)) : m i = m' i := h i (by simp [A.hs])

theorem cells_loc {x : A} (h : Agr m m' x) : x.cells m = x.cells m' := by
  cases x with
  | lp i o => simp only [A.cells, aliveB_loc h.lp]
  | h i => simp only [A.cells, handB_loc h.h]
  | ep i e k o => simp only [A.cells, aliveB_loc h.ep]
  | sv i l n => simp only [A.cells, aliveB_loc h.sv]
  | d c => cases c <;> first | rfl | (rename_i v; cases v <;> rfl)
  | _ => simp only [A.cells]

theorem srcRows_loc {x : A} (h : Agr m m' x) : srcRows m x = srcRows m' x := by
  cases x with
  | h i => simp only [srcRows, h.h]
  | sv i l n => simp only [srcRows, h.sv]
  | d c => cases c <;> simp only [srcRows]
  | _ => simp only [srcRows]
theorem dstRows_loc {x : A} (h : Agr m m' x) : dstRows m x = dstRows m' x := by
  cases x with
  | h i => simp only [dstRows, h.h]
  | d c => cases c <;> simp only [dstRows]
  | _ => simp only [dstRows]
theorem srcEs_loc {x : A} {es : Nat} (h : Agr m m' x) : srcEs m es x = srcEs m' es x := by
  cases x with
  | h i => simp only [srcEs, h.h]
  | sv i l n => simp only [srcEs, h.sv]
  | d c => cases c <;> simp only [srcEs]
  | _ => simp only [srcEs]
theorem dstRows_id {x : A} {k : Nat} {l : List (List A)} (h : dstRows m x = some (some k, l)) : x = .h k := by
  cases x with
  | h i =>
    simp only [dstRows] at h
    split at h
    · simp at h; rw [h.1]
    · cases h
  | d c => cases c <;> simp [dstRows] at h
  | _ => simp [dstRows] at h
theorem effLoad_loc {t : TypeId} {x : A} (h : Agr m m' x) : effLoad P m t x = effLoad P m' t x := by
  cases x with
  | lp i o => simp only [effLoad, h.lp]
  | ep i e k o => simp only [effLoad, h.ep]
  | d c => cases c <;> simp only [effLoad]
  | _ => simp only [effLoad]
theorem isNil_loc {x : A} (h : Agr m m' x) : isNil m x = isNil m' x := by
  cases x with
  | lp i o => simp only [isNil, aliveB_loc h.lp]
  | h i => simp only [isNil, h.h]
  | ep i e k o => simp only [isNil, aliveB_loc h.ep]
  | sv i l n => simp only [isNil, h.sv]
  | d c => cases c <;> first | rfl | (rename_i v; cases v <;> first | rfl | (rename_i p; cases p <;> rfl)) | (rename_i e l; cases l <;> rfl)
  | _ => simp only [isNil]
theorem effEq_loc {t : TypeId} {x y : A} (hx : Agr m m' x) (hy : Agr m m' y) : effEq P m t x y = effEq P m' t x y := by
  have e1 := isNil_loc hx
  have e2 := isNil_loc hy
  unfold effEq
  split
  · rfl
  · rfl
  · rw [e1, e2]
theorem effBin_loc {op : BinOp} {t : TypeId} {x y : A} (hx : Agr m m' x) (hy : Agr m m' y) : effBin P m op t x y = effBin P m' op t x y := by
  have e := effEq_loc (P := P) (t := t) hx hy
  unfold effBin
  split
  · rfl
  · rw [e]
theorem shiftA_loc {o : Nat} {x : A} (h : Agr m m' x) : shiftA m o x = shiftA m' o x := by
  cases x with
  | lp i o => simp only [shiftA, aliveB_loc h.lp]
  | ep i e k o => simp only [shiftA, aliveB_loc h.ep]
  | d c => cases c <;> simp only [shiftA]
  | _ => simp only [shiftA]
theorem effFieldAddr_loc {t : TypeId} {f : Nat} {x : A} (h : Agr m m' x) : effFieldAddr P m t x f = effFieldAddr P m' t x f := by
  unfold effFieldAddr; simp only [shiftA_loc h]
theorem effIndexAddr_loc {t : TypeId} {x ix : A} (h : Agr m m' x) : effIndexAddr P m t x ix = effIndexAddr P m' t x ix := by
  unfold effIndexAddr
  cases x with
  | h i => simp only [shiftA_loc h, h.h]
  | sv i l n => simp only [shiftA_loc h, h.sv]
  | d c => simp only [shiftA_loc h]; cases c <;> rfl
  | _ => simp only [shiftA_loc h]
theorem effLen_loc {t : TypeId} {x : A} (h : Agr m m' x) : effLen P m t x = effLen P m' t x := by
  have e := srcRows_loc h
  cases x with
  | h i => unfold effLen; simp only [h.h]
  | sv i l n => unfold effLen; simp only [e]
  | d c =>
    cases c with
    | v z =>
      cases z with
      | map r => cases r <;> rfl
      | _ => rfl
    | _ => rfl
  | _ => rfl
theorem effNilCheck_loc {x : A} (h : Agr m m' x) : effNilCheck m x = effNilCheck m' x := by
  unfold effNilCheck; simp only [isNil_loc h]
theorem slicePre_loc {e : TypeId} {i : Nat} {hi mx : Bool} {l h c : Int} {n : Nat} (hh : m i = m' i) : slicePre P m e i hi mx l h c n = slicePre P m' e i hi mx l h c n := by
  unfold slicePre; rw [hh]
theorem effSlice_loc {t : TypeId} {x : A} {lo hi mx : Option A} (h : Agr m m' x) : effSlice P m t x lo hi mx = effSlice P m' t x lo hi mx := by
  have e := srcRows_loc h
  cases x with
  | h i => unfold effSlice; simp only [e, slicePre_loc h.h]
  | sv i l n => unfold effSlice; simp only [e, slicePre_loc h.sv]
  | d c =>
    cases c with
    | v z => cases z <;> rfl
    | _ => rfl
  | _ => rfl
theorem effLookup_loc {t : TypeId} {x ix : A} {ok : Bool} (h : Agr m m' x) : effLookup P m t x ix ok = effLookup P m' t x ix ok := by
  unfold effLookup
  cases x with
  | h i => simp only [h.h]
  | d c => cases c with
    | v z => cases z with
      | map r => cases r <;> rfl
      | _ => rfl
    | _ => rfl
  | _ => rfl
theorem effMapSet_loc {t : TypeId} {x ix a : A} (h : Agr m m' x) : effMapSet P m t x ix a = effMapSet P m' t x ix a := by
  unfold effMapSet
  cases mapT P t with
  | none => rfl
  | some p => cases keyOf ix with
    | none => rfl
    | some k => cases x with
      | h i => simp only [h.h]
      | _ => rfl
theorem effDelete_loc {t : TypeId} {x ix : A} (h : Agr m m' x) : effDelete P m t x ix = effDelete P m' t x ix := by
  unfold effDelete
  cases mapT P t with
  | none => rfl
  | some p => cases keyOf ix with
    | none => rfl
    | some k => cases x with
      | h i => simp only [h.h]
      | d c => cases c with
        | v z => cases z with
          | map r => cases r <;> rfl
          | _ => rfl
        | _ => rfl
      | _ => rfl
theorem effMapEntry_loc {d : Nat} {t : TypeId} {x ix : A} (h : Agr m m' x) (hd : m d = m' d) : effMapEntry P m d t x ix = effMapEntry P m' d t x ix := by
  unfold effMapEntry
  cases mapT P t with
  | none => rfl
  | some p => cases keyOf ix with
    | none => rfl
    | some k => cases x with
      | h i => simp only [h.h, freeB_loc hd]
      | _ => rfl
theorem effEntryStore_loc {x s a : A} (h : Agr m m' x) (hs : Agr m m' s) : effEntryStore m x s a = effEntryStore m' x s a := by
  unfold effEntryStore
  cases x with
  | h i => cases s with
    | h j => simp only [h.h, hs.h]
    | _ => rfl
  | _ => rfl
end

/-- two states agree on what an operation looks at -/
structure AgrO (o : Oper) (T T' : Nat → A) (m m' : Mem) : Prop where
  ev : ∀ x ∈ o.op.operands.toList, evT T x = evT T' x
  ag : ∀ x ∈ o.op.operands.toList, Agr m m' (evT T x)

section
variable {P : Program} {m m' : Mem} {T T' : Nat → A} {d : Nat} {o : Oper}

theorem optCells_loc : ∀ {ps : List (Nat × Operand)}, (∀ p ∈ ps, evT T p.2 = evT T' p.2 ∧ Agr m m' (evT T p.2)) → optCells m (ps.map fun p => (p.1, evT T p.2)) = optCells m' (ps.map fun p => (p.1, evT T' p.2))
  | [], _ => rfl
  | p :: r, h => by
    have h1 := h p (by simp)
    simp only [List.map_cons, optCells]
    rw [← h1.1, cells_loc h1.2, optCells_loc (fun q hq => h q (by simp [hq]))]

theorem dstOk_loc {e : TypeId} {es : Nat} {k : Option Nat} (h : ∀ i, k = some i → m i = m' i) : dstOk m e es k = dstOk m' e es k := by
  cases k with
  | none => rfl
  | some i => simp only [dstOk, h i rfl]

theorem effAppend_loc {t : TypeId} {x y : Operand} (hx : evT T x = evT T' x) (hy : evT T y = evT T' y) (ax : Agr m m' (evT T x)) (ay : Agr m m' (evT T y)) (hd : m d = m' d) : effAppend P m T d t x y = effAppend P m' T' d t x y := by
  unfold effAppend
  rw [← hx, ← hy]
  cases elemOf' P t with
  | none => rfl
  | some e =>
    simp only
    rw [← dstRows_loc ax, ← srcRows_loc ay, ← srcEs_loc ay, ← freeB_loc hd]
    cases h1 : dstRows m (evT T x) with
    | none => rfl
    | some p =>
      obtain ⟨k, l⟩ := p
      have : dstOk m e (P.cellsOf e) k = dstOk m' e (P.cellsOf e) k := dstOk_loc (fun i hi => by
        subst hi
        have := dstRows_id h1
        rw [this] at ax
        exact ax.h)
      cases srcRows m (evT T y) with
      | none => rfl
      | some l2 => cases zeroC P e with
        | none => rfl
        | some z => simp only [this]

theorem effOp_loc (h : AgrO o T T' m m') (hd : m d = m' d) : effOp P m T d o = effOp P m' T' d o := by
  obtain ⟨hT, hm⟩ := h
  unfold effOp
  cases ho : o.op with
  | move x => simp only [hT x (by simp [ho, Op.operands])]
  | assign x => simp only [hT x (by simp [ho, Op.operands])]
  | pick c a b => simp only [hT c (by simp [ho, Op.operands]), hT a (by simp [ho, Op.operands]), hT b (by simp [ho, Op.operands])]
  | alloc t => simp only [freeB_loc hd]
  | box t x => simp only [freeB_loc hd, hT x (by simp [ho, Op.operands]), cells_loc (hT x (by simp [ho, Op.operands]) ▸ hm x (by simp [ho, Op.operands]))]
  | build t ps =>
    simp only [effBuild]
    rw [optCells_loc (m := m) (m' := m') (T := T) (T' := T') (fun p hp => by
      have : p.2 ∈ o.op.operands.toList := by rw [ho]; simp [Op.operands]; exact ⟨p.1, by simpa using hp⟩
      exact ⟨hT _ this, hm _ this⟩)]
  | buildSlice t n ps =>
    simp only [effBuildSlice, freeB_loc hd]
    rw [optCells_loc (m := m) (m' := m') (T := T) (T' := T') (fun p hp => by
      have : p.2 ∈ o.op.operands.toList := by rw [ho]; simp [Op.operands]; exact ⟨p.1, by simpa using hp⟩
      exact ⟨hT _ this, hm _ this⟩)]
  | load t x => simp only [hT x (by simp [ho, Op.operands]), effLoad_loc (hT x (by simp [ho, Op.operands]) ▸ hm x (by simp [ho, Op.operands]))]
  | store t x y =>
    have hx := hT x (by simp [ho, Op.operands])
    have hy := hT y (by simp [ho, Op.operands])
    have ax := hm x (by simp [ho, Op.operands])
    have ay := hm y (by simp [ho, Op.operands])
    simp only [effStore]
    rw [← hx, ← hy, ← cells_loc ay]
    cases hx2 : evT T x with
    | lp i off =>
      rw [hx2] at ax
      cases A.cells m (evT T y) with
      | none => rfl
      | some vs => simp only [ax.lp]
    | ep i es k off =>
      rw [hx2] at ax
      cases A.cells m (evT T y) with
      | none => rfl
      | some vs => simp only [ax.ep]
    | _ => rfl
  | nilCheck x => simp only [hT x (by simp [ho, Op.operands]), effNilCheck_loc (hT x (by simp [ho, Op.operands]) ▸ hm x (by simp [ho, Op.operands]))]
  | binOp op t x y yt =>
    have hx := hT x (by simp [ho, Op.operands])
    have hy := hT y (by simp [ho, Op.operands])
    simp only [← hx, ← hy, effBin_loc (hm x (by simp [ho, Op.operands])) (hm y (by simp [ho, Op.operands]))]
  | unOp op t x => simp only [hT x (by simp [ho, Op.operands])]
  | convert s t x => simp only [hT x (by simp [ho, Op.operands])]
  | makeFunc f a b =>
    have e1 : a.toList.map (evT T) = a.toList.map (evT T') := List.map_congr_left fun x hx => hT x (by rw [ho]; simp [Op.operands]; exact .inl (by simpa using hx))
    have e2 : b.toList.map (evT T) = b.toList.map (evT T') := List.map_congr_left fun x hx => hT x (by rw [ho]; simp [Op.operands]; exact .inr (by simpa using hx))
    simp only [e1, e2]
  | makeMap t r => cases r <;> simp only [freeB_loc hd]
  | makeSlice t l c => simp only [effMakeSlice, freeB_loc hd, hT l (by simp [ho, Op.operands]), hT c (by simp [ho, Op.operands])]
  | slice t x lo hi mx =>
    have hx := hT x (by simp [ho, Op.operands])
    have e1 : ∀ (q : Option Operand), (∀ y, q = some y → y ∈ o.op.operands.toList) → q.map (evT T) = q.map (evT T') := by
      intro q hq
      cases q with
      | none => rfl
      | some y => simp only [Option.map_some, hT y (hq y rfl)]
    simp only [← hx, effSlice_loc (hm x (by simp [ho, Op.operands])), e1 lo (by rintro y rfl; simp [ho, Op.operands]), e1 hi (by rintro y rfl; simp [ho, Op.operands]), e1 mx (by rintro y rfl; simp [ho, Op.operands])]
  | fieldAddr t x f => simp only [hT x (by simp [ho, Op.operands]), effFieldAddr_loc (hT x (by simp [ho, Op.operands]) ▸ hm x (by simp [ho, Op.operands]))]
  | field t x f => simp only [effField, hT x (by simp [ho, Op.operands])]
  | indexAddr t x i => simp only [hT x (by simp [ho, Op.operands]), hT i (by simp [ho, Op.operands]), effIndexAddr_loc (hT x (by simp [ho, Op.operands]) ▸ hm x (by simp [ho, Op.operands]))]
  | extract x i => simp only [hT x (by simp [ho, Op.operands])]
  | call c =>
    obtain ⟨callee, args, tys⟩ := c
    simp only
    cases callee with
    | value f => rfl
    | invoke r n => rfl
    | builtin b =>
      have mem : ∀ x ∈ args.toList, x ∈ o.op.operands.toList := by
        intro x hx; rw [ho]; simp [Op.operands, Call.operands]; simpa using hx
      cases b with
      | len =>
        cases h1 : args.toList with
        | nil => rfl
        | cons x r =>
          cases r with
          | cons y r => cases tys.toList <;> rfl
          | nil =>
            cases h2 : tys.toList with
            | nil => rfl
            | cons t r =>
              cases r with
              | cons _ _ => rfl
              | nil =>
                have hx := mem x (by rw [h1]; simp)
                simp only [← hT x hx, effLen_loc (hm x hx)]
      | append =>
        cases h1 : args.toList with
        | nil => rfl
        | cons x r =>
          cases r with
          | nil => cases tys.toList <;> rfl
          | cons y r =>
            cases r with
            | cons _ _ => cases tys.toList <;> rfl
            | nil =>
              cases h2 : tys.toList with
              | nil => rfl
              | cons t r =>
                cases r with
                | nil => rfl
                | cons t' r =>
                  cases r with
                  | cons _ _ => rfl
                  | nil =>
                    have hx := mem x (by rw [h1]; simp)
                    have hy := mem y (by rw [h1]; simp)
                    have := effAppend_loc (P := P) (d := d) (t := t) (hT x hx) (hT y hy) (hm x hx) (hm y hy) hd
                    simp only [this]
      | max =>
        cases h1 : args.toList with
        | nil => rfl
        | cons x r =>
          cases r with
          | nil => rfl
          | cons y r =>
            cases r with
            | cons _ _ => rfl
            | nil =>
              have e1 := hT x (mem x (by rw [h1]; simp))
              have e2 := hT y (mem y (by rw [h1]; simp))
              simp only [e1, e2]
      | min =>
        cases h1 : args.toList with
        | nil => rfl
        | cons x r =>
          cases r with
          | nil => rfl
          | cons y r =>
            cases r with
            | cons _ _ => rfl
            | nil =>
              have e1 := hT x (mem x (by rw [h1]; simp))
              have e2 := hT y (mem y (by rw [h1]; simp))
              simp only [e1, e2]
      | _ => rfl
  | _ => rfl
end
end Go.Pv

namespace Go.Pv
open Go.RowKit
set_option linter.unusedVariables false
set_option linter.unusedSimpArgs false
set_option linter.constructorNameAsVariable false

section
variable {M0 S0 : Nat → Prop} {w0 : World} {N : Fr} {T : Nat → A} {m : Mem} {ρ : Nat → Value} {a : Act} {w : World} {P : Program}

theorem isByteT_eq {t : TypeId} (h : isByteT P t = true) : P.underlying t = some (.int .u8) := by
  unfold isByteT at h
  split at h
  · assumption
  · cases h

theorem bytesWorld_keeps (w : World) (e : TypeId) (s : ByteArray) : Keeps (fun _ => False) w (Lib.bytesWorld w e s) :=
  ⟨by simp [Lib.bytesWorld, World.freeze, World.alloc, World.drew, -World.alloc_eq, -World.drew_eq], by simp [Lib.bytesWorld, World.freeze, World.alloc, World.drew, -World.alloc_eq, -World.drew_eq],
   by simp [Lib.bytesWorld, World.freeze, World.alloc, World.drew, -World.alloc_eq, -World.drew_eq], by rw [Lib.bytesWorld_size]; omega, fun b hb _ => Lib.bytesWorld_at_old w e s b hb⟩

theorem sd_more (h : SatAt M0 S0 w0 N T m ρ a w) (hlt : ∀ b, M0 b → b < w0.heap.size) {o : Oper} {d : Nat} {pre : Bool} {v : A} {ups : List (Nat × R)} (he : effMore P m T d o = some (pre, v, ups)) (hp : pre = true) : Gives P M0 S0 w0 N T m ρ a w o v (applyU m ups) := by
  unfold effMore at he
  split at he
  · rename_i s t x ho
    split at he
    · rename_i b e hx hel
      simp only [Option.some.injEq, Prod.mk.injEq] at he
      obtain ⟨rfl, rfl, rfl⟩ := he
      simp only [Bool.and_eq_true] at hp
      obtain ⟨hp1, hp2⟩ := hp
      have hxd := ev_den h x
      rw [hx] at hxd
      simp only [A.Den, C.Den] at hxd
      obtain ⟨u, hs⟩ : ∃ u, P.underlying s = some u := by
        cases hq : P.underlying s with
        | none => rw [hq] at hp2; cases hp2
        | some u => exact ⟨u, rfl⟩
      have hrun := Lib.run_convert_string_bytes w s t e b hs (elemOf'_eq hel) (isByteT_eq hp1)
      have hk := bytesWorld_keeps w e b
      have hmut := mut_lt h hlt
      refine ⟨_, _, ρ, _, by simp [execOp, ho, hxd, hrun]; rfl, .inl rfl, (h.world hk (fun _ _ e => e.elim)).shrink (fun b e => .inl e), Onto.refl m ρ, ?_⟩
      simp only [A.Den, C.Den, applyU]
      refine ⟨_, grownCap w b.size 0 e, by simp [bytesC], by simp [bytesC]; exact grownCap_ge w b.size 0 e, .inr ⟨w.heap.size, 0, rfl, fun hm => Nat.lt_irrefl _ (hmut _ hm), by rw [Lib.bytesWorld_size]; omega, ?_⟩⟩
      rw [C.DenRow_iff]
      intro k r hr
      simp only [bytesC, List.getElem?_map, Option.map_eq_some_iff] at hr
      obtain ⟨q, hq, rfl⟩ := hr
      refine ⟨rfl, ?_⟩
      rw [C.DenAt_iff]
      intro j c hc
      have hj : j = 0 := by
        rcases j with _ | j
        · rfl
        · simp at hc
      subst hj
      simp at hc; subst hc
      have hks : k < b.size := by
        have := (List.getElem?_eq_some_iff.1 hq).1
        simpa using this
      refine ⟨_, by simpa using Lib.bytesWorld_cell w e b k hks, rfl, ?_⟩
      simp only [C.Den]
      have hq' : b.data[k]? = some q := by simpa using hq
      rw [hq']; rfl
    · cases he
  · cases he

theorem sd_pre (h : SatAt M0 S0 w0 N T m ρ a w) {o : Oper} {pre : Bool} {v : A} {ups : List (Nat × R)} (he : effPre P m T o = some (pre, v, ups)) (hp : pre = true) : Gives P M0 S0 w0 N T m ρ a w o v (applyU m ups) := by
  unfold effPre at he
  split at he
  · rename_i c ho
    obtain ⟨callee, args, tys⟩ := c
    simp only at he
    split at he
    · rename_i x y t t' h1 h2
      have e1 := arr2 h1; have e2 := arr2 h2; subst e1; subst e2
      split at he
      · rename_i es e hx hs hel
        split at he
        · rename_i z hz
          simp only [Option.some.injEq, Prod.mk.injEq] at he
          obtain ⟨rfl, rfl, rfl⟩ := he
          simp only [Bool.and_eq_true] at hp
          obtain ⟨hp1, hp2⟩ := hp
          obtain ⟨rfl, p1, p2⟩ := of_decide_eq_true hp1
          have hxd := ev_den h x
          rw [hx] at hxd
          simp only [A.Den, C.Den] at hxd
          obtain ⟨ad, cap, hy, _⟩ := src_val h (ev_den h y) hs
          obtain ⟨i, hi⟩ := info_pos p2
          have ht := elemOf'_eq hel
          have hrun : (Builtin.append_ #[t, t] o.type #[.slice none 0 0, .slice ad 0 cap]).run P w = .ok (.slice none 0 0) w := by
            cases ad with
            | none => simp [Builtin.append_, run_underlying ht, run_sizeOf hi, Builtin.lenOf, Builtin.firstCells, storeCells]
            | some d =>
              have hl := run_firstCells_some (P := P) w (P.cellsOf e) 0 d 0 cap [] (by simp) (by simp)
              simp [Builtin.append_, run_underlying ht, run_sizeOf hi, Builtin.lenOf, hl, storeCells]
          refine ⟨.slice none 0 0, w, ρ, _, by simp [execOp, ho, resolve, invoke, builtin, hxd, hy, hrun], .inl rfl, h, Onto.refl m ρ, by simp [A.Den, C.Den]⟩
        · cases he
      · cases he
    · cases he
  · cases he

theorem sd_new (h : SatAt M0 S0 w0 N T m ρ a w) (hlt : ∀ b, M0 b → b < w0.heap.size) {o : Oper} {d : Nat} {pre : Bool} {v : A} {ups : List (Nat × R)} (he : effNew P m T d o = some (pre, v, ups)) (hp : pre = true) : Gives P M0 S0 w0 N T m ρ a w o v (applyU m ups) := by
  unfold effNew at he
  split at he
  · rename_i e he'
    simp only [Option.some.injEq] at he; subst he
    exact sd_pre h he' hp
  · split at he
    · rename_i e he'
      simp only [Option.some.injEq] at he; subst he
      exact sd_all h hlt he' hp
    · exact sd_more h hlt he hp

theorem effNew_noDefer {d : Nat} {o : Oper} {e : E} (h : effNew P m T d o = some e) : noDefer o = true := by
  unfold effNew at h
  split at h
  · rename_i e' he'
    unfold noDefer
    split
    · rename_i c ho; simp [effPre, ho] at he'
    · rfl
  · split at h
    · rename_i e' he'; exact effAll_noDefer he'
    · unfold noDefer
      split
      · rename_i c ho; simp [effMore, ho] at h
      · rfl

theorem OpT.of_new {o : Oper} {d : Nat} {pre : Bool} {v : A} {ups : List (Nat × R)} (he : effNew P m T d o = some (pre, v, ups)) (hp : pre = true) : OpT P o T m v (applyU m ups) := by
  intro ro N M0 S0 w0 ρ a w h hlt next Q hn
  obtain ⟨y, w', ρ', res, hr, hres, hs, hO, hv⟩ := sd_new h hlt he hp
  exact wpIn_val (effNew_noDefer he) hr hres (hn y w' ρ' hs hO hv)
end

/-- operations that look at the resources of their operands, and at no other -/
def shallow (o : Oper) : Bool :=
  match o.op with
  | .call c => match c.callee with
    | .builtin _ => true
    | _ => false
  | .next _ _ => false
  | .entry _ => false
  | .range _ _ => false
  | .defer _ => false
  | _ => true

section
variable {P : Program} {m m' : Mem} {T T' : Nat → A} {d : Nat} {o : Oper}

theorem effAll_loc (h : AgrO o T T' m m') (hd : m d = m' d) (hs : shallow o = true) : effAll P m T d o = effAll P m' T' d o := by
  have hop := effOp_loc (P := P) h hd
  obtain ⟨hT, hm⟩ := h
  unfold effAll
  cases ho : o.op with
  | lookup t x ix ok =>
    have hx := hT x (by simp [ho, Op.operands]); have hix := hT ix (by simp [ho, Op.operands])
    simp only [← hx, ← hix, effLookup_loc (hm x (by simp [ho, Op.operands]))]
  | mapUpdate t x k v =>
    have hx := hT x (by simp [ho, Op.operands]); have hk := hT k (by simp [ho, Op.operands]); have hv := hT v (by simp [ho, Op.operands])
    simp only [← hx, ← hk, ← hv, effMapSet_loc (hm x (by simp [ho, Op.operands]))]
  | insert t x k v =>
    have hx := hT x (by simp [ho, Op.operands]); have hk := hT k (by simp [ho, Op.operands]); have hv := hT v (by simp [ho, Op.operands])
    simp only [← hx, ← hk, ← hv, effMapSet_loc (hm x (by simp [ho, Op.operands]))]
  | mapEntry t x k =>
    have hx := hT x (by simp [ho, Op.operands]); have hk := hT k (by simp [ho, Op.operands])
    simp only [← hx, ← hk, effMapEntry_loc (hm x (by simp [ho, Op.operands])) hd]
  | entryStore t x s v =>
    have hx := hT x (by simp [ho, Op.operands]); have hk := hT s (by simp [ho, Op.operands]); have hv := hT v (by simp [ho, Op.operands])
    simp only [← hx, ← hk, ← hv, effEntryStore_loc (hm x (by simp [ho, Op.operands])) (hm s (by simp [ho, Op.operands]))]
  | range t x => simp [shallow, ho] at hs
  | entry x => simp [shallow, ho] at hs
  | index t x ix => simp only [hT x (by simp [ho, Op.operands]), hT ix (by simp [ho, Op.operands])]
  | binOp op t x y yt =>
    have hx := hT x (by simp [ho, Op.operands]); have hy := hT y (by simp [ho, Op.operands])
    simp only [hop, hx, hy]
  | call c =>
    obtain ⟨callee, args, tys⟩ := c
    simp only [hop]
    cases callee with
    | value f => rfl
    | invoke r n => rfl
    | builtin b =>
      have mem : ∀ x ∈ args.toList, x ∈ o.op.operands.toList := by
        intro x hx; rw [ho]; simp [Op.operands, Call.operands]; simpa using hx
      cases b with
      | delete =>
        cases h1 : args.toList with
        | nil => rfl
        | cons x r =>
          cases r with
          | nil => cases tys.toList <;> rfl
          | cons y r =>
            cases r with
            | cons _ _ => cases tys.toList <;> rfl
            | nil =>
              cases h2 : tys.toList with
              | nil => rfl
              | cons t r =>
                cases r with
                | nil => rfl
                | cons t' r =>
                  cases r with
                  | cons _ _ => rfl
                  | nil =>
                    have hx := mem x (by rw [h1]; simp)
                    have hy := mem y (by rw [h1]; simp)
                    simp only [← hT x hx, ← hT y hy, effDelete_loc (hm x hx)]
      | _ => rfl
  | _ => exact hop

theorem effPre_loc (h : AgrO o T T' m m') : effPre P m T o = effPre P m' T' o := by
  obtain ⟨hT, hm⟩ := h
  unfold effPre
  cases ho : o.op with
  | call c =>
    obtain ⟨callee, args, tys⟩ := c
    simp only
    cases callee with
    | value f => rfl
    | invoke r n => rfl
    | builtin b =>
      have mem : ∀ x ∈ args.toList, x ∈ o.op.operands.toList := by
        intro x hx; rw [ho]; simp [Op.operands, Call.operands]; simpa using hx
      cases b with
      | append =>
        cases h1 : args.toList with
        | nil => rfl
        | cons x r =>
          cases r with
          | nil => cases tys.toList <;> rfl
          | cons y r =>
            cases r with
            | cons _ _ => cases tys.toList <;> rfl
            | nil =>
              cases h2 : tys.toList with
              | nil => rfl
              | cons t r =>
                cases r with
                | nil => rfl
                | cons t' r =>
                  cases r with
                  | cons _ _ => rfl
                  | nil =>
                    have hx := mem x (by rw [h1]; simp)
                    have hy := mem y (by rw [h1]; simp)
                    simp only [← hT x hx, ← hT y hy, ← srcRows_loc (hm y hy), ← srcEs_loc (hm y hy)]
      | _ => rfl
  | _ => rfl

theorem effMore_loc (h : AgrO o T T' m m') (hd : m d = m' d) : effMore P m T d o = effMore P m' T' d o := by
  obtain ⟨hT, hm⟩ := h
  unfold effMore
  cases ho : o.op with
  | convert s t x => simp only [hT x (by simp [ho, Op.operands])]
  | _ => rfl

theorem effNew_loc (h : AgrO o T T' m m') (hd : m d = m' d) (hs : shallow o = true) : effNew P m T d o = effNew P m' T' d o := by
  unfold effNew
  rw [effPre_loc h, effAll_loc h hd hs, effMore_loc h hd]

theorem purE_eff {v : A} (h : purE P T o = some v) (m : Mem) : effAll P m T d o = some (true, v, []) := by
  unfold purE at h
  unfold effAll
  cases ho : o.op with
  | move x => simp only [ho, Option.some.injEq] at h; subst h; simp [effOp, ho]
  | assign x => simp only [ho, Option.some.injEq] at h; subst h; simp [effOp, ho]
  | pick c a b =>
    simp only [ho] at h
    simp only [effOp, ho]
    split at h
    · rename_i t ht; simp only [Option.some.injEq] at h; subst h; rw [ht]
    · cases h
  | binOp op t x y yt =>
    simp only [ho] at h
    simp only [effOp, ho]
    split at h
    · rename_i k p k' q h1 h2
      split at h
      · rename_i c hc
        simp only [Option.some.injEq] at h; subst h
        simp only [effBin, h1, h2, hc, Option.map_some]
      · cases h
    · cases h
  | unOp op t x =>
    simp only [ho] at h
    simp only [effOp, ho]
    split at h
    · rename_i v' u hu
      simp only [Option.some.injEq] at h; subst h
      have : u = [] := by
        unfold effUn at hu
        split at hu <;> simp at hu
        · exact hu.2
        · exact hu.2.2
      rw [hu, this]
    · cases h
  | extract x i =>
    simp only [ho] at h
    simp only [effOp, ho]
    split at h
    · rename_i l hl
      cases hb : Nat.blt i l.length with
      | true =>
        rw [hb] at h; simp only [cond_true, Option.some.injEq] at h; subst h
        rw [hl]
        have : i < l.length := by simpa [Nat.blt_eq] using hb
        simp [this]
      | false => rw [hb] at h; cases h
    · cases h
  | field t x f =>
    simp only [ho] at h
    simp only [effOp, ho]
    split at h
    · rename_i v' u hu
      simp only [Option.some.injEq] at h; subst h
      have : u = [] := by
        unfold effField at hu
        split at hu
        · split at hu <;> simp at hu <;> exact hu.2.2
        · split at hu <;> simp at hu <;> exact hu.2.2
        · cases hu
      subst this
      exact hu
    · cases h
  | _ => simp [ho] at h
end
end Go.Pv

