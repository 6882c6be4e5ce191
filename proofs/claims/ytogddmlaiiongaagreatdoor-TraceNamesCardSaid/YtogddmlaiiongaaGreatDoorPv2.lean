import Derived.Test.YtogddmlaiiongaaGreatDoorPv1
import Derived.OrdersIn
import Derived.RecoverIn
import Derived.Orders
import Derived.Laws.StructEq
/- A program logic over the model, and an evaluator of closed runs that is sound for it (part 2). -/
set_option linter.unusedVariables false
set_option linter.unusedSimpArgs false
set_option linter.constructorNameAsVariable false
set_option linter.unusedSectionVars false
set_option linter.deprecated false
namespace Go.Pv
open Go.RowKit
set_option linter.unusedVariables false
set_option linter.unusedSimpArgs false
set_option linter.constructorNameAsVariable false

section
variable {M0 S0 : Nat → Prop} {w0 : World} {N : Fr} {T : Nat → A} {m : Mem} {ρ : Nat → Value} {a : Act} {w : World} {P : Program}

theorem osl_pos (h : SatAt M0 S0 w0 N T m ρ a w) {i es : Nat} {fz : Bool} {t : TypeId} {l : List (List A)} (hi : m i = some (.osl fz t es l)) (hl : 0 < l.length) : ∃ b cap, ρ i = .slice (some ⟨b, 0, none⟩) l.length cap := by
  obtain ⟨xs, h1, _⟩ := h.res i _ hi
  obtain ⟨g, cap, hv, _⟩ := ownsRow_form h1 hl
  exact ⟨g, cap, hv⟩

theorem info_pos {e : TypeId} (h : 0 < P.cellsOf e) : ∃ i, P.info? e = some i := by
  cases hq : P.info? e with
  | none => simp [Program.cellsOf, hq] at h
  | some i => exact ⟨i, rfl⟩

theorem sd_indexAddr (h : SatAt M0 S0 w0 N T m ρ a w) {t : TypeId} {x ix v : A} {y iy : Value} {pre : Bool} {ups : List (Nat × R)} (hx : x.Den w (Mut M0 m ρ) m ρ y) (hix : ix.Den w (Mut M0 m ρ) m ρ iy)
    (he : effIndexAddr P m t x ix = some (pre, v, ups)) (hp : pre = true) : ups = [] ∧ ∃ z, (Instr.indexAt t y iy).run P w = .ok z w ∧ v.Den w (Mut M0 m ρ) m ρ z := by
  unfold effIndexAddr at he
  split at he
  · rename_i k n
    simp only [A.Den, C.Den] at hix; subst hix
    split at he
    · rename_i e hu
      have hel : P.elem t = e := by simp [Program.elem, hu]
      have hu' : P.underlying t = some (.slice (P.elem t)) := by rw [hel]; exact hu
      have hrun : ∀ {d : Addr} {len cap es : Nat}, es = P.cellsOf e → 0 < es → 0 ≤ n → n < len → (Instr.indexAt t (.slice (some d) len cap) (.int k n)).run P w = .ok (.pointer (some (d.add (n.toNat * es)))) w := by
        intro d len cap es hes hpos h0 h1
        obtain ⟨i, hi⟩ := info_pos (P := P) (by rw [← hes]; exact hpos)
        rw [run_indexAt_slice w t d len cap k n hu', if_pos ⟨h0, by omega⟩, hel, run_sizeOf hi, hes]
        rfl
      split at he
      · rename_i i
        split at he
        · rename_i fz t' es l hi
          simp only [Option.some.injEq, Prod.mk.injEq] at he
          obtain ⟨rfl, rfl, rfl⟩ := he
          obtain ⟨hes, hes0, h0, h1⟩ := of_decide_eq_true hp
          simp only [A.Den] at hx
          obtain ⟨b, cap, hb⟩ := osl_pos h hi (by omega)
          rw [has_of hx hi (by simp), hb]
          refine ⟨rfl, _, hrun hes hes0 h0 h1, ?_⟩
          simp only [A.Den]
          exact ⟨hx.1, fun _ => ⟨b, _, cap, hb, by rw [Addr.add_lit]; simp⟩⟩
        · cases he
      · rename_i i lo c
        split at he
        · rename_i fz t' es l hi
          simp only [Option.some.injEq, Prod.mk.injEq] at he
          obtain ⟨rfl, rfl, rfl⟩ := he
          obtain ⟨hes, hes0, h0, h1⟩ := of_decide_eq_true hp
          simp only [A.Den] at hx
          obtain ⟨ad, cap, rfl, hc, es2, fz', t2, l2, e1, e2, h3⟩ := has_of hx hi (by simp)
          rw [hi] at e1; simp at e1; obtain ⟨rfl, rfl, rfl, rfl⟩ := e1
          obtain ⟨b, n', cap', h4, rfl⟩ := h3.resolve_left (by omega)
          refine ⟨rfl, _, hrun hes hes0 h0 h1, ?_⟩
          simp only [A.Den]
          exact ⟨hx.1, fun _ => ⟨b, _, cap', h4, by rw [Addr.add_lit]; simp [Nat.add_mul]⟩⟩
        · cases he
      · rename_i es l
        simp only [Option.some.injEq, Prod.mk.injEq] at he
        obtain ⟨rfl, rfl, rfl⟩ := he
        obtain ⟨hes, hes0, h0, h1⟩ := of_decide_eq_true hp
        simp only [A.Den, C.Den] at hx
        obtain ⟨ad, cap, rfl, hc, hl⟩ := hx
        obtain ⟨b, off, rfl, hm, hb, hr⟩ := hl.resolve_left (by rintro rfl; simp at h1; omega)
        refine ⟨rfl, _, hrun hes hes0 h0 h1, ?_⟩
        simp only [A.Den, C.Den]
        refine ⟨b, off + n.toNat * es, by rw [Addr.add_lit], hm, hb, ?_⟩
        rw [C.DenRow_iff] at hr
        exact (hr n.toNat _ (by rw [List.getD_eq_getElem?_getD, List.getElem?_eq_getElem (by omega)]; rfl)).2
      · cases he
    · rename_i len e hu
      simp only [Option.map_eq_some_iff] at he
      obtain ⟨z, h1, h2⟩ := he
      simp only [Prod.mk.injEq] at h2
      obtain ⟨rfl, rfl, rfl⟩ := h2
      obtain ⟨hpos, h3, h4⟩ := of_decide_eq_true hp
      obtain ⟨b, off, rfl, h5⟩ := shiftA_den h hx h1
      obtain ⟨i, hi⟩ := info_pos hpos
      refine ⟨rfl, _, ?_, h5⟩
      have hel : P.elem t = e := by simp [Program.elem, hu]
      have hln : P.arrayLen t = len := by simp [Program.arrayLen, hu]
      rw [run_indexAt_array w t ⟨b, off, none⟩ k n (by rw [hel, hln]; exact hu), hln, if_pos ⟨h3, by omega⟩, hel, run_sizeOf hi]
      simp [Addr.add_lit]
    · cases he
  · cases he

theorem sd_nilCheck (h : SatAt M0 S0 w0 N T m ρ a w) {x v : A} {y : Value} {pre : Bool} {ups : List (Nat × R)} (hx : x.Den w (Mut M0 m ρ) m ρ y) (he : effNilCheck m x = some (pre, v, ups)) (hp : pre = true) :
    ups = [] ∧ (∃ d, y = .pointer (some d) ∨ ∃ g f c, y = .func (.func g) f c) ∧ v.Den w (Mut M0 m ρ) m ρ y := by
  unfold effNilCheck at he
  split at he
  · rename_i hn
    simp only [Option.some.injEq, Prod.mk.injEq] at he
    obtain ⟨rfl, rfl, rfl⟩ := he
    have := isNil_den h hx hn
    cases y <;> simp [nilV] at this
    rename_i p
    cases p with
    | none => simp at this
    | some d => exact ⟨rfl, ⟨d, .inl rfl⟩, hx⟩
  · split at he
    · simp only [Option.some.injEq, Prod.mk.injEq] at he
      obtain ⟨rfl, rfl, rfl⟩ := he
      have hx' := hx
      simp only [A.Den] at hx'
      obtain ⟨us, vs, rfl, _⟩ := hx'
      exact ⟨rfl, ⟨default, .inr ⟨_, _, _, rfl⟩⟩, hx⟩
    · simp only [Option.some.injEq, Prod.mk.injEq] at he
      obtain ⟨rfl, rfl, rfl⟩ := he
      have hx' := hx
      simp only [A.Den, C.Den] at hx'
      obtain ⟨us, vs, rfl, _⟩ := hx'
      exact ⟨rfl, ⟨default, .inr ⟨_, _, _, rfl⟩⟩, hx⟩
    · cases he

theorem cutB_den {hi : Option A} {vhi : Option Value} {n : Nat} {h : Int} {M : Nat → Prop} (hd : (hi = none ∧ vhi = none) ∨ ∃ x y, hi = some x ∧ vhi = some y ∧ x.Den w M m ρ y) (hc : cutB hi n = some h) : (vhi = none ∧ hi = none ∧ h = n) ∨ ∃ k, vhi = some (.int k h) ∧ hi.isSome = true := by
  rcases hd with ⟨rfl, rfl⟩ | ⟨x, y, rfl, rfl, hxy⟩
  · simp [cutB] at hc; exact .inl ⟨rfl, rfl, hc.symm⟩
  · unfold cutB at hc
    split at hc
    · rename_i heq; cases heq
    · rename_i k h' heq
      simp at heq; subst heq
      simp at hc; subst hc
      simp only [A.Den, C.Den] at hxy; subst hxy
      exact .inr ⟨k, rfl, rfl⟩
    · cases hc

theorem run_bound {k : IntKind} {i : Int} {y : Nat} {code : BoundsCode} (h0 : 0 ≤ i) (h1 : i ≤ y) : (Instr.sliceBound (.int k i) y code).run P w = .ok i.toNat w := by
  simp [Instr.sliceBound, asIntOf, h0, h1]

/-- the bounds of a cut -/
theorem run_bounds {isS : Bool} {len cap : Nat} {lo hi mx : Option Value} {l h c : Int} (hl : lo = none ∧ l = 0 ∨ ∃ k, lo = some (.int k l)) (hh : hi = none ∧ h = len ∨ ∃ k, hi = some (.int k h)) (hm : mx = none ∨ ∃ k, mx = some (.int k c))
    (hhm : hi.isSome = true ∨ mx.isSome = false) (h0 : 0 ≤ l) (h1 : l ≤ h) (h2 : h ≤ c) (h3 : c ≤ len) (hlc : len ≤ cap) :
    ∃ M, (Instr.sliceBounds isS len cap lo hi mx).run P w = .ok (l.toNat, h.toNat, M) w ∧ h.toNat ≤ M ∧ M ≤ cap ∧ (mx.isSome = true → M = c.toNat) := by
  rcases hm with rfl | ⟨km, rfl⟩
  · refine ⟨cap, ?_, by omega, by omega, by simp⟩
    rcases hh with ⟨rfl, rfl⟩ | ⟨kh, rfl⟩
    · rcases hl with ⟨rfl, rfl⟩ | ⟨kl, rfl⟩
      · simp [Instr.sliceBounds]
      · simp [Instr.sliceBounds, run_bound (P := P) (w := w) (k := kl) (i := l) (y := len) h0 h1]
    · have r1 := run_bound (P := P) (w := w) (k := kh) (i := h) (y := cap) (code := if isS then .sliceAcap else .sliceAlen) (by omega) (by omega)
      rcases hl with ⟨rfl, rfl⟩ | ⟨kl, rfl⟩
      · simp [Instr.sliceBounds, r1]
      · have r2 := run_bound (P := P) (w := w) (k := kl) (i := l) (y := h.toNat) (code := .sliceB) h0 (by omega)
        simp [Instr.sliceBounds, r1, r2]
  · rcases hh with ⟨rfl, rfl⟩ | ⟨kh, rfl⟩
    · simp at hhm
    · have r0 := run_bound (P := P) (w := w) (k := km) (i := c) (y := cap) (code := if isS then .slice3Acap else .slice3Alen) (by omega) (by omega)
      have r1 := run_bound (P := P) (w := w) (k := kh) (i := h) (y := c.toNat) (code := .slice3B) (by omega) (by omega)
      refine ⟨c.toNat, ?_, by omega, by omega, fun _ => rfl⟩
      rcases hl with ⟨rfl, rfl⟩ | ⟨kl, rfl⟩
      · simp [Instr.sliceBounds, r0, r1]
      · have r2 := run_bound (P := P) (w := w) (k := kl) (i := l) (y := h.toNat) (code := .slice3C) h0 (by omega)
        simp [Instr.sliceBounds, r0, r1, r2]

/-- a place of a cut: given or not -/
def OptDen (w : World) (M : Nat → Prop) (m : Mem) (ρ : Nat → Value) (x : Option A) (y : Option Value) : Prop := (x = none ∧ y = none) ∨ ∃ u v, x = some u ∧ y = some v ∧ u.Den w M m ρ v

/-- cut off: the room behind is cut off too -/
def Clip (hi mx : Option A) : Prop := ∃ k k' q, hi = some (.d (.v (.int k q))) ∧ mx = some (.d (.v (.int k' q)))
theorem clip_cut {hi mx : Option A} {n n' : Nat} {h c : Int} (hc : Clip hi mx) (h1 : cutB hi n = some h) (h2 : cutB mx n' = some c) : h = c := by
  obtain ⟨k, k', q, rfl, rfl⟩ := hc
  simp only [cutB, Option.some.injEq] at h1 h2
  rw [← h1, ← h2]

theorem sd_slice' (h : SatAt M0 S0 w0 N T m ρ a w) {t : TypeId} {x v : A} {y : Value} {lo hi mx : Option A} {vlo vhi vmx : Option Value} {pre : Bool} {ups : List (Nat × R)} (hx : x.Den w (Mut M0 m ρ) m ρ y)
    (hlo : OptDen w (Mut M0 m ρ) m ρ lo vlo) (hhi : OptDen w (Mut M0 m ρ) m ρ hi vhi) (hmx : OptDen w (Mut M0 m ρ) m ρ mx vmx)
    (he : effSlice P m t x lo hi mx = some (pre, v, ups)) (hp : pre = true) : ups = [] ∧ ∃ z, (Instr.sliceAt t y vlo vhi vmx).run P w = .ok z w ∧ v.Den w (Mut M0 m ρ) m ρ z ∧ (Clip hi mx → ∃ a n, z = .slice a n n) := by
  have hL : ∀ {l : Int}, cutB (lo.orElse fun _ => some (.d (.v (.int .i64 0)))) 0 = some l → (vlo = none ∧ l = 0) ∨ ∃ k, vlo = some (.int k l) := by
    intro l hl
    rcases hlo with ⟨rfl, rfl⟩ | ⟨u, q, rfl, rfl, hd⟩
    · simp [cutB] at hl; exact .inl ⟨rfl, hl.symm⟩
    · rcases cutB_den (w := w) (m := m) (ρ := ρ) (M := Mut M0 m ρ) (hi := some u) (vhi := some q) (.inr ⟨u, q, rfl, rfl, hd⟩) hl with ⟨e, _⟩ | ⟨k, e, _⟩
      · cases e
      · exact .inr ⟨k, e⟩
  unfold effSlice at he
  split at he
  · rename_i s
    simp only [A.Den, C.Den] at hx; subst hx
    split at he
    · rename_i l hh h1 h2
      simp only [Option.some.injEq, Prod.mk.injEq] at he
      obtain ⟨rfl, rfl, rfl⟩ := he
      rw [Bool.and_eq_true] at hp
      obtain ⟨hu, h3⟩ := hp
      obtain ⟨h3, h4, h5⟩ := of_decide_eq_true h3
      have hu := isStrT_eq hu
      have hmn : vmx = none := by
        rcases hmx with ⟨_, e⟩ | ⟨u, q, e, _⟩
        · exact e
        · cases e
      subst hmn
      obtain ⟨Mx, hr, _, _, _⟩ := run_bounds (P := P) (w := w) (isS := false) (len := s.size) (cap := s.size) (c := s.size) (mx := none) (hL h1) ((cutB_den hhi h2).imp (fun ⟨q, _, r⟩ => ⟨q, r⟩) (fun ⟨k, q, _⟩ => ⟨k, q⟩)) (.inl rfl) (.inr rfl) h3 h4 h5 (Int.le_refl _) (Nat.le_refl _)
      refine ⟨rfl, .string (s.extract l.toNat hh.toNat), ?_, by simp [A.Den, C.Den], ?_⟩
      rotate_left 1
      · rintro ⟨_, _, _, _, e⟩; cases e
      simp [Instr.sliceAt, run_underlying hu, Instr.slice, hr]
    · cases he
  · rename_i hns
    split at he
    · rename_i L e hs hel
      have hu := elemOf'_eq hel
      obtain ⟨ad, cap, rfl, hcap⟩ := src_val h hx hs
      split at he
      · rename_i l hh c h1 h2 h3
        -- the run
        have hrun : (hi.isSome = true ∨ mx.isSome = false) → 0 < P.cellsOf e → 0 ≤ l → l ≤ hh → hh ≤ c → c ≤ L.length →
            ∃ ad' cap', (Instr.sliceAt t (.slice ad L.length cap) vlo vhi vmx).run P w = .ok (.slice ad' (hh - l).toNat cap') w ∧ (hh - l).toNat ≤ cap' ∧ ((hh - l).toNat = 0 ∨ ad' = ad.map (·.add (l.toNat * P.cellsOf e))) ∧ (ad = none ↔ ad' = none) ∧ cap' ≤ cap ∧ (vmx.isSome = true → cap' = c.toNat - l.toNat) := by
          intro q0 q1 q2 q3 q4 q5
          have qh := cutB_den hhi h2
          have qm := cutB_den hmx h3
          have e1 : vhi.isSome = true ∨ vmx.isSome = false := by
            rcases q0 with q | q
            · rcases qh with ⟨_, r, _⟩ | ⟨k, r, _⟩
              · rw [r] at q; cases q
              · left; rw [r]; rfl
            · rcases qm with ⟨r, _⟩ | ⟨k, r, r2⟩
              · right; rw [r]; rfl
              · rw [r2] at q; cases q
          obtain ⟨Mx, hr, hM, hMc, hMm⟩ := run_bounds (P := P) (w := w) (isS := true) (len := L.length) (cap := cap) (hL h1) (qh.imp (fun ⟨q, _, r⟩ => ⟨q, r⟩) (fun ⟨k, q, _⟩ => ⟨k, q⟩)) (qm.imp (fun ⟨q, _⟩ => q) (fun ⟨k, q, _⟩ => ⟨k, q⟩)) e1 q2 q3 q4 q5 hcap
          obtain ⟨i, hi'⟩ := info_pos q1
          refine ⟨_, Mx - l.toNat, by simp [Instr.sliceAt, run_underlying hu, Instr.slice, hr, run_sizeOf hi']; exact ⟨rfl, by omega⟩, by omega, ?_, ?_, by omega, fun e => by rw [hMm e]⟩
          · by_cases hM2 : Mx = l.toNat
            · left; omega
            · right; simp [hM2]
          · by_cases hM2 : Mx = l.toNat <;> simp [hM2]
        have fin : ∀ {ad' : Option Addr} {cap' : Nat}, 0 ≤ l → l ≤ hh → (Clip hi mx → hh = c) → (vmx.isSome = true → cap' = c.toNat - l.toNat) → (Clip hi mx → ∃ a n, Value.slice ad' (hh - l).toNat cap' = .slice a n n) := by
          intro ad' cap' q0 q1 e hcl hc
          have e1 := e hc
          have e2 : vmx.isSome = true := by
            obtain ⟨_, _, _, _, e3⟩ := hc
            rcases hmx with ⟨e4, _⟩ | ⟨u, v, _, e4, _⟩
            · rw [e3] at e4; cases e4
            · rw [e4]; rfl
          have e3 := hcl e2
          exact ⟨ad', _, by rw [e3, show c.toNat - l.toNat = (hh - l).toNat by omega]⟩
        split at he
        · rename_i i
          simp only [Option.some.injEq, Prod.mk.injEq] at he
          obtain ⟨rfl, rfl, rfl⟩ := he
          obtain ⟨q0, ⟨fz, t', l', hm⟩, q1, q2, q3, q4, q5⟩ := slicePre_iff hp
          obtain ⟨ad', cap', hr, hc', had, hnn, _, hcl⟩ := hrun q0 q1 q2 q3 q4 q5
          refine ⟨rfl, _, hr, ?_, fin q2 q3 (clip_cut · h2 h3) hcl⟩
          simp only [srcRows, hm, Option.some.injEq] at hs; subst hs
          simp only [A.Den] at hx ⊢
          refine ⟨hx.1, fun _ => ⟨ad', cap', rfl, hc', P.cellsOf e, fz, t', l', hm, by omega, ?_⟩⟩
          have hnil : ad' = none → l'.length = 0 := by
            intro q
            have q := hnn.2 q; subst q
            obtain ⟨xs, k1, _⟩ := h.res i _ hm
            have hv := has_of hx hm (by simp)
            rw [← hv] at k1
            rcases k1 with ⟨_, k1, _⟩ | ⟨_, _, _, _, k1, _⟩
            · exact k1
            · simp at k1
          rcases had with q | rfl
          · exact .inl ⟨q, hnil⟩
          · by_cases hz : (hh - l).toNat = 0
            · exact .inl ⟨hz, hnil⟩
            · right
              obtain ⟨b, cp, hb⟩ := osl_pos h hm (by omega)
              have hv := has_of hx hm (by simp)
              rw [hb] at hv; simp at hv; obtain ⟨rfl, rfl⟩ := hv
              exact ⟨b, _, _, hb, by simp [Addr.add_lit]⟩
        · rename_i i o n
          simp only [Option.some.injEq, Prod.mk.injEq] at he
          obtain ⟨rfl, rfl, rfl⟩ := he
          obtain ⟨q0, ⟨fz, t', l', hm⟩, q1, q2, q3, q4, q5⟩ := slicePre_iff hp
          obtain ⟨ad', cap', hr, hc', had, hnn, _, hcl⟩ := hrun q0 q1 q2 q3 q4 q5
          refine ⟨rfl, _, hr, ?_, fin q2 q3 (clip_cut · h2 h3) hcl⟩
          simp only [srcRows, hm, Option.some.injEq] at hs; subst hs
          simp only [A.Den] at hx ⊢
          obtain ⟨ad2, cap2, hy, hc2, es2, fz2, t2, l2, e1, e2, h4⟩ := has_of hx hm (by simp)
          rw [hm] at e1; simp at e1; obtain ⟨rfl, rfl, rfl, rfl⟩ := e1
          have hln : ((l'.drop o).take n).length = n := by simp; omega
          rw [hln] at q5
          refine ⟨hx.1, fun _ => ⟨ad', cap', rfl, hc', P.cellsOf e, fz, t', l', hm, by omega, ?_⟩⟩
          have hnil : ad' = none → l'.length = 0 := by
            intro q
            have q := hnn.2 q; subst q
            simp at hy; obtain ⟨rfl, _⟩ := hy
            rcases h4 with ⟨_, k1⟩ | ⟨_, _, _, _, k1⟩
            · exact k1 rfl
            · simp at k1
          rcases had with q | rfl
          · exact .inl ⟨q, hnil⟩
          · by_cases hz : (hh - l).toNat = 0
            · exact .inl ⟨hz, hnil⟩
            · right
              obtain ⟨b, n', cap', h6, h7⟩ := h4.resolve_left (by omega)
              simp at hy; obtain ⟨rfl, _⟩ := hy
              subst h7
              exact ⟨b, n', cap', h6, by simp [Addr.add_lit, Nat.add_mul]⟩
        · rename_i es l'
          simp only [Option.some.injEq, Prod.mk.injEq] at he
          obtain ⟨rfl, rfl, rfl⟩ := he
          obtain ⟨q0, rfl, q1, q2, q3, q4, q5⟩ := of_decide_eq_true hp
          simp only [srcRows, Option.some.injEq] at hs; subst hs
          obtain ⟨ad', cap', hr, hc', had, hnn, _, hcl⟩ := hrun q0 q1 q2 q3 q4 (by simpa using q5)
          refine ⟨rfl, _, hr, ?_, fin q2 q3 (clip_cut · h2 h3) hcl⟩
          simp only [A.Den, C.Den] at hx ⊢
          have hln : ((l'.drop l.toNat).take (hh - l).toNat).length = (hh - l).toNat := by simp; omega
          refine ⟨ad', cap', by rw [hln], by rw [hln]; exact hc', ?_⟩
          by_cases hz : (hh - l).toNat = 0
          · left; rw [hz]; simp
          · right
            obtain ⟨ad2, cap2, hy, _, h4⟩ := hx
            simp at hy; obtain ⟨rfl, rfl⟩ := hy
            obtain ⟨b, off, rfl, h5, h6, h7⟩ := h4.resolve_left (by rintro rfl; simp at q5; omega)
            have := had.resolve_left hz
            subst this
            exact ⟨b, off + l.toNat * P.cellsOf e, by simp [Addr.add_lit], h5, h6, denRow_cut h7⟩
        · rename_i es
          simp only [Option.some.injEq, Prod.mk.injEq] at he
          obtain ⟨rfl, rfl, rfl⟩ := he
          obtain ⟨q0, q1, rfl, rfl, rfl⟩ := of_decide_eq_true hp
          simp only [srcRows, Option.some.injEq] at hs; subst hs
          obtain ⟨ad', cap', hr, hc', had, hn, hc2, _⟩ := hrun q0 q1 (by omega) (by omega) (by omega) (by simp)
          simp only [A.Den, C.Den] at hx
          simp only [Value.slice.injEq] at hx
          obtain ⟨rfl, _, rfl⟩ := hx
          have e1 := hn.1 rfl; subst e1
          have e2 : cap' = 0 := by omega
          subst e2
          refine ⟨rfl, _, hr, ?_, fun _ => ⟨none, 0, rfl⟩⟩
          simp only [A.Den, C.Den]; rfl
        · cases he
      · cases he
    · cases he

theorem sd_slice (h : SatAt M0 S0 w0 N T m ρ a w) {t : TypeId} {x v : A} {y : Value} {lo hi mx : Option A} {vlo vhi vmx : Option Value} {pre : Bool} {ups : List (Nat × R)} (hx : x.Den w (Mut M0 m ρ) m ρ y)
    (hlo : OptDen w (Mut M0 m ρ) m ρ lo vlo) (hhi : OptDen w (Mut M0 m ρ) m ρ hi vhi) (hmx : OptDen w (Mut M0 m ρ) m ρ mx vmx)
    (he : effSlice P m t x lo hi mx = some (pre, v, ups)) (hp : pre = true) : ups = [] ∧ ∃ z, (Instr.sliceAt t y vlo vhi vmx).run P w = .ok z w ∧ v.Den w (Mut M0 m ρ) m ρ z := by
  obtain ⟨h1, z, h2, h3, _⟩ := sd_slice' h hx hlo hhi hmx he hp
  exact ⟨h1, z, h2, h3⟩
end
end Go.Pv

namespace Go.Pv
open Go.RowKit
set_option linter.unusedVariables false
set_option linter.unusedSimpArgs false
set_option linter.constructorNameAsVariable false

/-- the cells of an element of a slice type -/
def esOf (P : Program) (t : TypeId) : Nat :=
  match P.underlying t with
  | some (.slice e) => P.cellsOf e
  | _ => 0

def mvA (P : Program) (t : TypeId) : A → A
  | .d (.nl _) => .d (.nl (esOf P t))
  | x => x

def effBuild (P : Program) (m : Mem) (T : Nat → A) (t : TypeId) (ps : List (Nat × Operand)) : Option E :=
  match structPl P t, zeroC P t, optCells m (ps.map fun p => (p.1, evT T p.2)) with
  | some pl, some z, some parts => (fillA pl (z.map .d) parts).map fun out => (true, .agg out, [])
  | _, _, _ => none

/-- is the id free? -/
def freeB (m : Mem) (d : Nat) : Bool := match m d with
  | none => true
  | some _ => false
theorem freeB_eq {m : Mem} {d : Nat} (h : freeB m d = true) : m d = none := by
  unfold freeB at h; split at h <;> simp_all

def effBuildSlice (P : Program) (m : Mem) (T : Nat → A) (d : Nat) (t : TypeId) (len : Nat) (ps : List (Nat × Operand)) : Option E :=
  match elemOf' P t with
  | some e => match zeroC P e, optCells m (ps.map fun p => (p.1, evT T p.2)) with
    | some z, some rp => (fillR (P.cellsOf e) (List.replicate len (z.map A.d)) rp).map fun out =>
      (decide (z.length = P.cellsOf e ∧ 0 < P.cellsOf e ∧ len * P.cellsOf e ≤ 16777216) && freeB m d, .h d, [(d, .osl false e (P.cellsOf e) out)])
    | _, _ => none
  | none => none

def effStore (P : Program) (m : Mem) (T : Nat → A) (t : TypeId) (ad x : Operand) : Option E :=
  match evT T ad, (evT T x).cells m with
  | .lp i off, some vs => match m i with
    | some (.cells false l) => some (decide (vs.length = P.cellsOf t ∧ 0 < P.cellsOf t ∧ off + vs.length ≤ l.length), .x, [(i, .cells false (splA l off vs))])
    | _ => none
  | .ep i es k off, some vs => match m i with
    | some (.osl false te es' l) => some (decide (es' = es ∧ k < l.length ∧ vs.length = P.cellsOf t ∧ 0 < P.cellsOf t ∧ off + vs.length ≤ es), .x, [(i, .osl false te es (l.set k (splA (l.getD k []) off vs)))])
    | _ => none
  | _, _ => none

/-- the resource of an append's destination is of that element type -/
def dstOk (m : Mem) (e : TypeId) (es : Nat) : Option Nat → Bool
  | none => true
  | some i => match m i with
    | some (.osl false e' es' _) => decide (e' = e ∧ es' = es)
    | _ => false

/-- the source's elements have so many cells -/
def srcEs (m : Mem) (es : Nat) : A → Bool
  | .h j => match m j with
    | some (.osl _ _ es' _) => decide (es' = es)
    | _ => false
  | .sv j _ _ => match m j with
    | some (.osl _ _ es' _) => decide (es' = es)
    | _ => false
  | .d (.sl es' _) => decide (es' = es)
  | .d (.nl _) => true
  | _ => false

def effAppend (P : Program) (m : Mem) (T : Nat → A) (d : Nat) (t : TypeId) (od ox : Operand) : Option E :=
  match elemOf' P t with
  | some e => match dstRows m (evT T od), srcRows m (evT T ox), zeroC P e with
    | some (k, l), some l2, some z => some (decide (z.length = P.cellsOf e ∧ 0 < P.cellsOf e ∧ 0 < P.bytesOf e ∧ (l.length + l2.length) * P.bytesOf e ≤ 140737488355328) && (dstOk m e (P.cellsOf e) k && (srcEs m (P.cellsOf e) (evT T ox) && freeB m d)),
        .h d, killU k ++ [(d, .osl false e (P.cellsOf e) (l ++ l2))])
    | _, _, _ => none
  | none => none

def effMakeSlice (P : Program) (m : Mem) (d : Nat) (t : TypeId) (l c : A) : Option E :=
  match elemOf' P t, l, c with
  | some e, .d (.v (.int kl l)), .d (.v (.int kc c)) => (zeroC P e).map fun z =>
    (decide (z.length = P.cellsOf e ∧ 0 < P.cellsOf e ∧ 0 ≤ l ∧ l ≤ c ∧ (P.bytesOf e : Int) * c ≤ 281474976710656 ∧ c ≤ 9223372036854775807) && freeB m d, .h d, [(d, .osl false e (P.cellsOf e) (List.replicate l.toNat (z.map A.d)))])
  | _, _, _ => none

def effMinMax (mx : Bool) (x y : A) : Option E :=
  match x, y with
  | .d (.v (.int k a)), .d (.v (.int k' b)) => some (decide (k = k'), .d (.v (.int k (if mx then (if b > a then b else a) else (if b < a then b else a)))), [])
  | _, _ => none

/-- what an operation comes to, calls of functions apart -/
def effOp (P : Program) (m : Mem) (T : Nat → A) (d : Nat) (o : Oper) : Option E :=
  match o.op with
  | .move x => some (true, mvA P o.type (evT T x), [])
  | .assign x => some (true, mvA P o.type (evT T x), [])
  | .pick c a b => match evT T c with
    | .d (.v (.bool t)) => some (true, bif t then evT T a else evT T b, [])
    | _ => none
  | .alloc t => (zeroC P t).map fun l => (freeB m d, .lp d 0, [(d, .cells false (l.map .d))])
  | .box t x => ((evT T x).cells m).map fun l => (freeB m d, .lp d 0, [(d, .cells false l)])
  | .build t ps => effBuild P m T t ps.toList
  | .buildSlice t n ps => effBuildSlice P m T d t n ps.toList
  | .load t x => effLoad P m t (evT T x)
  | .store t x y => effStore P m T t x y
  | .nilCheck x => effNilCheck m (evT T x)
  | .binOp op t x y _ => effBin P m op t (evT T x) (evT T y)
  | .unOp op _ x => effUn op (evT T x)
  | .convert s t x => effConvert P s t (evT T x)
  | .makeFunc f first caps => some (true, .fn f (first.toList.map (evT T)) (caps.toList.map (evT T)), [])
  | .makeMap t none => some (freeB m d, .h d, [(d, .mp false [] [])])
  | .makeSlice t l c => effMakeSlice P m d t (evT T l) (evT T c)
  | .slice t x lo hi mx => effSlice P m t (evT T x) (lo.map (evT T)) (hi.map (evT T)) (mx.map (evT T))
  | .fieldAddr t x f => effFieldAddr P m t (evT T x) f
  | .field t x f => effField P m t (evT T x) f
  | .indexAddr t x i => effIndexAddr P m t (evT T x) (evT T i)
  | .extract x i => match evT T x with
    | .tup l => some (decide (i < l.length), l.getD i .x, [])
    | _ => none
  | .call c => match c.callee, c.args.toList, c.argTypes.toList with
    | .builtin .len, [x], [t] => effLen P m t (evT T x)
    | .builtin .append, [x, y], [t, t'] => (effAppend P m T d t x y).map fun r => (decide (t = t') && r.1, r.2)
    | .builtin .max, [x, y], _ => effMinMax true (evT T x) (evT T y)
    | .builtin .min, [x, y], _ => effMinMax false (evT T x) (evT T y)
    | _, _, _ => none
  | _ => none

section
variable {M0 S0 : Nat → Prop} {w0 : World} {N : Fr} {T : Nat → A} {m : Mem} {ρ : Nat → Value} {a : Act} {w : World} {P : Program}

theorem mvA_den {t : TypeId} {x : A} {y : Value} {M : Nat → Prop} (h : x.Den w M m ρ y) : (mvA P t x).Den w M m ρ y := by
  unfold mvA
  split
  · simp only [A.Den, C.Den] at h ⊢; exact h
  · exact h

/-- a run that gives a value, and the state behind it -/
def Gives (P : Program) (M0 S0 : Nat → Prop) (w0 : World) (N : Fr) (T : Nat → A) (m : Mem) (ρ : Nat → Value) (a : Act) (w : World) (o : Oper) (v : A) (m' : Mem) : Prop :=
  ∃ y w' ρ' res, (execOp a.eval o).run P w = .ok res w' ∧ (res = .value y ∨ (res = .skip ∧ y = undef)) ∧ SatAt M0 S0 w0 N T m' ρ' a w' ∧ Onto m m' ρ ρ' ∧ v.Den w' (Mut M0 m' ρ') m' ρ' y

theorem gives_pure (h : SatAt M0 S0 w0 N T m ρ a w) {o : Oper} {v : A} {y : Value} (hr : (execOp a.eval o).run P w = .ok (.value y) w) (hv : v.Den w (Mut M0 m ρ) m ρ y) : Gives P M0 S0 w0 N T m ρ a w o v m :=
  ⟨y, w, ρ, _, hr, .inl rfl, h, Onto.refl _ _, hv⟩

theorem lenRows_of (h : SatAt M0 S0 w0 N T m ρ a w) {x : A} {y : Value} {l : List (List A)} {es : Nat} (hx : x.Den w (Mut M0 m ρ) m ρ y) (hs : srcRows m x = some l) (he : srcEs m es x = true) : ∀ r ∈ l, r.length = es := by
  cases x with
  | h j =>
    simp only [srcRows] at hs; simp only [srcEs] at he
    split at hs
    · rename_i fz t es' l' hj
      simp at hs; subst hs
      rw [hj] at he; simp at he; subst he
      obtain ⟨xs, _, _, h3, _⟩ := h.res j _ hj
      exact h3
    · cases hs
  | sv j lo n =>
    simp only [srcRows] at hs; simp only [srcEs] at he
    split at hs
    · rename_i fz t es' l' hj
      simp at hs; subst hs
      rw [hj] at he; simp at he; subst he
      obtain ⟨xs, _, _, h3, _⟩ := h.res j _ hj
      exact fun r hr => h3 r (List.mem_of_mem_drop (List.mem_of_mem_take hr))
    · cases hs
  | d c =>
    cases c with
    | sl es' l' =>
      simp [srcRows] at hs; subst hs
      simp only [srcEs] at he; have he := of_decide_eq_true he; subst he
      simp only [A.Den, C.Den] at hx
      obtain ⟨ad, cap, _, _, hl⟩ := hx
      rcases hl with rfl | ⟨b, off, _, _, _, hr⟩
      · simp
      · intro r hr'
        rw [C.DenRow_iff] at hr
        obtain ⟨r0, hr0, rfl⟩ := List.mem_map.1 hr'
        obtain ⟨k, hk, rfl⟩ := List.mem_iff_getElem.1 hr0
        rw [List.length_map]
        exact (hr k _ (List.getElem?_eq_getElem hk)).1
    | nl es' => simp [srcRows] at hs; subst hs; simp
    | _ => simp [srcRows] at hs
  | _ => simp [srcRows] at hs

theorem arr1 {α : Type} {a : Array α} {x : α} (h : a.toList = [x]) : a = #[x] := by cases a; simp_all
theorem arr2 {α : Type} {a : Array α} {x y : α} (h : a.toList = [x, y]) : a = #[x, y] := by cases a; simp_all

theorem denL_map_ev (h : SatAt M0 S0 w0 N T m ρ a w) : ∀ (l : List Operand), A.DenL w (Mut M0 m ρ) m ρ (l.map (evT T)) (l.map a.eval)
  | [] => by simp [A.DenL]
  | o :: r => by simp only [List.map_cons, A.DenL]; exact ⟨_, _, rfl, ev_den h o, denL_map_ev h r⟩

theorem optDen_map (h : SatAt M0 S0 w0 N T m ρ a w) (o : Option Operand) : OptDen w (Mut M0 m ρ) m ρ (o.map (evT T)) (o.map a.eval) := by
  cases o with
  | none => exact .inl ⟨rfl, rfl⟩
  | some o => exact .inr ⟨_, _, rfl, rfl, ev_den h o⟩

set_option maxHeartbeats 1600000 in
theorem sd_op (h : SatAt M0 S0 w0 N T m ρ a w) (hlt : ∀ b, M0 b → b < w0.heap.size) {o : Oper} {d : Nat} {pre : Bool} {v : A} {ups : List (Nat × R)} (he : effOp P m T d o = some (pre, v, ups)) (hp : pre = true) : Gives P M0 S0 w0 N T m ρ a w o v (applyU m ups) := by
  unfold effOp at he
  split at he
  case h_1 x ho =>
    simp only [Option.some.injEq, Prod.mk.injEq] at he; obtain ⟨_, rfl, rfl⟩ := he
    exact gives_pure h (by simp [execOp, ho]) (mvA_den (ev_den h x))
  case h_2 x ho =>
    simp only [Option.some.injEq, Prod.mk.injEq] at he; obtain ⟨_, rfl, rfl⟩ := he
    exact gives_pure h (by simp [execOp, ho]) (mvA_den (ev_den h x))
  case h_3 c x y ho =>
    split at he
    · rename_i t hc
      simp only [Option.some.injEq, Prod.mk.injEq] at he; obtain ⟨_, rfl, rfl⟩ := he
      have hcv := ev_den h c
      rw [hc] at hcv; simp only [A.Den, C.Den] at hcv
      refine gives_pure h (y := if t then a.eval x else a.eval y) (by simp [execOp, ho, hcv, asBool]) ?_
      cases t
      · exact ev_den h y
      · exact ev_den h x
    · cases he
  case h_4 t ho =>
    simp only [Option.map_eq_some_iff] at he
    obtain ⟨l, h1, h2⟩ := he
    simp only [Prod.mk.injEq] at h2; obtain ⟨rfl, rfl, rfl⟩ := h2
    obtain ⟨ρ', w', hr, hs, hO, hv⟩ := sd_alloc h hlt h1 (freeB_eq hp)
    exact ⟨_, w', ρ', _, by simp [execOp, ho, hr], .inl rfl, hs, hO, hv⟩
  case h_5 t x ho =>
    simp only [Option.map_eq_some_iff] at he
    obtain ⟨l, h1, h2⟩ := he
    simp only [Prod.mk.injEq] at h2; obtain ⟨rfl, rfl, rfl⟩ := h2
    obtain ⟨ρ', w', hr, hs, hO, hv⟩ := sd_box (P := P) (t := t) h hlt (ev_den h x) h1 (freeB_eq hp)
    exact ⟨_, w', ρ', _, by simp [execOp, ho, hr], .inl rfl, hs, hO, hv⟩
  case h_6 t ps ho =>
    unfold effBuild at he
    split at he
    · rename_i pl z parts h1 h2 h3
      simp only [Option.map_eq_some_iff] at he
      obtain ⟨out, h4, h5⟩ := he
      simp only [Prod.mk.injEq] at h5; obtain ⟨rfl, rfl, rfl⟩ := h5
      obtain ⟨y, hr, hv⟩ := sd_build (P := P) (w := w) h1 h2 (optCells_den h h3) h4
      refine gives_pure h (y := y) ?_ hv
      have e : (ps.map fun (i, x) => (i, a.eval x)) = (ps.toList.map fun p => (p.1, a.eval p.2)).toArray := by cases ps; simp
      simp only [execOp, ho, e, Sem.run_bind, hr, Result.andThen_ok, Sem.run_pure]
    · cases he
  case h_7 t n ps ho =>
    unfold effBuildSlice at he
    split at he
    · rename_i e hel
      split at he
      · rename_i z rp h1 h2
        simp only [Option.map_eq_some_iff] at he
        obtain ⟨out, h4, h5⟩ := he
        simp only [Prod.mk.injEq] at h5; obtain ⟨rfl, rfl, rfl⟩ := h5
        rw [Bool.and_eq_true] at hp
        obtain ⟨p1, p2, p3⟩ := of_decide_eq_true hp.1
        obtain ⟨ρ', y, w', hr, hs, hO, hv⟩ := sd_buildSlice h hlt hel h1 p1 p2 rfl p3 h2 h4 (freeB_eq hp.2)
        have e2 : (ps.map fun (i, x) => (i, a.eval x)) = (ps.toList.map fun p => (p.1, a.eval p.2)).toArray := by cases ps; simp
        exact ⟨y, w', ρ', _, by simp only [execOp, ho, e2, Sem.run_bind, hr, Result.andThen_ok, Sem.run_pure], .inl rfl, hs, hO, hv⟩
      · cases he
    · cases he
  case h_8 t x ho =>
    obtain ⟨rfl, z, hr, hv⟩ := sd_load (P := P) h (ev_den h x) he hp
    exact gives_pure h (by simp [execOp, ho, hr]) hv
  case h_9 t x y ho =>
    unfold effStore at he
    split at he
    · rename_i i off vs hx h2
      split at he
      · rename_i l h1
        simp only [Option.some.injEq, Prod.mk.injEq] at he; obtain ⟨rfl, rfl, rfl⟩ := he
        obtain ⟨p1, p2, p3⟩ := of_decide_eq_true hp
        have hxd := ev_den h x
        rw [hx] at hxd
        obtain ⟨ti, hti⟩ := info_pos p2
        obtain ⟨w', hr, hs, hO⟩ := sd_store_lp (P := P) (t := t) h hxd h1 h2 p1 p3 (by rw [hti]; rfl)
        exact ⟨undef, w', ρ, _, by simp [execOp, ho, hr], .inr ⟨rfl, rfl⟩, hs, hO, by simp only [A.Den]⟩
      · cases he
    · rename_i i es k off vs hx h1
      split at he
      · rename_i te es' l h2
        simp only [Option.some.injEq, Prod.mk.injEq] at he; obtain ⟨rfl, rfl, rfl⟩ := he
        obtain ⟨rfl, p1, p2, p3, p4⟩ := of_decide_eq_true hp
        obtain ⟨ti, hti⟩ := info_pos p3
        have hxd := ev_den h x
        rw [hx] at hxd
        obtain ⟨w', hr, hs, hO⟩ := sd_store_ep (P := P) (t := t) h hxd h2 h1 p1 p2 (by rintro rfl; simp at p2; omega) p4 (by rw [hti]; rfl)
        exact ⟨undef, w', ρ, _, by simp [execOp, ho, hr], .inr ⟨rfl, rfl⟩, hs, hO, by simp only [A.Den]⟩
      · cases he
    · cases he
  case h_10 x ho =>
    obtain ⟨rfl, ⟨d, hy⟩, hv⟩ := sd_nilCheck h (ev_den h x) he hp
    refine gives_pure h (y := a.eval x) ?_ hv
    rcases hy with hy | ⟨g, f, c, hy⟩ <;> simp [execOp, ho, hy]
  case h_11 op t x y ty ho =>
    obtain ⟨rfl, z, hr, hv⟩ := sd_bin (P := P) (ox := x) (oy := y) h (ev_den h x) (ev_den h y) he hp
    refine gives_pure h (y := z) ?_ hv
    simp only [execOp, ho, Sem.run_bind] at hr ⊢
    rw [hr]; rfl
  case h_12 op ty x ho =>
    obtain ⟨rfl, z, hr, hv⟩ := sd_un (P := P) (ev_den h x) he hp
    exact gives_pure h (by simp [execOp, ho, hr]) hv
  case h_13 s t x ho =>
    obtain ⟨rfl, z, hr, hv⟩ := sd_convert (P := P) (ev_den h x) he hp
    exact gives_pure h (by simp [execOp, ho, hr]) hv
  case h_14 f first caps ho =>
    simp only [Option.some.injEq, Prod.mk.injEq] at he; obtain ⟨_, rfl, rfl⟩ := he
    refine gives_pure h (y := .func f (first.map a.eval) (caps.map a.eval)) (by simp [execOp, ho, Instr.makeFunc]) ?_
    simp only [A.Den]
    exact ⟨_, _, rfl, by simpa using denL_map_ev h first.toList, by simpa using denL_map_ev h caps.toList⟩
  case h_15 t ho =>
    simp only [Option.some.injEq, Prod.mk.injEq] at he; obtain ⟨rfl, rfl, rfl⟩ := he
    obtain ⟨ρ', y, w', hr, hs, hO, hv⟩ := sd_makeMap (P := P) (t := t) h hlt (freeB_eq hp)
    exact ⟨y, w', ρ', _, by simp [execOp, ho, hr], .inl rfl, hs, hO, hv⟩
  case h_16 t l c ho =>
    unfold effMakeSlice at he
    split at he
    · rename_i e kl l' kc c' h1 h2 h3
      simp only [Option.map_eq_some_iff] at he
      obtain ⟨z, h4, h5⟩ := he
      simp only [Prod.mk.injEq] at h5; obtain ⟨rfl, rfl, rfl⟩ := h5
      rw [Bool.and_eq_true] at hp
      obtain ⟨p1, p2, p3, p4, p5, p6⟩ := of_decide_eq_true hp.1
      obtain ⟨ρ', y, w', hr, hs, hO, hv⟩ := sd_makeSlice (P := P) (kl := kl) (kc := kc) h hlt h1 h4 p1 p2 rfl rfl p3 p4 p5 p6 (freeB_eq hp.2)
      have hl := ev_den h l; have hc := ev_den h c
      rw [h2] at hl; rw [h3] at hc
      simp only [A.Den, C.Den] at hl hc
      exact ⟨y, w', ρ', _, by simp [execOp, ho, hl, hc, hr], .inl rfl, hs, hO, hv⟩
    · cases he
  case h_17 t x lo hi mx ho =>
    obtain ⟨rfl, z, hr, hv⟩ := sd_slice (P := P) h (ev_den h x) (optDen_map h lo) (optDen_map h hi) (optDen_map h mx) he hp
    exact gives_pure h (by simp [execOp, ho, hr]) hv
  case h_18 t x f ho =>
    obtain ⟨rfl, z, hr, hv⟩ := sd_fieldAddr (P := P) h (ev_den h x) he hp
    exact gives_pure h (by simp [execOp, ho, hr]) hv
  case h_19 t x f ho =>
    obtain ⟨rfl, z, hr, hv⟩ := sd_field (P := P) h (ev_den h x) he hp
    exact gives_pure h (by simp [execOp, ho, hr]) hv
  case h_20 t x i ho =>
    obtain ⟨rfl, z, hr, hv⟩ := sd_indexAddr (P := P) h (ev_den h x) (ev_den h i) he hp
    exact gives_pure h (by simp [execOp, ho, hr]) hv
  case h_21 x i ho =>
    split at he
    · rename_i l hx
      simp only [Option.some.injEq, Prod.mk.injEq] at he; obtain ⟨rfl, rfl, rfl⟩ := he
      have hp := of_decide_eq_true hp
      have hxd := ev_den h x
      rw [hx] at hxd; simp only [A.Den] at hxd
      obtain ⟨vs, hv, hd⟩ := hxd
      have hlen := (A.DenL_iff.1 hd).1
      have hlt' : i < vs.toList.length := by omega
      refine gives_pure h (y := vs.toList[i]) ?_ ?_
      · have : vs[i]? = some vs.toList[i] := by simp at hlt'; simp [hlt']
        simp [execOp, ho, hv, Instr.extract, this]
      · rw [List.getD_eq_getElem?_getD, List.getElem?_eq_getElem hp]
        exact (A.DenL_iff.1 hd).2 _ _ _ (List.getElem?_eq_getElem hp) (List.getElem?_eq_getElem hlt')
    · cases he
  case h_22 c ho =>
    obtain ⟨callee, args, tys⟩ := c
    simp only at he
    split at he
    · rename_i x t h2 h3
      have e1 := arr1 h2; have e2 := arr1 h3; subst e1; subst e2
      obtain ⟨rfl, z, hr, hv⟩ := sd_len (P := P) (ty := o.type) h (ev_den h x) he hp
      exact gives_pure h (by simp [execOp, ho, resolve, invoke, builtin, hr]) hv
    · rename_i x y t t' h2 h3
      have e1 := arr2 h2; have e2 := arr2 h3; subst e1; subst e2
      simp only [Option.map_eq_some_iff] at he
      obtain ⟨⟨p, q, r⟩, h4, h5⟩ := he
      simp only [Prod.mk.injEq] at h5; obtain ⟨rfl, rfl, rfl⟩ := h5
      rw [Bool.and_eq_true] at hp
      obtain ⟨htt, hp⟩ := hp
      have htt := of_decide_eq_true htt
      subst htt
      unfold effAppend at h4
      split at h4
      · rename_i e hel
        split at h4
        · rename_i k l l2 z g1 g2 g3
          simp only [Option.some.injEq, Prod.mk.injEq] at h4; obtain ⟨rfl, rfl, rfl⟩ := h4
          simp only [Bool.and_eq_true] at hp
          obtain ⟨p0, p4, p5, p6⟩ := hp
          obtain ⟨p1, p2, p3, p7⟩ := of_decide_eq_true p0
          have p6 := freeB_eq p6
          have hk : ∀ i, k = some i → ∃ l', m i = some (.osl false e (P.cellsOf e) l') := by
            rintro i rfl
            simp only [dstOk] at p4
            split at p4
            · rename_i e' es' l' hi; obtain ⟨rfl, rfl⟩ := of_decide_eq_true p4; exact ⟨l', hi⟩
            · cases p4
          have hle : ∀ r ∈ l, r.length = P.cellsOf e := by
            cases hxe : evT T x with
            | h i =>
              rw [hxe] at g1; simp only [dstRows] at g1
              split at g1
              · rename_i t2 es2 l2' hi
                simp at g1; obtain ⟨rfl, rfl⟩ := g1
                obtain ⟨l', hi'⟩ := hk i rfl
                rw [hi] at hi'; simp at hi'; obtain ⟨rfl, rfl, rfl⟩ := hi'
                obtain ⟨xs, _, _, h3, _⟩ := h.res i _ hi
                exact h3
              · cases g1
            | d c =>
              rw [hxe] at g1
              cases c <;> simp [dstRows] at g1
              obtain ⟨_, rfl⟩ := g1; simp
            | _ => rw [hxe] at g1; simp [dstRows] at g1
          obtain ⟨ρ', y', w', hr, hs, hO, hv⟩ := sd_append (P := P) (ty := o.type) h hlt g1 g2 hel g3 p1 p2 rfl rfl p3 hle (lenRows_of h (ev_den h y) g2 p5) hk p6 p7
          rw [applyU_append]
          exact ⟨y', w', ρ', _, by simp [execOp, ho, resolve, invoke, builtin, hr], .inl rfl, hs, hO, hv⟩
        · cases h4
      · cases h4
    · rename_i x y h2
      have e1 := arr2 h2; subst e1
      unfold effMinMax at he
      split at he
      · rename_i k p k' q hx hy
        simp only [Option.some.injEq, Prod.mk.injEq] at he; obtain ⟨rfl, rfl, rfl⟩ := he
        have hp := of_decide_eq_true hp
        subst hp
        have hxd := ev_den h x; have hyd := ev_den h y
        rw [hx] at hxd; rw [hy] at hyd
        simp only [A.Den, C.Den] at hxd hyd
        exact gives_pure h (by simp [execOp, ho, resolve, invoke, builtin, Builtin.max_, Builtin.max2, hxd, hyd]; rfl) (by simp [A.Den, C.Den])
      · cases he
    · rename_i x y h2
      have e1 := arr2 h2; subst e1
      unfold effMinMax at he
      split at he
      · rename_i k p k' q hx hy
        simp only [Option.some.injEq, Prod.mk.injEq] at he; obtain ⟨rfl, rfl, rfl⟩ := he
        have hp := of_decide_eq_true hp
        subst hp
        have hxd := ev_den h x; have hyd := ev_den h y
        rw [hx] at hxd; rw [hy] at hyd
        simp only [A.Den, C.Den] at hxd hyd
        exact gives_pure h (by simp [execOp, ho, resolve, invoke, builtin, Builtin.min_, Builtin.min2, hxd, hyd]; rfl) (by simp [A.Den, C.Den])
      · cases he
    · cases he
  case h_23 => cases he
end
end Go.Pv

namespace Go.Pv
open Go.RowKit
set_option linter.unusedVariables false
set_option linter.unusedSimpArgs false
set_option linter.constructorNameAsVariable false

mutual
/-- other names -/
def A.ren (g : Nat → Nat) : A → A
  | .lp i off => .lp (g i) off
  | .h i => .h (g i)
  | .ep i es k off => .ep (g i) es k off
  | .sv i lo n => .sv (g i) lo n
  | .fn f a c => .fn f (A.renL g a) (A.renL g c)
  | .agg l => .agg (A.renL g l)
  | .tup l => .tup (A.renL g l)
  | .ifc t a => .ifc t (A.ren g a)
  | .d c => .d c
  | .x => .x
def A.renL (g : Nat → Nat) : List A → List A
  | [] => []
  | c :: r => A.ren g c :: A.renL g r
end

theorem renL_append (g : Nat → Nat) : ∀ l r : List A, A.renL g (l ++ r) = A.renL g l ++ A.renL g r
  | [], r => rfl
  | c :: l, r => by simp [A.renL, renL_append g l r]
theorem renL_map (g : Nat → Nat) : ∀ l : List A, A.renL g l = l.map (A.ren g)
  | [] => rfl
  | c :: l => by simp [A.renL, renL_map g l]
theorem renL_length (g : Nat → Nat) : ∀ l : List A, (A.renL g l).length = l.length
  | [] => rfl
  | c :: l => by simp [A.renL, renL_length g l]
theorem renL_flatten (g : Nat → Nat) : ∀ l : List (List A), (l.map (A.renL g)).flatten = A.renL g l.flatten
  | [] => rfl
  | e :: l => by simp only [List.map_cons, List.flatten_cons, renL_append, renL_flatten g l]

def R.ren (g : Nat → Nat) : R → R
  | .cells fz l => .cells fz (A.renL g l)
  | .osl fz t es l => .osl fz t es (l.map (A.renL g))
  | .mp fz kv st => .mp fz (kv.map fun p => (p.1, p.2.ren g)) (st.map fun p => (p.1, g p.2))
  | .fr l => .fr (A.renL g l)
  | .it i sc a b => .it (g i) (g sc) (a.map g) (b.map g)
  | .lo st pend ts ps asg bod => .lo st pend (A.renL g ts) ps asg bod
  | .cu src es l => .cu (src.ren g) es (l.map (A.renL g))
  | r => r

/-- what was named i is named g i -/
def OntoG (g : Nat → Nat) (m m' : Mem) (ρ ρ' : Nat → Value) : Prop := ∀ i, m i ≠ none → m' (g i) ≠ none ∧ (m' (g i) ≠ some .dead → m i ≠ some .dead ∧ ρ' (g i) = ρ i ∧ ∀ fz t es l, m i = some (.osl fz t es l) → ∃ fz' t' l', m' (g i) = some (.osl fz' t' es l') ∧ l'.length = l.length)

theorem Has.monoG {g : Nat → Nat} {m m' : Mem} {ρ ρ' : Nat → Value} (hO : OntoG g m m' ρ ρ') {i : Nat} {p q : Prop} (h : Has m i p)
    (hpq : ρ' (g i) = ρ i → (∀ fz t es l, m i = some (.osl fz t es l) → ∃ fz' t' l', m' (g i) = some (.osl fz' t' es l') ∧ l'.length = l.length) → p → q) : Has m' (g i) q := by
  obtain ⟨h1, h2⟩ := hO i h.1
  exact ⟨h1, fun hd => hpq (h2 hd).2.1 (h2 hd).2.2 (h.2 (h2 hd).1)⟩

mutual
theorem A.Den_push {g : Nat → Nat} {w w' : World} {M M' : Nat → Prop} {m m' : Mem} {ρ ρ' : Nat → Value} (h : Stays M w w') (hM : ∀ b, M' b → b < w.heap.size → M b) (hO : OntoG g m m' ρ ρ') :
    ∀ (a : A) (y : Value), a.Den w M m ρ y → (a.ren g).Den w' M' m' ρ' y
  | .d c, y, hd => by
    simp only [A.ren, A.Den] at hd ⊢
    exact C.Den_mono h hM c y hd
  | .lp i off, y, hd => by
    simp only [A.ren, A.Den] at hd ⊢
    exact hd.monoG hO fun e _ ⟨b, h1, h2⟩ => ⟨b, e.trans h1, h2⟩
  | .h i, y, hd => by
    simp only [A.ren, A.Den] at hd ⊢
    exact hd.monoG hO fun e _ h1 => h1.trans e.symm
  | .ep i es k off, y, hd => by
    simp only [A.ren, A.Den] at hd ⊢
    exact hd.monoG hO fun e _ ⟨b, n, cap, h1, h2⟩ => ⟨b, n, cap, e.trans h1, h2⟩
  | .sv i lo n, y, hd => by
    simp only [A.ren, A.Den] at hd ⊢
    refine hd.monoG hO fun e e2 ⟨a, cap, h1, h2, es, fz, t, l, h5, h6, h3⟩ => ?_
    obtain ⟨fz', t', l', h7, h8⟩ := e2 fz t es l h5
    exact ⟨a, cap, h1, h2, es, fz', t', l', h7, by omega, h3.imp (fun ⟨q1, q2⟩ => ⟨q1, fun q => by rw [h8]; exact q2 q⟩) fun ⟨b, n', cap', h9, h10⟩ => ⟨b, n', cap', e.trans h9, h10⟩⟩
  | .fn f first caps, y, hd => by
    simp only [A.ren, A.Den] at hd ⊢
    obtain ⟨us, vs, hy, h1, h2⟩ := hd
    exact ⟨us, vs, hy, A.DenL_push h hM hO first _ h1, A.DenL_push h hM hO caps _ h2⟩
  | .agg l, y, hd => by
    simp only [A.ren, A.Den] at hd ⊢
    obtain ⟨vs, hy, h0, h1⟩ := hd
    exact ⟨vs, hy, h0, A.DenL_push h hM hO l _ h1⟩
  | .tup l, y, hd => by
    simp only [A.ren, A.Den] at hd ⊢
    obtain ⟨vs, hy, h1⟩ := hd
    exact ⟨vs, hy, A.DenL_push h hM hO l _ h1⟩
  | .ifc t a, y, hd => by
    simp only [A.ren, A.Den] at hd ⊢
    obtain ⟨v, hy, h1⟩ := hd
    exact ⟨v, hy, A.Den_push h hM hO a _ h1⟩
  | .x, y, hd => by simp only [A.ren, A.Den]
theorem A.DenL_push {g : Nat → Nat} {w w' : World} {M M' : Nat → Prop} {m m' : Mem} {ρ ρ' : Nat → Value} (h : Stays M w w') (hM : ∀ b, M' b → b < w.heap.size → M b) (hO : OntoG g m m' ρ ρ') :
    ∀ (l : List A) (ys : List Value), A.DenL w M m ρ l ys → A.DenL w' M' m' ρ' (A.renL g l) ys
  | [], ys, hd => by simpa only [A.renL, A.DenL] using hd
  | c :: r, ys, hd => by
    simp only [A.renL, A.DenL] at hd ⊢
    obtain ⟨y, yr, hy, h1, h2⟩ := hd
    exact ⟨y, yr, hy, A.Den_push h hM hO c y h1, A.DenL_push h hM hO r yr h2⟩
end

theorem HasL.push {g : Nat → Nat} {m m' : Mem} {ρ ρ' : Nat → Value} (hO : OntoG g m m' ρ ρ') {ids : List Nat} {p q : Prop} (h : HasL m ids p) (hpq : (∀ i ∈ ids, stampOf ρ' (g i) = stampOf ρ i) → p → q) : HasL m' (ids.map g) q := by
  refine ⟨fun i hi => ?_, fun hd => hpq (fun i hi => ?_) (h.2 fun i hi => ?_)⟩
  · obtain ⟨j, hj, rfl⟩ := List.mem_map.1 hi
    exact (hO j (h.1 j hj)).1
  · unfold stampOf
    rw [((hO i (h.1 i hi)).2 (hd (g i) (List.mem_map.2 ⟨i, hi, rfl⟩))).2.1]
  · exact ((hO i (h.1 i hi)).2 (hd (g i) (List.mem_map.2 ⟨i, hi, rfl⟩))).1
theorem StIs.push {g : Nat → Nat} {m m' : Mem} {ρ ρ' : Nat → Value} (hO : OntoG g m m' ρ ρ') {st : List (Ky × Nat)} {l : List MapEntry} {cl : Nat} (h : StIs m ρ st l cl) : StIs m' ρ' (st.map fun p => (p.1, g p.2)) l cl := by
  intro p hp
  obtain ⟨q, hq, rfl⟩ := List.mem_map.1 hp
  exact (h q hq).monoG hO fun he _ r => by
    have e1 : stampOf ρ' (g q.2) = stampOf ρ q.2 := by unfold stampOf; rw [he]
    show (∀ e ∈ l, e.key = q.1.val → e.born = stampOf ρ' (g q.2)) ∧ stampOf ρ' (g q.2) ≤ cl ∧ (q.1 = .agg [] → stampOf ρ' (g q.2) = cl)
    rw [e1]; exact r
theorem ItIs.push {g : Nat → Nat} (hg : ∀ i j, g i = g j → i = j) {m m' : Mem} {ρ ρ' : Nat → Value} (hO : OntoG g m m' ρ ρ') {start seen : List Nat} {since : Nat} {sa : Array Nat} (h : ItIs m ρ start seen since sa) : ItIs m' ρ' (start.map g) (seen.map g) since sa :=
  ⟨fun i hi => by
    obtain ⟨j, hj, rfl⟩ := List.mem_map.1 hi
    exact List.mem_map.2 ⟨j, h.1 j hj, rfl⟩, HasL.push hO h.2 fun he ⟨h0, h1, h2, h3, h4⟩ => ⟨h0.map g (fun a b hab e => hab (hg a b e)), by rw [List.map_map, show (start.map (stampOf ρ' ∘ g)) = start.map (stampOf ρ) from List.map_congr_left he]; exact h1, fun i hi => by
    obtain ⟨j, hj, rfl⟩ := List.mem_map.1 hi
    rw [he j hj]
    refine ⟨(h2 j hj).1, (h2 j hj).2.trans ?_⟩
    have : (g j ∈ seen.map g) ↔ j ∈ seen := ⟨fun h => by obtain ⟨k, hk, e⟩ := List.mem_map.1 h; rw [hg _ _ e] at hk; exact hk, fun h => List.mem_map.2 ⟨j, h, rfl⟩⟩
    simp only [this], fun i hi => by
      obtain ⟨j, hj, rfl⟩ := List.mem_map.1 hi
      exact List.mem_map.2 ⟨j, h3 j hj, rfl⟩, by
      rw [h4]
      cases seen with
      | nil => rfl
      | cons s r => simp only [List.map_cons, List.head?_cons, Option.map_some]; rw [he s (h3 s (by simp))]⟩⟩

theorem R.Ok_push {g : Nat → Nat} (hg : ∀ i j, g i = g j → i = j) {w w' : World} {M M' : Nat → Prop} {m m' : Mem} {ρ ρ' : Nat → Value} (h : Stays M w w') (hM : ∀ b, M' b → b < w.heap.size → M b) (hO : OntoG g m m' ρ ρ')
    {hd : Value} (hb : ∀ b, blk hd = some b → b < w.heap.size → w'.heap[b]? = w.heap[b]?) {r : R} (hr : r.Ok w M m ρ hd) : (r.ren g).Ok w' M' m' ρ' hd := by
  cases r with
  | dead => trivial
  | cells fz l =>
    obtain ⟨b, cs, t, rfl, h1, h2, h3, h4⟩ := hr
    have hlt : b < w.heap.size := (Array.getElem?_eq_some_iff.1 h1).1
    exact ⟨b, cs, t, rfl, (hb b rfl hlt).trans h1, A.DenL_push h hM hO l _ h2, fun e f => h3 e (hM b f hlt), h4⟩
  | osl fz t es l =>
    obtain ⟨xs, h1, h2, h3, h4, h5⟩ := hr
    refine ⟨xs, ?_, by rw [renL_flatten]; exact A.DenL_push h hM hO _ _ h2, ?_, ?_, h5⟩
    rotate_left 1
    · intro e he
      obtain ⟨e', he', rfl⟩ := List.mem_map.1 he
      rw [renL_length]; exact h3 e' he'
    rotate_left 1
    · rw [List.length_map]
      rcases h1 with hn | ⟨hl, g, cap, cur, rfl, hp, hh, rest⟩
      · exact .inl hn
      · exact .inr ⟨hl, g, cap, cur, rfl, hp, (hb g (by simp [blk]; omega) (Array.getElem?_eq_some_iff.1 hh).1).trans hh, rest⟩
    · intro e b hbb f
      rcases h1 with ⟨_, _, a, rfl⟩ | ⟨hl, g, cap, cur, rfl, hp, hh, rest⟩
      · cases a <;> simp [blk] at hbb
      · simp [blk] at hbb
        obtain ⟨_, rfl⟩ := hbb
        exact h4 e _ (by simp [blk]; omega) (hM _ f (Array.getElem?_eq_some_iff.1 hh).1)
  | mp fz kv st =>
    obtain ⟨b, es, cl, l, rfl, h1, h2, h3, h4, h5⟩ := hr
    have hlt : b < w.heap.size := (Array.getElem?_eq_some_iff.1 h1).1
    have e1 : (kv.map fun p => (p.1, p.2.ren g)).map (·.1) = kv.map (·.1) := by rw [List.map_map]; rfl
    have e2 : (kv.map fun p => (p.1, p.2.ren g)).map (·.2) = A.renL g (kv.map (·.2)) := by rw [renL_map, List.map_map, List.map_map]; rfl
    refine ⟨b, es, cl, l, rfl, (hb b rfl hlt).trans h1, by rw [e1]; exact h2, by rw [e2]; exact A.DenL_push h hM hO _ _ h3, fun e f => h4 e (hM b f hlt), h5.push hO⟩
  | fr l =>
    obtain ⟨vs, rfl, h1⟩ := hr
    exact ⟨vs, rfl, A.DenL_push h hM hO _ _ h1⟩
  | it i sc start seen =>
    obtain ⟨b, mb, si, sa, rfl, h1, h2, h5, h4⟩ := hr
    have hlt : b < w.heap.size := (Array.getElem?_eq_some_iff.1 h1).1
    exact ⟨b, mb, si, sa, rfl, (hb b rfl hlt).trans h1, h2.monoG hO fun e _ q => e.trans q, h5.monoG hO fun e _ q => by unfold stampOf at q ⊢; rw [e]; exact q, h4.push hg hO⟩
  | sta => exact hr
  | it0 =>
    obtain ⟨b, rfl, h1⟩ := hr
    exact ⟨b, rfl, (hb b rfl (Array.getElem?_eq_some_iff.1 h1).1).trans h1⟩
  | si s pos =>
    obtain ⟨b, rfl, h1⟩ := hr
    exact ⟨b, rfl, (hb b rfl (Array.getElem?_eq_some_iff.1 h1).1).trans h1⟩
  | lo st pend ts ps asg bod =>
    obtain ⟨l, fn, vs, D, rfl, h1, h2⟩ := hr
    exact ⟨l, fn, vs, D, rfl, (hb l rfl (Array.getElem?_eq_some_iff.1 h1).1).trans h1, A.DenL_push h hM hO _ _ h2⟩
  | df tk =>
    obtain ⟨b, rfl, h1⟩ := hr
    exact ⟨b, rfl, (hb b rfl (Array.getElem?_eq_some_iff.1 h1).1).trans h1⟩
  | cu src es l =>
    obtain ⟨a, rfl, h1, h2, h3⟩ := hr
    refine ⟨a, by rw [List.length_map], A.Den_push h hM hO _ _ h1, ?_, h3.imp (fun e => by rw [e]; rfl) ?_⟩
    · intro e he
      obtain ⟨e', he', rfl⟩ := List.mem_map.1 he
      rw [renL_length]; exact h2 e' he'
    · rintro ⟨b, off, xs, e, h4, h5, h6, h7, h8⟩
      exact ⟨b, off, xs, e, fun f => h4 (hM b f h5), Nat.lt_of_lt_of_le h5 h.1, by rw [renL_flatten]; exact A.DenL_push h hM hO _ _ h6, h7, fun j v hj => (h.cell h5 h4).trans (h8 j v hj)⟩

theorem R.ren_live (g : Nat → Nat) (r : R) : (r.ren g).live = r.live := by cases r <;> rfl

/-- is a function one that can be called? -/
def callable (P : Program) (f : FuncId) : Bool :=
  match P.funcs[f]? with
  | some fn => !(fn.name == "runtime.NumGoroutine") && fn.body.isSome
  | none => false

theorem run_callFunc' {P : Program} {f : FuncId} (h : callable P f = true) (args : Array Value) (w : World) : (callFunc f args).run P w = .ok (.enter f args) w := by
  unfold callable at h
  split at h
  · rename_i fn hf
    simp only [Bool.and_eq_true, Bool.not_eq_true'] at h
    obtain ⟨b, hb⟩ := Option.isSome_iff_exists.1 h.2
    have : (fn.name = "runtime.NumGoroutine") = False := by simpa using h.1
    simp [callFunc, hf, h.1, hb, this]
  · cases h

def memOf (outs : List R) : Mem := fun i => outs[i]?

/-- new resources, in new memory -/
structure Outs (w w' : World) (M : Nat → Prop) (outs : List R) (ρ : Nat → Value) : Prop where
  ok : ∀ (i : Nat) (r : R), outs[i]? = some r → r.live = true ∧ r.Ok w' (Mut M (memOf outs) ρ) (memOf outs) ρ (ρ i)
  new : ∀ (i : Nat) (r : R) (b : Nat), outs[i]? = some r → blk (ρ i) = some b → w.heap.size ≤ b ∧ b < w'.heap.size
  apart : ∀ (i j : Nat) (r s : R) (b : Nat), outs[i]? = some r → outs[j]? = some s → blk (ρ i) = some b → blk (ρ j) = some b → i = j

/-- a function that only reads what it is given: for these closed arguments it answers ra, with new resources outs -/
def PureCall (P : Program) (f : FuncId) (cs : List C) (outs : List R) (ra : A) : Prop :=
  callable P f = true ∧ ∀ (w : World) (M : Nat → Prop) (vs : List Value), (∀ b, M b → b < w.heap.size) → C.DenL w M cs vs →
    Calls P f vs.toArray w fun e w' => ∃ v ρ, e = .returned v ∧ Keeps (fun _ => False) w w' ∧ Outs w w' M outs ρ ∧ ra.Den w' (Mut M (memOf outs) ρ) (memOf outs) ρ v

/-- ids of what a call at temporary d brings -/
def nid (d k : Nat) : Nat := d + 1000 * k

theorem nid_inj {d i j : Nat} (h : nid d i = nid d j) : i = j := by unfold nid at h; omega

def outU (d : Nat) : Nat → List R → List (Nat × R)
  | _, [] => []
  | k, r :: t => (nid d k, r.ren (nid d)) :: outU d (k + 1) t

/-- flat data: it reads no memory -/
def C.flat : C → Prop
  | .v _ => True
  | .nl _ => True
  | .agg l => ∀ c ∈ l, (∃ x, c = .v x) ∨ ∃ es, c = .nl es
  | _ => False

mutual
def A.flat : A → Prop
  | .d c => c.flat
  | .tup l => A.flatL l
  | .agg l => A.flatL l
  | .ifc _ a => A.flat a
  | .h _ => True
  | .lp _ _ => True
  | _ => False
def A.flatL : List A → Prop
  | [] => True
  | c :: r => A.flat c ∧ A.flatL r
end

def R.flat : R → Prop
  | .osl _ _ _ l => A.flatL l.flatten
  | .cells _ l => A.flatL l
  | .dead => True
  | _ => False

theorem flat1_den {w : World} {M M' : Nat → Prop} {c : C} {y : Value} (hf : (∃ x, c = .v x) ∨ ∃ es, c = .nl es) (h : c.Den w M y) : c.Den w M' y := by
  rcases hf with ⟨x, rfl⟩ | ⟨es, rfl⟩ <;> simpa only [C.Den] using h

theorem flat1L_den {w : World} {M M' : Nat → Prop} : ∀ {l : List C} {ys : List Value}, (∀ c ∈ l, (∃ x, c = .v x) ∨ ∃ es, c = .nl es) → C.DenL w M l ys → C.DenL w M' l ys
  | [], ys, _, h => by simpa only [C.DenL] using h
  | c :: r, ys, hf, h => by
    simp only [C.DenL] at h ⊢
    obtain ⟨y, yr, hy, h1, h2⟩ := h
    exact ⟨y, yr, hy, flat1_den (hf c (by simp)) h1, flat1L_den (fun c' hc' => hf c' (by simp [hc'])) h2⟩

theorem C.flat_den {w : World} {M M' : Nat → Prop} {c : C} {y : Value} (hf : c.flat) (h : c.Den w M y) : c.Den w M' y := by
  cases c with
  | v x => simpa only [C.Den] using h
  | nl es => simpa only [C.Den] using h
  | agg l =>
    simp only [C.Den] at h ⊢
    obtain ⟨vs, hy, h0, h1⟩ := h
    exact ⟨vs, hy, h0, flat1L_den hf h1⟩
  | _ => exact hf.elim

theorem C.flatL_den {w : World} {M M' : Nat → Prop} : ∀ {l : List C} {ys : List Value}, (∀ c ∈ l, c.flat) → C.DenL w M l ys → C.DenL w M' l ys
  | [], ys, _, h => by simpa only [C.DenL] using h
  | c :: r, ys, hf, h => by
    simp only [C.DenL] at h ⊢
    obtain ⟨y, yr, hy, h1, h2⟩ := h
    exact ⟨y, yr, hy, C.flat_den (hf c (by simp)) h1, C.flatL_den (fun c' hc' => hf c' (by simp [hc'])) h2⟩

mutual
theorem A.flat_den {w : World} {M M' : Nat → Prop} {m : Mem} {ρ : Nat → Value} : ∀ (a : A) (y : Value), a.flat → a.Den w M m ρ y → a.Den w M' m ρ y
  | .d c, y, hf, hh => by simp only [A.flat] at hf; simp only [A.Den] at hh ⊢; exact C.flat_den hf hh
  | .tup l, y, hf, hh => by
    simp only [A.flat] at hf; simp only [A.Den] at hh ⊢
    obtain ⟨vs, hy, h1⟩ := hh
    exact ⟨vs, hy, A.flatL_den l _ hf h1⟩
  | .agg l, y, hf, hh => by
    simp only [A.flat] at hf; simp only [A.Den] at hh ⊢
    obtain ⟨vs, hy, h0, h1⟩ := hh
    exact ⟨vs, hy, h0, A.flatL_den l _ hf h1⟩
  | .ifc t a, y, hf, hh => by
    simp only [A.flat] at hf; simp only [A.Den] at hh ⊢
    obtain ⟨v, hy, h1⟩ := hh
    exact ⟨v, hy, A.flat_den a _ hf h1⟩
  | .h i, y, hf, hh => by simpa only [A.Den] using hh
  | .lp i off, y, hf, hh => by simpa only [A.Den] using hh
  | .ep _ _ _ _, _, hf, _ => by simp only [A.flat] at hf
  | .sv _ _ _, _, hf, _ => by simp only [A.flat] at hf
  | .fn _ _ _, _, hf, _ => by simp only [A.flat] at hf
  | .x, _, hf, _ => by simp only [A.flat] at hf
theorem A.flatL_den {w : World} {M M' : Nat → Prop} {m : Mem} {ρ : Nat → Value} : ∀ (l : List A) (ys : List Value), A.flatL l → A.DenL w M m ρ l ys → A.DenL w M' m ρ l ys
  | [], ys, _, hh => by simpa only [A.DenL] using hh
  | c :: r, ys, hf, hh => by
    simp only [A.flatL] at hf
    simp only [A.DenL] at hh ⊢
    obtain ⟨y, yr, hy, h1, h2⟩ := hh
    exact ⟨y, yr, hy, A.flat_den c y hf.1 h1, A.flatL_den r yr hf.2 h2⟩
end

theorem R.flat_ok {w : World} {M M' : Nat → Prop} {m : Mem} {ρ : Nat → Value} {h : Value} {r : R} (hf : r.flat) (hl : r.live = true) (hr : r.Ok w M m ρ h) : r.Ok w M' m ρ h := by
  cases r with
  | dead => trivial
  | cells fz l =>
    obtain ⟨b, cs, t, e, h1, h2, h3, h4⟩ := hr
    exact ⟨b, cs, t, e, h1, A.flatL_den _ _ hf h2, fun e => by simp [R.live, e] at hl, h4⟩
  | osl fz t es l =>
    obtain ⟨xs, h1, h2, h3, h4, h5⟩ := hr
    exact ⟨xs, h1, A.flatL_den _ _ hf h2, h3, fun e => by simp [R.live, e] at hl, h5⟩
  | _ => exact hf.elim
end Go.Pv

namespace Go.Pv
open Go.RowKit
set_option linter.unusedVariables false
set_option linter.unusedSimpArgs false
set_option linter.constructorNameAsVariable false

/-- no fence; in the round of a loop, or in none -/
def FW (ro : Option Nat) : Fence := { fn := fun _ => True, depth := none, alive := false, round := ro }

def noDefer (o : Oper) : Bool := match o.op with
  | .defer _ => false
  | _ => true
theorem noDefer_ne {o : Oper} (h : noDefer o = true) : ∀ c, o.op ≠ .defer c := by
  intro c e; unfold noDefer at h; rw [e] at h; cases h

theorem wpIn_run {P : Program} {o : Oper} {ro : Option Nat} {a : Act} {w : World} {next : Act → World → Prop} {Q : Exit → Act → World → Prop} (hd : noDefer o = true) (h : o.uponIn (FW ro) 0 P a next Q ((execOp a.eval o).run P w)) : o.wpIn (FW ro) 0 P a w next Q := by
  refine ⟨fun _ _ => trivial, ?_⟩
  rw [Oper.semAt_eq _ _ _ (noDefer_ne hd)]; exact h

theorem wpIn_val {P : Program} {o : Oper} {ro : Option Nat} {a : Act} {w w' : World} {y : Value} {res : Next} {next : Act → World → Prop} {Q : Exit → Act → World → Prop} (hd : noDefer o = true) (hr : (execOp a.eval o).run P w = .ok res w') (hres : res = .value y ∨ (res = .skip ∧ y = undef)) (h : next (a.put o.dst y) w') : o.wpIn (FW ro) 0 P a w next Q := by
  refine wpIn_run hd ?_
  rw [hr]
  rcases hres with rfl | ⟨rfl, rfl⟩
  · exact h
  · exact h

theorem wpIn_enter {P : Program} {o : Oper} {ro : Option Nat} {a : Act} {w w' : World} {f : FuncId} {args : Array Value} {next : Act → World → Prop} {Q : Exit → Act → World → Prop} (hd : noDefer o = true) (hr : (execOp a.eval o).run P w = .ok (.enter f args) w')
    (h : Calls P f args w' fun e w'' => (∃ y, e = .returned y ∧ next (a.put o.dst y) w'') ∨ ∃ ch, e = .panicked ch ∧ Q (.panic ch) a w'') : o.wpIn (FW ro) 0 P a w next Q := by
  refine wpIn_run hd ?_
  rw [hr, Oper.uponIn_enter]
  refine ⟨fun e => (by cases e), ?_⟩
  have h1 : CallsIn (FW ro) (0 - 1) P f args w' _ := callsIn_wide.2 h
  refine ⟨h1.1, fun cs hroom => ?_⟩
  obtain ⟨e, w3, fr, q, r⟩ := h1.2 cs hroom
  refine ⟨e, w3, fr, ?_, r⟩
  rcases q with ⟨y, rfl, q⟩ | ⟨ch, rfl, q⟩
  · exact q
  · exact q

/-- an operation takes the state (T, m) to the value v and the resources m' -/
def OpT (P : Program) (o : Oper) (T : Nat → A) (m : Mem) (v : A) (m' : Mem) : Prop :=
  ∀ (ro : Option Nat) (N : Fr) (M0 S0 : Nat → Prop) (w0 : World) (ρ : Nat → Value) (a : Act) (w : World), SatAt M0 S0 w0 N T m ρ a w → (∀ b, M0 b → b < w0.heap.size) →
    ∀ (next : Act → World → Prop) (Q : Exit → Act → World → Prop),
      (∀ (y : Value) (w' : World) (ρ' : Nat → Value), SatAt M0 S0 w0 N T m' ρ' a w' → Onto m m' ρ ρ' → v.Den w' (Mut M0 m' ρ') m' ρ' y → next (a.put o.dst y) w') → o.wpIn (FW ro) 0 P a w next Q

theorem effOp_noDefer {P : Program} {m : Mem} {T : Nat → A} {d : Nat} {o : Oper} {e : E} (h : effOp P m T d o = some e) : noDefer o = true := by
  unfold noDefer
  split
  · rename_i c ho; simp [effOp, ho] at h
  · rfl

theorem OpT.of_eff {P : Program} {o : Oper} {T : Nat → A} {m : Mem} {d : Nat} {pre : Bool} {v : A} {ups : List (Nat × R)} (he : effOp P m T d o = some (pre, v, ups)) (hp : pre = true) : OpT P o T m v (applyU m ups) := by
  intro ro N M0 S0 w0 ρ a w h hlt next Q hn
  obtain ⟨y, w', ρ', res, hr, hres, hs, hO, hv⟩ := sd_op h hlt he hp
  exact wpIn_val (effOp_noDefer he) hr hres (hn y w' ρ' hs hO hv)

section
variable {M0 S0 : Nat → Prop} {w0 : World} {N : Fr} {T : Nat → A} {m : Mem} {ρ : Nat → Value} {a : Act} {w : World} {P : Program}

theorem outU_out {d : Nat} : ∀ (outs : List R) (k : Nat) (m : Mem) (i : Nat), (∀ j, j < outs.length → i ≠ nid d (k + j)) → applyU m (outU d k outs) i = m i
  | [], k, m, i, _ => rfl
  | r :: t, k, m, i, h => by
    simp only [outU, applyU]
    rw [outU_out t (k + 1) _ i (fun j hj => by rw [show k + 1 + j = k + (j + 1) by omega]; exact h (j + 1) (by simpa using hj))]
    have := h 0 (by simp)
    simp only [Nat.add_zero] at this
    simp [setM, this]
theorem outU_in {d : Nat} : ∀ (outs : List R) (k : Nat) (m : Mem) (j : Nat) (r : R), outs[j]? = some r → applyU m (outU d k outs) (nid d (k + j)) = some (r.ren (nid d))
  | [], k, m, j, r, h => by simp at h
  | r :: t, k, m, 0, q, h => by
    simp at h; subst h
    simp only [outU, applyU, Nat.add_zero]
    rw [outU_out t (k + 1) _ _ (fun j hj => by intro e; have := nid_inj e; omega)]
    simp [setM]
  | r :: t, k, m, j + 1, q, h => by
    simp only [outU, applyU]
    rw [show k + (j + 1) = k + 1 + j by omega]
    exact outU_in t (k + 1) _ j q (by simpa using h)

/-- which new resource bears the id i -/
def outIx (d n i : Nat) : Option Nat := if d ≤ i ∧ (i - d) % 1000 = 0 ∧ (i - d) / 1000 < n then some ((i - d) / 1000) else none

theorem outIx_nid {d n k : Nat} (h : k < n) : outIx d n (nid d k) = some k := by
  unfold outIx nid
  rw [if_pos]
  · congr 1; omega
  · omega
theorem outIx_some {d n i k : Nat} (h : outIx d n i = some k) : i = nid d k ∧ k < n := by
  unfold outIx at h
  split at h
  · simp at h; unfold nid; omega
  · cases h
theorem outIx_none {d n i : Nat} (h : outIx d n i = none) : ∀ j, j < n → i ≠ nid d (0 + j) := by
  intro j hj e
  rw [Nat.zero_add] at e
  rw [e, outIx_nid hj] at h; cases h

def outH (d n : Nat) (ρ ρo : Nat → Value) : Nat → Value := fun i => match outIx d n i with
  | some k => ρo k
  | none => ρ i

theorem outs_mem {d : Nat} {outs : List R} {i : Nat} : applyU m (outU d 0 outs) i = match outIx d outs.length i with
    | some k => (outs[k]?).map (R.ren (nid d))
    | none => m i := by
  cases h : outIx d outs.length i with
  | none => exact outU_out outs 0 m i (outIx_none h)
  | some k =>
    obtain ⟨rfl, hk⟩ := outIx_some h
    have := outU_in (d := d) outs 0 m k _ (List.getElem?_eq_getElem hk)
    rw [Nat.zero_add] at this
    simp [this, List.getElem?_eq_getElem hk]

theorem onto_outs {d : Nat} {outs : List R} {ρo : Nat → Value} (hfree : ∀ k, k < outs.length → m (nid d k) = none) : Onto m (applyU m (outU d 0 outs)) ρ (outH d outs.length ρ ρo) := by
  intro i hi
  have hx : outIx d outs.length i = none := by
    cases h : outIx d outs.length i with
    | none => rfl
    | some k => obtain ⟨rfl, hk⟩ := outIx_some h; exact absurd (hfree k hk) hi
  rw [outs_mem, hx]
  refine ⟨hi, fun hd => ⟨hd, by simp [outH, hx], fun fz t es l e => ⟨fz, t, l, e, rfl⟩⟩⟩

theorem ontoG_outs {d : Nat} {outs : List R} {ρo : Nat → Value} : OntoG (nid d) (memOf outs) (applyU m (outU d 0 outs)) ρo (outH d outs.length ρ ρo) := by
  intro k hk
  have hlt : k < outs.length := by
    simp only [memOf, ne_eq] at hk
    rcases Nat.lt_or_ge k outs.length with h | h
    · exact h
    · exact absurd (List.getElem?_eq_none h) hk
  rw [outs_mem, outIx_nid hlt]
  simp only [memOf, List.getElem?_eq_getElem hlt, Option.map_some]
  refine ⟨by simp, fun hd => ⟨?_, by simp [outH, outIx_nid hlt], fun fz t es l e => ?_⟩⟩
  · intro e; simp at e; rw [e] at hd; simp [R.ren] at hd
  · simp at e; rw [e]; exact ⟨fz, t, _, rfl, by simp⟩

/-- new resources of a call -/
theorem SatAt.outs {M1 : Nat → Prop} (h : SatAt M1 S0 w0 N T m ρ a w) (hM : ∀ b, M0 b → M1 b) {d : Nat} {outs : List R} {ρo : Nat → Value} (hfree : ∀ k, k < outs.length → m (nid d k) = none)
    (hnew : ∀ (k : Nat) (r : R) (b : Nat), outs[k]? = some r → blk (ρo k) = some b → M1 b ∧ ¬ M0 b ∧ (w0.heap.size ≤ b ∨ S0 b) ∧ b < w.heap.size)
    (hap : ∀ (i j : Nat) (r s : R) (b : Nat), outs[i]? = some r → outs[j]? = some s → blk (ρo i) = some b → blk (ρo j) = some b → i = j)
    (hlive : ∀ (k : Nat) (r : R), outs[k]? = some r → r.live = true)
    (hok : ∀ (k : Nat) (r : R), outs[k]? = some r → (r.ren (nid d)).Ok w (Mut M0 (applyU m (outU d 0 outs)) (outH d outs.length ρ ρo)) (applyU m (outU d 0 outs)) (outH d outs.length ρ ρo) (ρo k)) :
    SatAt M0 S0 w0 N T (applyU m (outU d 0 outs)) (outH d outs.length ρ ρo) a w := by
  have hO := onto_outs (ρ := ρ) (ρo := ρo) hfree
  have cases : ∀ {i : Nat} {r : R}, applyU m (outU d 0 outs) i = some r → (∃ k q, i = nid d k ∧ outs[k]? = some q ∧ r = q.ren (nid d) ∧ outH d outs.length ρ ρo i = ρo k) ∨ (m i = some r ∧ outH d outs.length ρ ρo i = ρ i) := by
    intro i r hi
    rw [outs_mem] at hi
    cases hx : outIx d outs.length i with
    | none => rw [hx] at hi; exact .inr ⟨hi, by simp [outH, hx]⟩
    | some k =>
      rw [hx] at hi
      obtain ⟨e, hk⟩ := outIx_some hx
      simp only [List.getElem?_eq_getElem hk, Option.map_some, Option.some.injEq] at hi
      exact .inl ⟨k, _, e, List.getElem?_eq_getElem hk, hi.symm, by simp [outH, hx]⟩
  have hm : ∀ b, Mut M0 (applyU m (outU d 0 outs)) (outH d outs.length ρ ρo) b → b < w.heap.size → Mut M1 m ρ b := by
    rintro b (e | ⟨i, r, hi, hl, hb⟩) _
    · exact .inl (hM b e)
    · rcases cases hi with ⟨k, q, rfl, hq, rfl, hh⟩ | ⟨hi', hh⟩
      · rw [hh] at hb; exact .inl (hnew k q b hq hb).1
      · rw [hh] at hb; exact .inr ⟨i, r, hi', hl, hb⟩
  refine { keeps := h.keeps, size := h.size, defers := fun ds e => DefsDen_mono (Stays.refl _ w) hm hO _ _ (h.defers ds e)
           tmps := fun n => A.Den_mono (Stays.refl _ w) hm hO _ _ (h.tmps n)
           res := fun i r hi => ?_, own := fun i r b hi hl hb => ?_, apart := fun i j r s b hi l1 hj l2 b1 b2 => ?_ }
  · rcases cases hi with ⟨k, q, rfl, hq, rfl, hh⟩ | ⟨hi', hh⟩
    · rw [hh]; exact hok k q hq
    · rw [hh]; exact R.Ok_mono (Stays.refl _ w) hm hO (fun _ _ _ => rfl) (h.res i r hi')
  · rcases cases hi with ⟨k, q, rfl, hq, rfl, hh⟩ | ⟨hi', hh⟩
    · rw [hh] at hb
      obtain ⟨_, x, y, z⟩ := hnew k q b hq hb
      exact ⟨y, x, z⟩
    · rw [hh] at hb
      obtain ⟨x, y, z⟩ := h.own i r b hi' hl hb
      exact ⟨x, fun e => y (hM b e), z⟩
  · rcases cases hi with ⟨k, q, rfl, hq, rfl, hh⟩ | ⟨hi', hh⟩ <;> rcases cases hj with ⟨k2, q2, rfl, hq2, rfl, hh2⟩ | ⟨hj', hh2⟩ <;> rw [hh] at b1 <;> rw [hh2] at b2
    · rw [hap k k2 q q2 b hq hq2 b1 b2]
    · exact absurd (hnew k q b hq b1).1 (h.own j s b hj' l2 b2).2.1
    · exact absurd (hnew k2 q2 b hq2 b2).1 (h.own i r b hi' l1 b1).2.1
    · exact h.apart i j r s b hi' l1 hj' l2 b1 b2

/-- the function and the arguments of a call -/
def callArgs (T : Nat → A) (c : Call) : Option (FuncId × List A) :=
  match c.callee with
  | .value fo => match evT T fo with
    | .fn (.func f) us vs => some (f, us ++ (c.args.toList.map (evT T) ++ vs))
    | .d (.fn (.func f) us vs) => some (f, us.map A.d ++ (c.args.toList.map (evT T) ++ vs.map A.d))
    | _ => none
  | _ => none

theorem call_run (h : SatAt M0 S0 w0 N T m ρ a w) {o : Oper} {c : Call} {f : FuncId} {as : List A} (ho : o.op = .call c) (hc : callArgs T c = some (f, as)) (hcl : callable P f = true) :
    ∃ vs : List Value, (execOp a.eval o).run P w = .ok (.enter f vs.toArray) w ∧ A.DenL w (Mut M0 m ρ) m ρ as vs := by
  obtain ⟨callee, args, tys⟩ := c
  unfold callArgs at hc
  simp only at hc
  split at hc
  · rename_i _ fo
    have hfo := ev_den h fo
    have key : ∀ {us vs : Array Value}, a.eval fo = .func (.func f) us vs → (execOp a.eval o).run P w = .ok (.enter f (us.toList ++ (args.toList.map a.eval ++ vs.toList)).toArray) w := by
      intro us vs he
      have : us ++ args.map a.eval ++ vs = (us.toList ++ (args.toList.map a.eval ++ vs.toList)).toArray := by
        cases us; cases vs; cases args; simp
      simp only [execOp, ho, resolve, he, Deferred.ofValue, Sem.run_bind, Sem.run_pure, Result.andThen_ok, invoke, run_callFunc' hcl, this]
    split at hc
    · rename_i f' us vs he
      simp only [Option.some.injEq, Prod.mk.injEq] at hc
      obtain ⟨rfl, rfl⟩ := hc
      rw [he] at hfo
      simp only [A.Den] at hfo
      obtain ⟨u, v, hv, h1, h2⟩ := hfo
      exact ⟨_, key hv, A.DenL_append h1 (A.DenL_append (denL_map_ev h args.toList) h2)⟩
    · rename_i f' us vs he
      simp only [Option.some.injEq, Prod.mk.injEq] at hc
      obtain ⟨rfl, rfl⟩ := hc
      rw [he] at hfo
      simp only [A.Den, C.Den] at hfo
      obtain ⟨u, v, hv, h1, h2⟩ := hfo
      exact ⟨_, key hv, A.DenL_append (A.DenL_map_d.2 h1) (A.DenL_append (denL_map_ev h args.toList) (A.DenL_map_d.2 h2))⟩
    · cases hc
  · cases hc

/-- a call that only reads: its new resources come to be the caller's -/
theorem call_fin (h : SatAt M0 S0 w0 N T m ρ a w) (hlt : ∀ b, M0 b → b < w0.heap.size) {o : Oper} {d : Nat} {f : FuncId} {vs : List Value} {cs : List C} {outs : List R} {ra : A} {Mx : Nat → Prop} (hrun : (execOp a.eval o).run P w = .ok (.enter f vs.toArray) w)
    (hp : PureCall P f cs outs ra) (hcs : C.DenL w Mx cs vs) (hMx : ∀ b, Mx b → b < w.heap.size) (hfree : ∀ k, k < outs.length → m (nid d k) = none)
    (hres : ∀ (w' : World) (ρo : Nat → Value) (v : Value), Outs w w' Mx outs ρo → ra.Den w' (Mut Mx (memOf outs) ρo) (memOf outs) ρo v → Outs w w' (Mut M0 m ρ) outs ρo ∧ ra.Den w' (Mut (Mut M0 m ρ) (memOf outs) ρo) (memOf outs) ρo v)
    (next : Act → World → Prop) (Q : Exit → Act → World → Prop)
    (hn : ∀ (y : Value) (w' : World) (ρ' : Nat → Value), SatAt M0 S0 w0 N T (applyU m (outU d 0 outs)) ρ' a w' → Onto m (applyU m (outU d 0 outs)) ρ ρ' → (ra.ren (nid d)).Den w' (Mut M0 (applyU m (outU d 0 outs)) ρ') (applyU m (outU d 0 outs)) ρ' y → next (a.put o.dst y) w') :
    ∀ (ro : Option Nat) (_ : noDefer o = true), o.wpIn (FW ro) 0 P a w next Q := by
  intro ro hnd
  refine wpIn_enter hnd hrun ((hp.2 w Mx vs hMx hcs).mono ?_)
  rintro e w' ⟨v, ρo, rfl, hk, hout, hra⟩
  obtain ⟨hout, hra⟩ := hres w' ρo v hout hra
  refine .inl ⟨v, rfl, ?_⟩
  have h1 := h.world hk (fun b _ e => e.elim)
  have hsub : ∀ b, Mut M0 (applyU m (outU d 0 outs)) (outH d outs.length ρ ρo) b → Mut (Mut M0 m ρ) (memOf outs) ρo b := by
    rintro b (e | ⟨i, r, hi, hl, hb⟩)
    · exact .inl (.inl e)
    · rw [outs_mem] at hi
      cases hx : outIx d outs.length i with
      | none => rw [hx] at hi; simp [outH, hx] at hb; exact .inl (.inr ⟨i, r, hi, hl, hb⟩)
      | some k =>
        rw [hx] at hi
        obtain ⟨e, hk⟩ := outIx_some hx
        simp only [List.getElem?_eq_getElem hk, Option.map_some, Option.some.injEq] at hi
        simp [outH, hx] at hb
        exact .inr ⟨k, outs[k], by simp [memOf], by rw [← hi, R.ren_live] at hl; exact hl, hb⟩
  have h2 : SatAt M0 S0 w0 N T (applyU m (outU d 0 outs)) (outH d outs.length ρ ρo) a w' := by
    refine h1.outs (fun b e => .inl e) hfree (fun k r b hr hb => ?_) hout.apart (fun k r hr => (hout.ok k r hr).1) (fun k r hr => ?_)
    · obtain ⟨x, y⟩ := hout.new k r b hr hb
      have := h.keeps.size
      exact ⟨.inr x, fun e => by have := hlt b e; omega, .inl (by omega), y⟩
    · exact R.Ok_push (fun _ _ => nid_inj) (Stays.refl _ w') (fun b hb _ => hsub b hb) ontoG_outs (fun _ _ _ => rfl) (hout.ok k r hr).2
  exact hn v w' _ h2 (onto_outs hfree) (A.Den_push (Stays.refl _ w') (fun b hb _ => hsub b hb) ontoG_outs _ _ hra)

theorem mut_lt (h : SatAt M0 S0 w0 N T m ρ a w) (hlt : ∀ b, M0 b → b < w0.heap.size) : ∀ b, Mut M0 m ρ b → b < w.heap.size := by
  rintro b (e | ⟨i, r, hi, hl, hb⟩)
  · exact Nat.lt_of_lt_of_le (hlt b e) h.keeps.size
  · exact (h.own i r b hi hl hb).2.2

theorem Outs.flat {w w' : World} {M M' : Nat → Prop} {outs : List R} {ρ : Nat → Value} (h : Outs w w' M outs ρ) (hf : ∀ r ∈ outs, r.flat) : Outs w w' M' outs ρ :=
  ⟨fun i r hi => ⟨(h.ok i r hi).1, R.flat_ok (hf r (List.mem_of_getElem? hi)) (h.ok i r hi).1 (h.ok i r hi).2⟩, h.new, h.apart⟩
end

/-- a call whose arguments are lent for its time; its answer reads no old memory -/
theorem OpT.call_lend {P : Program} {o : Oper} {T : Nat → A} {m : Mem} {c : Call} {f : FuncId} {as : List A} {cs : List C} {outs : List R} {ra : A} {d : Nat} (ho : o.op = .call c) (hc : callArgs T c = some (f, as)) (hv : optL (A.view m true 4) as = some cs)
    (hp : PureCall P f cs outs ra) (hfl : ra.flat) (hfo : ∀ r ∈ outs, r.flat) (hfree : ∀ k, k < outs.length → m (nid d k) = none) : OpT P o T m (ra.ren (nid d)) (applyU m (outU d 0 outs)) := by
  intro ro N M0 S0 w0 ρ a w h hlt next Q hn
  obtain ⟨vs, hr, hd⟩ := call_run h ho hc hp.1
  have hcs := optL_den (M := Av true M0 m ρ) (fun x c y => view_den h true 4 x c y) hv hd
  refine call_fin h hlt hr hp hcs (fun b hb => mut_lt h hlt b (Av_sub hb)) hfree (fun w' ρo v h1 h2 => ⟨h1.flat hfo, A.flat_den _ _ hfl h2⟩) next Q hn ro (by unfold noDefer; rw [ho])

/-- a call whose arguments are written no more -/
theorem OpT.call_give {P : Program} {o : Oper} {T : Nat → A} {m : Mem} {c : Call} {f : FuncId} {as : List A} {cs : List C} {outs : List R} {ra : A} {d : Nat} (ho : o.op = .call c) (hc : callArgs T c = some (f, as)) (hv : optL (A.view (applyU m (frzU m (A.hsL as))) false 4) as = some cs)
    (hp : PureCall P f cs outs ra) (hfree : ∀ k, k < outs.length → m (nid d k) = none) : OpT P o T m (ra.ren (nid d)) (applyU (applyU m (frzU m (A.hsL as))) (outU d 0 outs)) := by
  intro ro N M0 S0 w0 ρ a w h hlt next Q hn
  have h1 := h.freezes (A.hsL as)
  obtain ⟨vs, hr, hd⟩ := call_run h1 ho hc hp.1
  have hcs := optL_den (M := Av false M0 (applyU m (frzU m (A.hsL as))) ρ) (fun x c y => view_den h1 false 4 x c y) hv hd
  have hav : Av false M0 (applyU m (frzU m (A.hsL as))) ρ = Mut M0 (applyU m (frzU m (A.hsL as))) ρ := by funext b; simp [Av]
  rw [hav] at hcs
  refine call_fin h1 hlt hr hp hcs (fun b hb => mut_lt h1 hlt b hb) (fun k hk => frzU_none _ (hfree k hk)) (fun w' ρo v h1 h2 => ⟨h1, h2⟩) next Q ?_ ro (by unfold noDefer; rw [ho])
  intro y w' ρ' hs hO hv
  exact hn y w' ρ' hs ((Onto.freezes _).trans hO) hv
end Go.Pv

namespace Go.Pv
open Go.RowKit
set_option linter.unusedVariables false
set_option linter.unusedSimpArgs false
set_option linter.constructorNameAsVariable false

def R.hs : R → List Nat
  | .cells _ l => A.hsL l
  | .osl _ _ _ l => A.hsL l.flatten
  | .mp _ kv st => A.hsL (kv.map (·.2)) ++ st.map (·.2)
  | .fr l => A.hsL l
  | .it i sc start _ => i :: sc :: start
  | .lo _ _ ts _ _ _ => A.hsL ts
  | .cu src _ l => src.hs ++ A.hsL l.flatten
  | _ => []

theorem Has.restrict {m m1 : Mem} (hm : ∀ i r, m1 i = some r → m i = some r) {i : Nat} (hi : m1 i ≠ none) {p q : Prop} (h : Has m i p) (hpq : m1 i = m i → p → q) : Has m1 i q := by
  refine ⟨hi, fun hd => ?_⟩
  cases h1 : m1 i with
  | none => exact absurd h1 hi
  | some r =>
    have h2 := hm i r h1
    exact hpq (by rw [h1, h2]) (h.2 (by rw [h2]; rw [h1] at hd; exact hd))

theorem HasL.restrict {m m1 : Mem} (hm : ∀ i r, m1 i = some r → m i = some r) {ids : List Nat} (hi : ∀ i ∈ ids, m1 i ≠ none) {p : Prop} (h : HasL m ids p) : HasL m1 ids p := by
  refine ⟨hi, fun hd => h.2 fun i hii e => hd i hii ?_⟩
  cases h1 : m1 i with
  | none => exact absurd h1 (hi i hii)
  | some r => rw [← e, hm i r h1]

mutual
theorem A.Den_restrict {w : World} {M : Nat → Prop} {m m1 : Mem} {ρ : Nat → Value} (hm : ∀ i r, m1 i = some r → m i = some r) : ∀ (a : A) (y : Value), (∀ i ∈ a.hs, m1 i ≠ none) → a.Den w M m ρ y → a.Den w M m1 ρ y
  | .d c, y, _, hd => by simpa only [A.Den] using hd
  | .lp i off, y, hi, hd => by
    simp only [A.Den] at hd ⊢
    exact hd.restrict hm (hi i (by simp [A.hs])) fun _ e => e
  | .h i, y, hi, hd => by
    simp only [A.Den] at hd ⊢
    exact hd.restrict hm (hi i (by simp [A.hs])) fun _ e => e
  | .ep i es k off, y, hi, hd => by
    simp only [A.Den] at hd ⊢
    exact hd.restrict hm (hi i (by simp [A.hs])) fun _ e => e
  | .sv i lo n, y, hi, hd => by
    simp only [A.Den] at hd ⊢
    exact hd.restrict hm (hi i (by simp [A.hs])) fun e ⟨a, cap, h1, h2, es, fz, t, l, h5, h6⟩ => ⟨a, cap, h1, h2, es, fz, t, l, e.trans h5, h6⟩
  | .fn f first caps, y, hi, hd => by
    simp only [A.Den] at hd ⊢
    obtain ⟨us, vs, hy, h1, h2⟩ := hd
    exact ⟨us, vs, hy, A.DenL_restrict hm first _ (fun i h => hi i (by simp [A.hs, h])) h1, A.DenL_restrict hm caps _ (fun i h => hi i (by simp [A.hs, h])) h2⟩
  | .agg l, y, hi, hd => by
    simp only [A.Den] at hd ⊢
    obtain ⟨vs, hy, h0, h1⟩ := hd
    exact ⟨vs, hy, h0, A.DenL_restrict hm l _ (fun i h => hi i (by simpa [A.hs] using h)) h1⟩
  | .tup l, y, hi, hd => by
    simp only [A.Den] at hd ⊢
    obtain ⟨vs, hy, h1⟩ := hd
    exact ⟨vs, hy, A.DenL_restrict hm l _ (fun i h => hi i (by simpa [A.hs] using h)) h1⟩
  | .ifc t a, y, hi, hd => by
    simp only [A.Den] at hd ⊢
    obtain ⟨v, hy, h1⟩ := hd
    exact ⟨v, hy, A.Den_restrict hm a _ (fun i h => hi i (by simpa [A.hs] using h)) h1⟩
  | .x, y, _, hd => by simp only [A.Den]
theorem A.DenL_restrict {w : World} {M : Nat → Prop} {m m1 : Mem} {ρ : Nat → Value} (hm : ∀ i r, m1 i = some r → m i = some r) : ∀ (l : List A) (ys : List Value), (∀ i ∈ A.hsL l, m1 i ≠ none) → A.DenL w M m ρ l ys → A.DenL w M m1 ρ l ys
  | [], ys, _, hd => by simpa only [A.DenL] using hd
  | c :: r, ys, hi, hd => by
    simp only [A.DenL] at hd ⊢
    obtain ⟨y, yr, hy, h1, h2⟩ := hd
    exact ⟨y, yr, hy, A.Den_restrict hm c y (fun i h => hi i (by simp [A.hsL, h])) h1, A.DenL_restrict hm r yr (fun i h => hi i (by simp [A.hsL, h])) h2⟩
end

theorem R.Ok_restrict {w : World} {M : Nat → Prop} {m m1 : Mem} {ρ : Nat → Value} (hm : ∀ i r, m1 i = some r → m i = some r) {r : R} {h : Value} (hi : ∀ i ∈ r.hs, m1 i ≠ none) (hr : r.Ok w M m ρ h) : r.Ok w M m1 ρ h := by
  cases r with
  | dead => trivial
  | cells fz l =>
    obtain ⟨b, cs, t, e, h1, h2, h3⟩ := hr
    exact ⟨b, cs, t, e, h1, A.DenL_restrict hm _ _ (fun i q => hi i (by simpa [R.hs] using q)) h2, h3⟩
  | osl fz t es l =>
    obtain ⟨xs, h1, h2, h3⟩ := hr
    exact ⟨xs, h1, A.DenL_restrict hm _ _ (fun i q => hi i (by simpa [R.hs] using q)) h2, h3⟩
  | fr l =>
    obtain ⟨vs, e, h1⟩ := hr
    exact ⟨vs, e, A.DenL_restrict hm _ _ (fun i q => hi i (by simpa [R.hs] using q)) h1⟩
  | it i sc start seen =>
    obtain ⟨b, mb, si, sa, e, h1, h2, h5, h4⟩ := hr
    exact ⟨b, mb, si, sa, e, h1, h2.restrict hm (hi i (by simp [R.hs])) fun _ q => q, h5.restrict hm (hi sc (by simp [R.hs])) fun _ q => q, h4.1, HasL.restrict hm (fun j hj => hi j (by simp [R.hs, hj])) h4.2⟩
  | sta => exact hr
  | it0 => exact hr
  | si s pos => exact hr
  | df tk => exact hr
  | cu src es l =>
    obtain ⟨a, e, h1, h2, h3⟩ := hr
    refine ⟨a, e, A.Den_restrict hm _ _ (fun i q => hi i (by simp only [R.hs, List.mem_append]; exact .inl q)) h1, h2, h3.imp id ?_⟩
    rintro ⟨b, off, xs, e, h4, h5, h6, h7⟩
    exact ⟨b, off, xs, e, h4, h5, A.DenL_restrict hm _ _ (fun i q => hi i (by simp only [R.hs, List.mem_append]; exact .inr q)) h6, h7⟩
  | lo st pend ts ps asg bod =>
    obtain ⟨l, fn, vs, D, e, h1, h2⟩ := hr
    exact ⟨l, fn, vs, D, e, h1, A.DenL_restrict hm _ _ (fun i q => hi i (by simpa [R.hs] using q)) h2⟩
  | mp fz kv st =>
    obtain ⟨b, es, cl, l, e, h1, h2, h3, h4, h5⟩ := hr
    exact ⟨b, es, cl, l, e, h1, h2, A.DenL_restrict hm _ _ (fun i q => hi i (by simp [R.hs, q])) h3, h4, fun p hp => (h5 p hp).restrict hm (hi p.2 (by simp only [R.hs, List.mem_append]; exact .inr (List.mem_map.2 ⟨p, hp, rfl⟩))) fun _ q => q⟩

theorem applyU_mono : ∀ (u : List (Nat × R)) {m1 m : Mem}, (∀ i r, m1 i = some r → m i = some r) → ∀ i r, applyU m1 u i = some r → applyU m u i = some r
  | [], m1, m, h, i, r, e => h i r e
  | (j, q) :: t, m1, m, h, i, r, e => by
    simp only [applyU] at e ⊢
    refine applyU_mono t (fun k s hk => ?_) i r e
    by_cases hkj : k = j
    · subst hkj; simpa [setM] using hk
    · simp [setM, hkj] at hk ⊢; exact h k s hk

theorem applyU_none : ∀ (u : List (Nat × R)) {m1 : Mem} {i : Nat}, applyU m1 u i = none → m1 i = none ∧ ∀ m : Mem, applyU m u i = m i
  | [], m1, i, e => ⟨e, fun _ => rfl⟩
  | (j, q) :: t, m1, i, e => by
    simp only [applyU] at e ⊢
    obtain ⟨h1, h2⟩ := applyU_none t e
    have hij : i ≠ j := by rintro rfl; simp [setM] at h1
    exact ⟨by simpa [setM, hij] using h1, fun m => by rw [h2]; simp [setM, hij]⟩

theorem applyU_new : ∀ (u : List (Nat × R)) {m1 : Mem} {i : Nat}, m1 i = none → applyU m1 u i ≠ none → ∃ p ∈ u, p.1 = i
  | [], m1, i, h, e => absurd h e
  | (j, q) :: t, m1, i, h, e => by
    by_cases hij : i = j
    · exact ⟨(j, q), by simp, hij.symm⟩
    · simp only [applyU] at e
      obtain ⟨p, hp, hpi⟩ := applyU_new t (m1 := setM m1 j q) (by simp [setM, hij, h]) e
      exact ⟨p, by simp [hp], hpi⟩

/-- THE FRAME: what an operation does of a part of the state it does of the whole -/
theorem OpT.frame {P : Program} {o : Oper} {T1 T : Nat → A} {m1 m : Mem} {v : A} {ups : List (Nat × R)} (h : OpT P o T1 m1 v (applyU m1 ups)) (hT : ∀ n, T1 n = .x ∨ (T1 n = T n ∧ ∀ i ∈ (T n).hs, m1 i ≠ none))
    (hm : ∀ i r, m1 i = some r → m i = some r) (hcl : ∀ i r, m1 i = some r → ∀ j ∈ r.hs, m1 j ≠ none) (hfresh : ∀ p ∈ ups, m1 p.1 = none → m p.1 = none) : OpT P o T m v (applyU m ups) := by
  intro ro N M0 S0 w0 ρ a w hs hlt next Q hn
  let M1 : Nat → Prop := fun b => M0 b ∨ ∃ i r, m i = some r ∧ m1 i = none ∧ r.live = true ∧ blk (ρ i) = some b
  let S1 : Nat → Prop := fun b => ∃ i r, m1 i = some r ∧ r.live = true ∧ blk (ρ i) = some b
  have hmut : ∀ b, Mut M1 m1 ρ b ↔ Mut M0 m ρ b := by
    intro b
    constructor
    · rintro ((e | ⟨i, r, e1, _, e2, e3⟩) | ⟨i, r, e1, e2, e3⟩)
      · exact .inl e
      · exact .inr ⟨i, r, e1, e2, e3⟩
      · exact .inr ⟨i, r, hm i r e1, e2, e3⟩
    · rintro (e | ⟨i, r, e1, e2, e3⟩)
      · exact .inl (.inl e)
      · cases hi : m1 i with
        | none => exact .inl (.inr ⟨i, r, e1, hi, e2, e3⟩)
        | some r' =>
          have := hm i r' hi
          rw [e1] at this; simp at this; subst this
          exact .inr ⟨i, r, hi, e2, e3⟩
  have hmutE : Mut M1 m1 ρ = Mut M0 m ρ := funext fun b => propext (hmut b)
  have h0 : SatAt M1 S1 w ⟨N.n, none⟩ T1 m1 ρ a w :=
    { keeps := Keeps.refl _ _, size := hs.size, defers := fun ds e => by cases e
      tmps := fun n => by
        rw [hmutE]
        rcases hT n with e | ⟨e, hids⟩
        · rw [e]; simp only [A.Den]
        · rw [e]; exact A.Den_restrict hm _ _ hids (hs.tmps n)
      res := fun i r hi => by rw [hmutE]; exact R.Ok_restrict hm (hcl i r hi) (hs.res i r (hm i r hi))
      own := fun i r b hi hl hb => by
        obtain ⟨x, y, z⟩ := hs.own i r b (hm i r hi) hl hb
        refine ⟨.inr ⟨i, r, hi, hl, hb⟩, ?_, z⟩
        rintro (e | ⟨j, s, e1, e2, e3, e4⟩)
        · exact y e
        · have := hs.apart i j r s b (hm i r hi) hl e1 e3 hb e4
          subst this; rw [hi] at e2; cases e2
      apart := fun i j r s b hi l1 hj l2 b1 b2 => hs.apart i j r s b (hm i r hi) l1 (hm j s hj) l2 b1 b2 }
  have hlt1 : ∀ b, M1 b → b < w.heap.size := fun b hb => mut_lt hs hlt b ((hmut b).1 (.inl hb))
  refine h ro ⟨N.n, none⟩ M1 S1 w ρ a w h0 hlt1 next Q ?_
  intro y w' ρ' h1 hO hv
  let ρ2 : Nat → Value := fun i => if (applyU m1 ups i).isSome then ρ' i else ρ i
  have hA : ∀ {i : Nat} {r : R}, applyU m1 ups i = some r → applyU m ups i = some r ∧ ρ2 i = ρ' i := fun {i r} e => ⟨applyU_mono ups hm i r e, by simp [ρ2, e]⟩
  have hB : ∀ {i : Nat}, applyU m1 ups i = none → m1 i = none ∧ applyU m ups i = m i ∧ ρ2 i = ρ i := fun {i} e => ⟨(applyU_none ups e).1, (applyU_none ups e).2 m, by simp [ρ2, e]⟩
  have kk := h1.keeps
  have hS1 : ∀ b, S1 b → Mut M0 m ρ b := fun b ⟨i, r, e1, e2, e3⟩ => .inr ⟨i, r, hm i r e1, e2, e3⟩
  have hst : Stays (Mut M0 m ρ) w w' := kk.stays fun b _ e => hS1 b e
  have hon : Onto m (applyU m ups) ρ ρ2 := by
    intro i hi
    cases h' : applyU m1 ups i with
    | none =>
      obtain ⟨e1, e2, e3⟩ := hB h'
      rw [e2]
      exact ⟨hi, fun hd => ⟨hd, e3, fun fz t es l e => ⟨fz, t, l, e, rfl⟩⟩⟩
    | some r =>
      obtain ⟨e1, e2⟩ := hA h'
      rw [e1]
      refine ⟨by simp, fun hd => ?_⟩
      cases hmi : m1 i with
      | none =>
        obtain ⟨p, hp, rfl⟩ := applyU_new ups hmi (by rw [h']; simp)
        exact absurd (hfresh p hp hmi) hi
      | some r0 =>
        have hmi' := hm i r0 hmi
        obtain ⟨_, q⟩ := hO i (by rw [hmi]; simp)
        rw [h'] at q
        obtain ⟨q1, q2, q3⟩ := q hd
        rw [hmi'] ; rw [hmi] at q1 q3
        exact ⟨q1, by rw [e2]; exact q2, q3⟩
  have hsub : ∀ b, Mut M0 (applyU m ups) ρ2 b → b < w.heap.size → Mut M0 m ρ b := by
    rintro b (e | ⟨i, r, hi, hl, hb⟩) hbl
    · exact .inl e
    · cases h' : applyU m1 ups i with
      | none =>
        obtain ⟨e1, e2, e3⟩ := hB h'
        rw [e2] at hi; rw [e3] at hb
        exact .inr ⟨i, r, hi, hl, hb⟩
      | some r' =>
        obtain ⟨e1, e2⟩ := hA h'
        rw [e1] at hi; simp at hi; subst hi
        rw [e2] at hb
        rcases (h1.own i r' b h' hl hb).1 with q | q
        · omega
        · exact hS1 b q
  have hsub2 : ∀ b, Mut M0 (applyU m ups) ρ2 b → Mut M1 (applyU m1 ups) ρ' b := by
    rintro b (e | ⟨i, r, hi, hl, hb⟩)
    · exact .inl (.inl e)
    · cases h' : applyU m1 ups i with
      | none =>
        obtain ⟨e1, e2, e3⟩ := hB h'
        rw [e2] at hi; rw [e3] at hb
        exact .inl (.inr ⟨i, r, hi, e1, hl, hb⟩)
      | some r' =>
        obtain ⟨e1, e2⟩ := hA h'
        rw [e1] at hi; simp at hi; subst hi
        rw [e2] at hb
        exact .inr ⟨i, r', h', hl, hb⟩
  have hon2 : Onto (applyU m1 ups) (applyU m ups) ρ' ρ2 := by
    intro i hi
    cases h' : applyU m1 ups i with
    | none => exact absurd h' hi
    | some r =>
      obtain ⟨e1, e2⟩ := hA h'
      rw [e1]
      exact ⟨by simp, fun hd => ⟨hd, e2, fun fz t es l e => ⟨fz, t, l, e, rfl⟩⟩⟩
  refine hn y w' ρ2 ?_ hon (A.Den_mono (Stays.refl _ w') (fun b hb _ => hsub2 b hb) hon2 _ _ hv)
  refine { keeps := hs.keeps.trans kk fun b hb ⟨i, r, e1, e2, e3⟩ => ?_, size := h1.size, defers := fun ds e => DefsDen_mono hst hsub hon _ _ (hs.defers ds e)
           tmps := fun n => A.Den_mono hst hsub hon _ _ (hs.tmps n)
           res := fun i r hi => ?_, own := fun i r b hi hl hb => ?_, apart := fun i j r s b hi l1 hj l2 b1 b2 => ?_ }
  · rcases (hs.own i r b (hm i r e1) e2 e3).1 with q | q
    · omega
    · exact q
  · cases h' : applyU m1 ups i with
    | some r' =>
      obtain ⟨e1, e2⟩ := hA h'
      rw [e1] at hi; simp at hi; subst hi
      rw [e2]
      exact R.Ok_mono (Stays.refl _ w') (fun b hb _ => hsub2 b hb) hon2 (fun _ _ _ => rfl) (h1.res i r' h')
    | none =>
      obtain ⟨e1, e2, e3⟩ := hB h'
      rw [e2] at hi; rw [e3]
      by_cases hd : r = .dead
      · subst hd; trivial
      · refine R.Ok_mono hst hsub hon (fun b hb hlt' => ?_) (hs.res i r hi)
        refine kk.block b hlt' ?_
        rintro ⟨j, s, q1, q2, q3⟩
        have hij : i ≠ j := by rintro rfl; rw [e1] at q1; cases q1
        exact hs.other (hm j s q1) q2 q3 hi hd hij hb
  · cases h' : applyU m1 ups i with
    | some r' =>
      obtain ⟨e1, e2⟩ := hA h'
      rw [e1] at hi; simp at hi; subst hi
      rw [e2] at hb
      obtain ⟨x, y, z⟩ := h1.own i r' b h' hl hb
      refine ⟨?_, fun e => y (.inl e), z⟩
      rcases x with q | ⟨j, s, q1, q2, q3⟩
      · exact .inl (Nat.le_trans hs.keeps.size q)
      · exact (hs.own j s b (hm j s q1) q2 q3).1
    | none =>
      obtain ⟨e1, e2, e3⟩ := hB h'
      rw [e2] at hi; rw [e3] at hb
      obtain ⟨x, y, z⟩ := hs.own i r b hi hl hb
      exact ⟨x, y, Nat.lt_of_lt_of_le z kk.size⟩
  · cases h' : applyU m1 ups i with
    | some r' =>
      obtain ⟨e1, e2⟩ := hA h'
      rw [e1] at hi; simp at hi; subst hi
      rw [e2] at b1
      cases h2 : applyU m1 ups j with
      | some s' =>
        obtain ⟨e3, e4⟩ := hA h2
        rw [e3] at hj; simp at hj; subst hj
        rw [e4] at b2
        exact h1.apart i j r' s' b h' l1 h2 l2 b1 b2
      | none =>
        obtain ⟨e3, e4, e5⟩ := hB h2
        rw [e4] at hj; rw [e5] at b2
        exact absurd (.inr ⟨j, s, hj, e3, l2, b2⟩) (h1.own i r' b h' l1 b1).2.1
    | none =>
      obtain ⟨e1, e2, e3⟩ := hB h'
      rw [e2] at hi; rw [e3] at b1
      cases h2 : applyU m1 ups j with
      | some s' =>
        obtain ⟨e4, e5⟩ := hA h2
        rw [e4] at hj; simp at hj; subst hj
        rw [e5] at b2
        exact absurd (.inr ⟨i, r, hi, e1, l1, b1⟩) (h1.own j s' b h2 l2 b2).2.1
      | none =>
        obtain ⟨e4, e5, e6⟩ := hB h2
        rw [e5] at hj; rw [e6] at b2
        exact hs.apart i j r s b hi l1 hj l2 b1 b2
end Go.Pv

namespace Go.Pv
open Go.RowKit
set_option linter.unusedVariables false
set_option linter.unusedSimpArgs false
set_option linter.constructorNameAsVariable false

/-- what an operation of a region left: its temporary, its value, the resources it set -/
structure Rec where
  dst : Option Nat
  v : A
  u : List (Nat × R)

def recT (T : Nat → A) : List Rec → Nat → A
  | [] => T
  | r :: rs => recT (setT T r.dst r.v) rs
def recM (m : Mem) : List Rec → Mem
  | [] => m
  | r :: rs => recM (applyU m r.u) rs
def sel (X : Nat → Bool) : Nat → List Rec → List Rec
  | _, [] => []
  | k, r :: rs => if X k then r :: sel X (k + 1) rs else sel X (k + 1) rs

theorem applyU_at : ∀ (u : List (Nat × R)) (m : Mem) {n : Nat}, (∀ p ∈ u, p.1 ≠ n) → applyU m u n = m n
  | [], m, n, _ => rfl
  | (i, r) :: t, m, n, h => by
    simp only [applyU]
    rw [applyU_at t _ (fun p hp => h p (by simp [hp]))]
    have : n ≠ i := fun e => h (i, r) (by simp) e.symm
    simp [setM, this]
theorem applyU_congr : ∀ (u : List (Nat × R)) {m m' : Mem} {n : Nat}, m n = m' n → applyU m u n = applyU m' u n
  | [], m, m', n, h => h
  | (i, r) :: t, m, m', n, h => by
    simp only [applyU]
    refine applyU_congr t ?_
    unfold setM; split
    · rfl
    · exact h
theorem applyU_comm (u v : List (Nat × R)) (m : Mem) (h : ∀ p ∈ u, ∀ q ∈ v, q.1 ≠ p.1) : applyU (applyU m u) v = applyU (applyU m v) u := by
  funext n
  by_cases hn : ∃ p ∈ u, p.1 = n
  · obtain ⟨p, hp, rfl⟩ := hn
    rw [applyU_at v _ (fun q hq => h p hp q hq)]
    exact applyU_congr u (applyU_at v _ (fun q hq => h p hp q hq)).symm
  · have hn' : ∀ p ∈ u, p.1 ≠ n := fun p hp e => hn ⟨p, hp, e⟩
    rw [applyU_at u (applyU m v) hn']
    exact applyU_congr v (applyU_at u _ hn')
theorem setT_comm (T : Nat → A) (d e : Option Nat) (v x : A) (h : ∀ n, d = some n → e ≠ some n) : setT (setT T d v) e x = setT (setT T e x) d v := by
  funext n
  unfold setT
  by_cases h1 : d = some n
  · have := h n h1; simp [h1, this]
  · simp [h1]

theorem recM_push (u : List (Nat × R)) : ∀ (l : List Rec) (m : Mem), (∀ q ∈ l, ∀ p ∈ u, ∀ x ∈ q.u, x.1 ≠ p.1) → recM (applyU m u) l = applyU (recM m l) u
  | [], m, _ => rfl
  | r :: l, m, h => by
    simp only [recM]
    rw [applyU_comm u r.u m (h r (by simp))]
    exact recM_push u l _ (fun q hq => h q (by simp [hq]))
theorem recT_push (d : Option Nat) (v : A) : ∀ (l : List Rec) (T : Nat → A), (∀ q ∈ l, ∀ n, d = some n → q.dst ≠ some n) → recT (setT T d v) l = setT (recT T l) d v
  | [], T, _ => rfl
  | r :: l, T, h => by
    simp only [recT]
    rw [setT_comm T d r.dst v r.v (h r (by simp))]
    exact recT_push d v l _ (fun q hq => h q (by simp [hq]))

theorem sel_mem {X : Nat → Bool} : ∀ {l : List Rec} {k : Nat} {r : Rec}, r ∈ sel X k l → ∃ i, X (k + i) = true ∧ l[i]? = some r
  | [], k, r, h => by simp [sel] at h
  | q :: l, k, r, h => by
    simp only [sel] at h
    split at h
    · rename_i hx
      simp only [List.mem_cons] at h
      rcases h with rfl | h
      · exact ⟨0, by simpa using hx, rfl⟩
      · obtain ⟨i, h1, h2⟩ := sel_mem h
        exact ⟨i + 1, by rw [show k + (i + 1) = k + 1 + i by omega]; exact h1, by simpa using h2⟩
    · obtain ⟨i, h1, h2⟩ := sel_mem h
      exact ⟨i + 1, by rw [show k + (i + 1) = k + 1 + i by omega]; exact h1, by simpa using h2⟩
theorem sel_congr {X Y : Nat → Bool} : ∀ (l : List Rec) (k : Nat), (∀ i, k ≤ i → X i = Y i) → sel X k l = sel Y k l
  | [], k, _ => rfl
  | r :: l, k, h => by
    simp only [sel, h k (Nat.le_refl _)]
    rw [sel_congr l (k + 1) (fun i hi => h i (by omega))]
theorem sel_all {X : Nat → Bool} : ∀ (l : List Rec) (k : Nat), (∀ i, k ≤ i → i < k + l.length → X i = true) → sel X k l = l
  | [], k, _ => rfl
  | r :: l, k, h => by
    simp only [sel, h k (Nat.le_refl _) (by simp), if_true]
    rw [sel_all l (k + 1) (fun i h1 h2 => h i (by omega) (by simp; omega))]
theorem sel_none {X : Nat → Bool} : ∀ (l : List Rec) (k : Nat), (∀ i, X i = false) → sel X k l = []
  | [], k, _ => rfl
  | r :: l, k, h => by
    simp only [sel, h k, Bool.false_eq_true, if_false]
    exact sel_none l (k + 1) h

/-- X and j -/
def addX (X : Nat → Bool) (j : Nat) : Nat → Bool := fun i => if i = j then true else X i

theorem sel_insert (X : Nat → Bool) (r : Rec) : ∀ (l : List Rec) (k j : Nat) (T : Nat → A) (m : Mem), X (k + j) = false → l[j]? = some r →
    (∀ i q, j < i → X (k + i) = true → l[i]? = some q → (∀ p ∈ r.u, ∀ x ∈ q.u, x.1 ≠ p.1) ∧ ∀ n, r.dst = some n → q.dst ≠ some n) →
    recM m (sel (addX X (k + j)) k l) = applyU (recM m (sel X k l)) r.u ∧ recT T (sel (addX X (k + j)) k l) = setT (recT T (sel X k l)) r.dst r.v
  | [], k, j, T, m, _, h, _ => by simp at h
  | q :: l, k, 0, T, m, hX, h, hd => by
    simp at h; subst h
    have h1 : addX X k k = true := by simp [addX]
    simp only [Nat.add_zero] at hX ⊢
    simp only [sel, h1, if_true, hX, Bool.false_eq_true, if_false, recM, recT]
    have e : sel (addX X k) (k + 1) l = sel X (k + 1) l := sel_congr l (k + 1) fun i hi => by unfold addX; rw [if_neg (by omega)]
    rw [e]
    have hm : ∀ x ∈ sel X (k + 1) l, (∀ p ∈ q.u, ∀ y ∈ x.u, y.1 ≠ p.1) ∧ ∀ n, q.dst = some n → x.dst ≠ some n := by
      intro x hx
      obtain ⟨i, h2, h3⟩ := sel_mem hx
      exact hd (i + 1) x (by omega) (by rw [show k + (i + 1) = k + 1 + i by omega]; exact h2) (by simpa using h3)
    exact ⟨recM_push _ _ _ fun x hx => (hm x hx).1, recT_push _ _ _ _ fun x hx => (hm x hx).2⟩
  | q :: l, k, j + 1, T, m, hX, h, hd => by
    have e : addX X (k + (j + 1)) k = X k := by unfold addX; rw [if_neg (by omega)]
    have ih := fun T m => sel_insert X r l (k + 1) j T m (by rw [show k + 1 + j = k + (j + 1) by omega]; exact hX) (by simpa using h) (fun i q' hi hx hq => hd (i + 1) q' (by omega) (by rw [show k + (i + 1) = k + 1 + i by omega]; exact hx) (by simpa using hq))
    rw [show k + 1 + j = k + (j + 1) by omega] at ih
    simp only [sel, e]
    split
    · simp only [recM, recT]; exact ih _ _
    · exact ih _ _

theorem recM_agree {X Y : Nat → Bool} {n : Nat} : ∀ (l : List Rec) (k : Nat) (m m' : Mem), (∀ i q, l[i]? = some q → X (k + i) ≠ Y (k + i) → ∀ p ∈ q.u, p.1 ≠ n) → m n = m' n → recM m (sel X k l) n = recM m' (sel Y k l) n
  | [], k, m, m', _, h => h
  | q :: l, k, m, m', hd, h => by
    have hd' : ∀ i q', l[i]? = some q' → X (k + 1 + i) ≠ Y (k + 1 + i) → ∀ p ∈ q'.u, p.1 ≠ n := fun i q' hq hx => hd (i + 1) q' (by simpa using hq) (by rw [show k + (i + 1) = k + 1 + i by omega]; exact hx)
    have h0 := hd 0 q rfl
    simp only [Nat.add_zero] at h0
    simp only [sel]
    cases hx : X k <;> cases hy : Y k <;> simp only [if_true, Bool.false_eq_true, if_false, recM]
    · exact recM_agree l (k + 1) m m' hd' h
    · exact recM_agree l (k + 1) _ _ hd' (h.trans (applyU_at _ _ (h0 (by simp [hx, hy]))).symm)
    · exact recM_agree l (k + 1) _ _ hd' ((applyU_at _ _ (h0 (by simp [hx, hy]))).trans h)
    · exact recM_agree l (k + 1) _ _ hd' (applyU_congr _ h)
theorem recT_agree {X Y : Nat → Bool} {n : Nat} : ∀ (l : List Rec) (k : Nat) (T T' : Nat → A), (∀ i q, l[i]? = some q → X (k + i) ≠ Y (k + i) → q.dst ≠ some n) → T n = T' n → recT T (sel X k l) n = recT T' (sel Y k l) n
  | [], k, m, m', _, h => h
  | q :: l, k, m, m', hd, h => by
    have hd' : ∀ i q', l[i]? = some q' → X (k + 1 + i) ≠ Y (k + 1 + i) → q'.dst ≠ some n := fun i q' hq hx => hd (i + 1) q' (by simpa using hq) (by rw [show k + (i + 1) = k + 1 + i by omega]; exact hx)
    have h0 := hd 0 q rfl
    simp only [Nat.add_zero] at h0
    simp only [sel]
    cases hx : X k <;> cases hy : Y k <;> simp only [if_true, Bool.false_eq_true, if_false, recT]
    · exact recT_agree l (k + 1) m m' hd' h
    · exact recT_agree l (k + 1) _ _ hd' (h.trans (by unfold setT; rw [if_neg (h0 (by simp [hx, hy]))]))
    · exact recT_agree l (k + 1) _ _ hd' (Eq.trans (by unfold setT; rw [if_neg (h0 (by simp [hx, hy]))]) h)
    · refine recT_agree l (k + 1) _ _ hd' ?_
      unfold setT; split
      · rfl
      · exact h

/-- is a guarded operation to be done? none: not known -/
def wantA (ops : Array Oper) (T : Nat → A) (o : Oper) : Option Bool :=
  match o.guard with
  | none => some true
  | some (j, want) => match (ops[j]?).bind (·.dst) with
    | some d => match T d with
      | .d (.v (.bool b)) => some (b == want)
      | .tup _ => some false
      | _ => none
    | none => none

section
variable {M0 S0 : Nat → Prop} {w0 : World} {N : Fr} {T : Nat → A} {m : Mem} {ρ : Nat → Value} {a : Act} {w : World} {P : Program}

theorem want_den (h : SatAt M0 S0 w0 N T m ρ a w) {ops : Array Oper} {o : Oper} {b : Bool} (hw : wantA ops T o = some b) : Region.wanted o (yielded ops a.tmps) = b := by
  unfold wantA at hw
  unfold Region.wanted
  split at hw
  · rename_i hg; simp only [hg]; simpa using hw
  · rename_i j want hg
    simp only [hg]
    split at hw
    · rename_i d hd
      split at hw
      · rename_i t ht
        simp only [Option.some.injEq] at hw
        have h1 := h.tmps d
        rw [ht] at h1
        simp only [A.Den, C.Den] at h1
        have h2 : a.tmps[d]? = some (.bool t) := by
          rw [Array.getD_eq_getD_getElem?] at h1
          cases hq : a.tmps[d]? with
          | none => rw [hq] at h1; simp [undef] at h1
          | some x => rw [hq] at h1; simp at h1; rw [h1]
        unfold yielded
        rw [hd]
        simp only [Option.bind_some, h2]
        rw [← hw]; cases t <;> cases want <;> rfl
      · rename_i l ht
        simp only [Option.some.injEq] at hw
        have h1 := h.tmps d
        rw [ht] at h1
        simp only [A.Den] at h1
        obtain ⟨vs, h1, _⟩ := h1
        have h2 : a.tmps[d]? = none ∨ a.tmps[d]? = some (.tuple vs) := by
          rw [Array.getD_eq_getD_getElem?] at h1
          cases hq : a.tmps[d]? with
          | none => exact .inl rfl
          | some x => rw [hq] at h1; simp at h1; rw [h1]; exact .inr rfl
        unfold yielded
        rw [hd]
        rcases h2 with h2 | h2 <;> simp only [Option.bind_some, h2] <;> (subst hw; rfl)
      · cases hw
    · cases hw

theorem SatAt.drew (h : SatAt M0 S0 w0 N T m ρ a w) (k : Nat) : SatAt M0 S0 w0 N T m ρ a { w with drawn := k } := by
  have hst : Stays (Mut M0 m ρ) w { w with drawn := k } := ⟨Nat.le_refl _, fun _ _ _ => rfl⟩
  exact { keeps := h.keeps.trans (S' := fun _ => False) ⟨rfl, rfl, rfl, Nat.le_refl _, fun _ _ _ => rfl⟩ (fun _ _ e => e.elim), size := h.size
          defers := fun ds e => DefsDen_mono hst (fun _ e _ => e) (Onto.refl m ρ) _ _ (h.defers ds e)
          tmps := fun n => A.Den_mono hst (fun _ e _ => e) (Onto.refl m ρ) _ _ (h.tmps n)
          res := fun i r hi => R.Ok_mono hst (fun _ e _ => e) (Onto.refl m ρ) (fun _ _ _ => rfl) (h.res i r hi)
          own := h.own, apart := h.apart }
end

/-- a region whose operations may be done in any order -/
structure RegOk (P : Program) (ops : Array Oper) (recs : List Rec) (anc : Nat → Nat → Bool) (F : Nat → Nat → Prop) (n : Nat) (T : Nat → A) (m : Mem) : Prop where
  len : recs.length = ops.size
  dst : ∀ (k : Nat) (o : Oper) (r : Rec), ops[k]? = some o → recs[k]? = some r → r.dst = o.dst ∧ ∀ d, o.dst = some d → d < n
  good : ∀ (k : Nat) (o : Oper) (r : Rec), ops[k]? = some o → recs[k]? = some r →
    ((wantA ops (recT T (sel (anc k) 0 recs)) o = some false ∧ r.v = .tup [] ∧ r.u = []) ∨
     (wantA ops (recT T (sel (anc k) 0 recs)) o = some true ∧ ∀ (T' : Nat → A) (m' : Mem), (∀ x ∈ o.looksAt ops, T' x = recT T (sel (anc k) 0 recs) x) → (∀ i, F k i → m' i = recM m (sel (anc k) 0 recs) i) →
        (∀ p ∈ r.u, recM m (sel (anc k) 0 recs) p.1 = none → m' p.1 = none) → OpT P o T' m' r.v (applyU m' r.u)))
  guard : ∀ (k : Nat) (o : Oper) (j : Nat) (b : Bool), ops[k]? = some o → o.guard = some (j, b) → ∀ d, (ops[j]?).bind (·.dst) = some d → d ∈ o.looksAt ops
  fresh : ∀ (k : Nat) (r : Rec), recs[k]? = some r → ∀ p ∈ r.u, recM m (sel (anc k) 0 recs) p.1 = none → F k p.1
  apart : ∀ (i j : Nat) (p q : Rec) (o : Oper), i ≠ j → recs[i]? = some p → recs[j]? = some q → ops[j]? = some o → anc i j = false → anc j i = false →
    (∀ d, p.dst = some d → d ∉ o.looksAt ops ∧ q.dst ≠ some d) ∧ ∀ x ∈ p.u, ¬ F j x.1 ∧ ∀ y ∈ q.u, y.1 ≠ x.1
  down : ∀ (k : Nat) (o : Oper), ops[k]? = some o → ∀ e ∈ o.after, Region.binds .any e = true → e.on < k
  anc : ∀ (k : Nat) (o : Oper) (j : Nat), ops[k]? = some o → anc k j = true → ∃ e ∈ o.after, Region.binds .any e = true ∧ (e.on = j ∨ anc e.on j = true)

theorem length_filter_lt {p q : Nat → Bool} : ∀ {l : List Nat} {i : Nat}, (∀ j, q j = true → p j = true) → i ∈ l → p i = true → q i = false → (l.filter q).length < (l.filter p).length
  | [], i, _, h, _, _ => by simp at h
  | x :: l, i, hpq, h, hp, hq => by
    have hle : ∀ (l : List Nat), (l.filter q).length ≤ (l.filter p).length := by
      intro l
      induction l with
      | nil => simp
      | cons y l ih =>
        simp only [List.filter_cons]
        cases hy : q y
        · cases p y <;> simp <;> omega
        · simp [hpq y hy]; omega
    simp only [List.filter_cons]
    simp only [List.mem_cons] at h
    by_cases hx : i = x
    · subst hx
      have := hle l
      simp [hp, hq]; omega
    · have ih := length_filter_lt hpq (h.resolve_left hx) hp hq
      cases hy : q x
      · cases p x <;> simp <;> omega
      · simp [hpq x hy]; exact ih

section
variable {M0 S0 : Nat → Prop} {w0 : World} {N : Fr} {T : Nat → A} {m : Mem} {ρ : Nat → Value} {P : Program} {ops : Array Oper} {recs : List Rec} {anc : Nat → Nat → Bool} {F : Nat → Nat → Prop}

theorem region_any {ro : Option Nat} (hok : RegOk P ops recs anc F N.n T m) (hlt : ∀ b, M0 b → b < w0.heap.size) {Q : Exit → Act → World → Prop}
    (hQ : ∀ (a : Act) (w : World) (ρ' : Nat → Value), SatAt M0 S0 w0 N (recT T recs) (recM m recs) ρ' a w → Onto m (recM m recs) ρ ρ' → Q .normal a w) :
    ∀ (fuel : Nat) (listed : Array Bool) (ρ' : Nat → Value) (a : Act) (w : World), listed.size = ops.size → ((List.range ops.size).filter fun i => !listed.getD i false).length ≤ fuel →
      (∀ k o, ops[k]? = some o → listed.getD k false = true → ∀ e ∈ o.after, Region.binds .any e = true → listed.getD e.on false = true) →
      SatAt M0 S0 w0 N (recT T (sel (fun i => listed.getD i false) 0 recs)) (recM m (sel (fun i => listed.getD i false) 0 recs)) ρ' a w → Onto m (recM m (sel (fun i => listed.getD i false) 0 recs)) ρ ρ' →
      wpAnyIn (FW ro) 0 P .any ops Q fuel listed a w := by
  have hfin : ∀ (listed : Array Bool) (ρ' : Nat → Value) (a : Act) (w : World), listed.size = ops.size → Region.ready .any ops listed = [] →
      SatAt M0 S0 w0 N (recT T (sel (fun i => listed.getD i false) 0 recs)) (recM m (sel (fun i => listed.getD i false) 0 recs)) ρ' a w → Onto m (recM m (sel (fun i => listed.getD i false) 0 recs)) ρ ρ' → Q .normal a w := by
    intro listed ρ' a w hsz hr hs hO
    have hall : ∀ i, i < ops.size → listed.getD i false = true := by
      intro i
      induction i using Nat.strongRecOn with
      | _ i ih =>
        intro hi
        cases hX : listed.getD i false with
        | true => rfl
        | false =>
          exfalso
          have hmem : i ∈ Region.ready .any ops listed := by
            unfold Region.ready
            rw [List.mem_filter]
            refine ⟨by simpa using hi, ?_⟩
            have h1 : listed.getD i true = false := by
              have : i < listed.size := by omega
              simp [Array.getD, this] at hX ⊢; exact hX
            rw [h1, Array.getElem?_eq_getElem hi]
            simp only [Bool.not_false, Option.map_some, Option.getD_some, Bool.true_and, Array.all_eq_true']
            intro e he
            cases hb : Region.binds .any e with
            | false => simp
            | true =>
              have hd := hok.down i _ (Array.getElem?_eq_getElem hi) e he hb
              simp [ih e.on hd (by omega)]
          rw [hr] at hmem; simp at hmem
    have hsel : sel (fun i => listed.getD i false) 0 recs = recs := sel_all recs 0 fun i _ h => hall i (by have := hok.len; omega)
    rw [hsel] at hs hO
    exact hQ a w ρ' hs hO
  intro fuel
  induction fuel with
  | zero =>
    intro listed ρ' a w hsz hf hcl hs hO
    have hr : Region.ready .any ops listed = [] := by
      unfold Region.ready
      rw [List.filter_eq_nil_iff]
      intro i hi
      have h0 : (List.range ops.size).filter (fun i => !listed.getD i false) = [] := List.eq_nil_of_length_eq_zero (by omega)
      rw [List.filter_eq_nil_iff] at h0
      have h1 := h0 i hi
      have hil : i < listed.size := by have := List.mem_range.1 hi; omega
      simp [Array.getD, hil] at h1 ⊢
      simp [h1]
    exact ⟨hr, hfin listed ρ' a w hsz hr hs hO⟩
  | succ fuel ih =>
    intro listed ρ' a w hsz hf hcl hs hO
    refine ⟨fun hr => hfin listed ρ' a w hsz hr hs hO, fun k hk => ?_⟩
    unfold Region.ready at hk
    rw [List.mem_filter] at hk
    obtain ⟨hk1, hk2⟩ := hk
    have hkn : k < ops.size := by simpa using hk1
    have hko : ops[k]? = some ops[k] := Array.getElem?_eq_getElem hkn
    rw [hko] at hk2
    simp only [Option.map_some, Option.getD_some, Bool.and_eq_true, Bool.not_eq_true', Array.all_eq_true', Bool.or_eq_true] at hk2
    obtain ⟨hk3, hk4⟩ := hk2
    have hkl : k < listed.size := by omega
    have hXk : listed.getD k false = false := by simp [Array.getD, hkl] at hk3 ⊢; exact hk3
    have hdir : ∀ e ∈ (ops[k]).after, Region.binds .any e = true → listed.getD e.on false = true := by
      intro e he hb
      rcases hk4 e he with h | h
      · rw [hb] at h; cases h
      · exact h
    -- what is listed has its ancestors listed
    have hcl2 : ∀ (i : Nat) (o : Oper), ops[i]? = some o → (∀ e ∈ o.after, Region.binds .any e = true → listed.getD e.on false = true) → ∀ j, anc i j = true → listed.getD j false = true := by
      intro i
      induction i using Nat.strongRecOn with
      | _ i ih2 =>
        intro o ho hdir j hj
        obtain ⟨e, he, hb, h⟩ := hok.anc i o j ho hj
        have hel := hdir e he hb
        rcases h with rfl | h
        · exact hel
        · have hlt2 := hok.down i o ho e he hb
          have hio : i < ops.size := (Array.getElem?_eq_some_iff.1 ho).1
          exact ih2 e.on hlt2 _ (Array.getElem?_eq_getElem (by omega)) (hcl e.on _ (Array.getElem?_eq_getElem (by omega)) hel) j h
    have hdown : ∀ (i : Nat) (o : Oper), ops[i]? = some o → ∀ j, anc i j = true → j < i := by
      intro i
      induction i using Nat.strongRecOn with
      | _ i ih2 =>
        intro o ho j hj
        obtain ⟨e, he, hb, h⟩ := hok.anc i o j ho hj
        have hlt2 := hok.down i o ho e he hb
        rcases h with rfl | h
        · exact hlt2
        · have hio : i < ops.size := (Array.getElem?_eq_some_iff.1 ho).1
          exact Nat.lt_trans (ih2 e.on hlt2 _ (Array.getElem?_eq_getElem (by omega)) j h) hlt2
    have hanck : ∀ j, anc k j = true → listed.getD j false = true := hcl2 k _ hko hdir
    have hrk : k < recs.length := by have := hok.len; omega
    have hr : recs[k]? = some recs[k] := List.getElem?_eq_getElem hrk
    -- what is listed and no ancestor is not comparable
    have hinc : ∀ i q, recs[i]? = some q → listed.getD i false ≠ anc k i → i ≠ k ∧ anc i k = false ∧ anc k i = false := by
      intro i q hq hne
      have hio : i < ops.size := by have := (List.getElem?_eq_some_iff.1 hq).1; have := hok.len; omega
      have hXi : listed.getD i false = true := by
        cases h : listed.getD i false with
        | true => rfl
        | false =>
          cases h2 : anc k i with
          | true => exact (hanck i h2).symm.trans h ▸ rfl
          | false => rw [h, h2] at hne; exact absurd rfl hne
      have hki : anc k i = false := by
        cases h2 : anc k i with
        | true => rw [hXi, h2] at hne; exact absurd rfl hne
        | false => rfl
      refine ⟨(by rintro rfl; rw [hXk] at hXi; cases hXi), ?_, hki⟩
      cases h3 : anc i k with
      | false => rfl
      | true =>
        have := hcl2 i _ (Array.getElem?_eq_getElem hio) (hcl i _ (Array.getElem?_eq_getElem hio) hXi) k h3
        rw [hXk] at this; cases this
    have hTk : ∀ x ∈ (ops[k]).looksAt ops, recT T (sel (fun i => listed.getD i false) 0 recs) x = recT T (sel (anc k) 0 recs) x := by
      intro x hx
      refine recT_agree recs 0 T T (fun i q hq hne => ?_) rfl
      rw [Nat.zero_add] at hne
      obtain ⟨h1, h2, h3⟩ := hinc i q hq hne
      exact fun e => ((hok.apart i k q _ _ h1 hq hr hko h2 h3).1 x e).1 hx
    have hmk : ∀ n, F k n → recM m (sel (fun i => listed.getD i false) 0 recs) n = recM m (sel (anc k) 0 recs) n := by
      intro n hn
      refine recM_agree recs 0 m m (fun i q hq hne p hp e => ?_) rfl
      rw [Nat.zero_add] at hne
      obtain ⟨h1, h2, h3⟩ := hinc i q hq hne
      exact ((hok.apart i k q _ _ h1 hq hr hko h2 h3).2 p hp).1 (e ▸ hn)
    have hsel := sel_insert (fun i => listed.getD i false) recs[k] recs 0 k T m (by simpa using hXk) hr (fun i q hi hX hq => by
      have hX' : listed.getD i false = true := by simpa using hX
      have hio : i < ops.size := by have := (List.getElem?_eq_some_iff.1 hq).1; have := hok.len; omega
      have h2 : anc i k = false := by
        cases h3 : anc i k with
        | false => rfl
        | true =>
          have := hcl2 i _ (Array.getElem?_eq_getElem hio) (hcl i _ (Array.getElem?_eq_getElem hio) hX') k h3
          rw [hXk] at this; cases this
      have h3 : anc k i = false := by
        cases h3 : anc k i with
        | false => rfl
        | true => have := hdown k _ hko i h3; omega
      have := hok.apart k i _ q _ (by omega) hr hq (Array.getElem?_eq_getElem hio) h3 h2
      exact ⟨fun p hp => (this.2 p hp).2, fun n hn => (this.1 n hn).2⟩)
    have hX' : (fun i => (listed.setIfInBounds k true).getD i false) = addX (fun i => listed.getD i false) (0 + k) := by
      funext i
      unfold addX
      rw [Nat.zero_add]
      by_cases e : i = k
      · subst e; simp [Array.getD, hkl]
      · rw [if_neg e]
        show (listed.setIfInBounds k true).getD i false = listed.getD i false
        rw [Array.getD_eq_getD_getElem?, Array.getD_eq_getD_getElem?, Array.getElem?_setIfInBounds_ne (Ne.symm e)]
    obtain ⟨hd1, hd2⟩ := hok.dst k _ _ hko hr
    have hnext : ∀ (ρ2 : Nat → Value) (a2 : Act) (w2 : World), SatAt M0 S0 w0 N (setT (recT T (sel (fun i => listed.getD i false) 0 recs)) recs[k].dst recs[k].v) (applyU (recM m (sel (fun i => listed.getD i false) 0 recs)) recs[k].u) ρ2 a2 w2 →
        Onto (recM m (sel (fun i => listed.getD i false) 0 recs)) (applyU (recM m (sel (fun i => listed.getD i false) 0 recs)) recs[k].u) ρ' ρ2 → wpAnyIn (FW ro) 0 P .any ops Q fuel (listed.setIfInBounds k true) a2 w2 := by
      intro ρ2 a2 w2 hs2 hO2
      refine ih _ ρ2 a2 w2 (by simpa using hsz) ?_ ?_ ?_ ?_
      · have := length_filter_lt (l := List.range ops.size) (p := fun i => !listed.getD i false) (q := fun i => !(listed.setIfInBounds k true).getD i false) (i := k) (fun j hj => by
          have hj' : (fun i => (listed.setIfInBounds k true).getD i false) j = false := by simpa using hj
          rw [hX'] at hj'
          unfold addX at hj'
          split at hj'
          · cases hj'
          · simpa using hj') (by simpa using hkn) (by simp only [hXk]; rfl) (by
            have : (fun i => (listed.setIfInBounds k true).getD i false) k = true := by rw [hX']; simp [addX]
            simpa using this)
        omega
      · intro i o ho hi e he hb
        have hi' : (fun i => (listed.setIfInBounds k true).getD i false) i = true := hi
        show (fun i => (listed.setIfInBounds k true).getD i false) e.on = true
        rw [hX'] at hi' ⊢
        unfold addX at hi' ⊢
        rw [Nat.zero_add] at hi' ⊢
        split
        · rfl
        · split at hi'
          · rename_i hik; subst hik; rw [hko] at ho; simp at ho; subst ho; exact hdir e he hb
          · exact hcl i o ho hi' e he hb
      · rw [hX', hsel.1, hsel.2]; exact hs2
      · rw [hX', hsel.1]; exact hO.trans hO2
    unfold wpOpIn
    rw [hko]
    simp only
    have hwant : ∀ b, wantA ops (recT T (sel (anc k) 0 recs)) ops[k] = some b → wantA ops (recT T (sel (fun i => listed.getD i false) 0 recs)) ops[k] = some b := by
      intro b hb
      unfold wantA at hb ⊢
      split at hb
      · exact hb
      · rename_i j want hg
        split at hb
        · rename_i d hd
          rw [hTk d (hok.guard k _ j want hko hg d hd)]; simpa [hg, hd] using hb
        · cases hb
    rcases hok.good k _ _ hko hr with ⟨hw, hv, hu⟩ | ⟨hw, hop⟩
    · rw [want_den hs (hwant _ hw)]
      simp only [Bool.false_eq_true, if_false]
      refine ⟨fun _ _ => trivial, hnext ρ' _ w ?_ (by rw [hu]; exact Onto.refl _ _)⟩
      rw [hu, hv, hd1]
      exact hs.put _ (fun n hn => hd2 n hn) (by simp only [A.Den]; exact ⟨#[], rfl, rfl⟩)
    · rw [want_den hs (hwant _ hw)]
      simp only [if_true]
      refine hop _ _ hTk hmk (fun p hp hn => ?_) ro N M0 S0 w0 ρ' a w hs hlt _ Q ?_
      · rw [hmk _ (hok.fresh k _ hr p hp hn)]; exact hn
      · intro y w' ρ2 hs2 hO2 hden
        refine hnext ρ2 _ w' ?_ hO2
        rw [hd1]
        exact hs2.put _ (fun n hn => hd2 n hn) hden

/-- a region that draws its order -/
theorem region_draw {ro : Option Nat} (hm : P.follows .mixedOrders = true) (hok : RegOk P ops recs anc F N.n T m) (hlt : ∀ b, M0 b → b < w0.heap.size) {id : Nat} {Q : Exit → Act → World → Prop} {a : Act} {w : World} (hs : SatAt M0 S0 w0 N T m ρ a w)
    (hQ : ∀ (a : Act) (w : World) (ρ' : Nat → Value), SatAt M0 S0 w0 N (recT T recs) (recM m recs) ρ' a w → Onto m (recM m recs) ρ ρ' → Q .normal a w) : (Code.region id ops true).wpIn (FW ro) 0 P Q a w := by
  refine wpIn_region_any hm ?_
  have h0 : (fun i => (Array.replicate ops.size false).getD i false) = fun _ => false := by
    funext i
    by_cases h : i < ops.size <;> simp [Array.getD, h]
  refine region_any hok hlt hQ ops.size _ ρ a _ (by simp) ?_ ?_ ?_ ?_
  · have := List.length_filter_le (fun i => !(Array.replicate ops.size false).getD i false) (List.range ops.size)
    simpa using this
  · intro k o _ hk
    have : (fun i => (Array.replicate ops.size false).getD i false) k = true := hk
    rw [h0] at this; cases this
  · rw [h0, sel_none recs 0 (fun _ => rfl)]; exact hs.drew _
  · rw [h0, sel_none recs 0 (fun _ => rfl)]; exact Onto.refl _ _
end
end Go.Pv

namespace Go.Pv
open Go.RowKit
set_option linter.unusedVariables false
set_option linter.unusedSimpArgs false
set_option linter.constructorNameAsVariable false

def KC.same : KC → KC → Bool
  | .int k _, .int k' _ => decide (k = k')
  | .bool _, .bool _ => true
  | .str _, .str _ => true
  | _, _ => false
def KC.fits (P : Program) (t : TypeId) : KC → Bool
  | .int _ _ => match P.underlying t with
    | some (.int _) => true
    | _ => false
  | .bool _ => isBoolT P t
  | .str _ => isStrT P t
def fldsFit (P : Program) (sub : TypeId → List KC → Bool) : List Field → Nat → List KC → Bool
  | [], _, [] => true
  | [], _, _ :: _ => false
  | f :: fs, i, l => decide (f.offset = i) && (decide (f.name ≠ "_") && (match aggOf P f.type with
    | some false => (match l with
      | c :: r => c.fits P f.type && fldsFit P sub fs (i + 1) r
      | [] => false)
    | some true => decide (0 < P.cellsOf f.type ∧ P.cellsOf f.type ≤ l.length) && (sub f.type (l.take (P.cellsOf f.type)) && fldsFit P sub fs (i + P.cellsOf f.type) (l.drop (P.cellsOf f.type)))
    | none => false))
def aggFits (P : Program) : Nat → TypeId → List KC → Bool
  | 0, _, _ => false
  | n + 1, t, l => match P.underlying t with
    | some (.struct fs) => !P.stoodInHeld t && fldsFit P (aggFits P n) fs.toList 0 l
    | _ => false
def KC.sameL : List KC → List KC → Bool
  | [], [] => true
  | a :: r, b :: s => a.same b && KC.sameL r s
  | _, _ => false
def Ky.fits (P : Program) (t : TypeId) : Ky → Bool
  | .one c => c.fits P t
  | .agg l => aggFits P 4 t l
def Ky.same : Ky → Ky → Bool
  | .one a, .one b => a.same b
  | .agg a, .agg b => KC.sameL a b
  | _, _ => false

theorem same_len : ∀ {a b : List KC}, KC.sameL a b = true → a.length = b.length
  | [], [], _ => rfl
  | a :: r, b :: s, h => by simp only [KC.sameL, Bool.and_eq_true] at h; simp [same_len h.2]
  | [], _ :: _, h => by simp [KC.sameL] at h
  | _ :: _, [], h => by simp [KC.sameL] at h

section
variable {P : Program} {w : World}

theorem bytes_beq (a b : ByteArray) : (a.toList == b.toList) = decide (a = b) := by
  apply Bool.eq_iff_iff.2
  simp only [beq_iff_eq, decide_eq_true_eq]
  exact ⟨fun e => by
    have e1 : a.data.toList = b.data.toList := by simpa [ByteArray.toList_eq] using e
    cases a; cases b; simp at e1; simp [e1], fun e => by rw [e]⟩

theorem run_eqKC (d : Nat) {t : TypeId} {a b : KC} (hf : a.fits P t = true) (hs : a.same b = true) : (Op.equalIn (d + 1) t a.val b.val).run P w = .ok (decide (a = b)) w := by
  cases a <;> cases b <;> simp only [KC.same] at hs <;> (try cases hs)
  · rename_i k n k' n'
    have hs := of_decide_eq_true hs
    subst hs
    unfold KC.fits at hf
    simp only at hf
    split at hf
    · rename_i k2 hu
      simp only [KC.val, run_equalIn_int w d t k k2 n n' hu]
      simp; exact Bool.eq_iff_iff.2 (by simp)
    · cases hf
  · rename_i x y
    simp only [KC.val, run_equalIn_bool' w d t x y (isBoolT_eq hf)]
    cases x <;> cases y <;> rfl
  · rename_i x y
    simp only [KC.val, run_equalIn_string w d t x y (isStrT_eq hf), bytes_beq]
    simp

theorem sameL_take : ∀ {a b : List KC} (n : Nat), KC.sameL a b = true → KC.sameL (a.take n) (b.take n) = true
  | _, _, 0, _ => by simp [KC.sameL]
  | [], [], _ + 1, _ => by simp [KC.sameL]
  | a :: r, b :: s, n + 1, h => by
    simp only [KC.sameL, Bool.and_eq_true] at h
    simp only [List.take_succ_cons, KC.sameL, h.1, sameL_take n h.2, Bool.and_self]
  | [], _ :: _, _, h => by simp [KC.sameL] at h
  | _ :: _, [], _, h => by simp [KC.sameL] at h
theorem sameL_drop : ∀ {a b : List KC} (n : Nat), KC.sameL a b = true → KC.sameL (a.drop n) (b.drop n) = true
  | _, _, 0, h => by simpa using h
  | [], [], _ + 1, _ => by simp [KC.sameL]
  | a :: r, b :: s, n + 1, h => by
    simp only [KC.sameL, Bool.and_eq_true] at h
    simpa using sameL_drop n h.2
  | [], _ :: _, _, h => by simp [KC.sameL] at h
  | _ :: _, [], _, h => by simp [KC.sameL] at h

theorem extract_vals {xs : Array Value} {a : List KC} {i n : Nat} (hx : ∀ j c, a[j]? = some c → xs[i + j]? = some c.val) (hn : n ≤ a.length) : xs.extract i (i + n) = ((a.take n).map KC.val).toArray := by
  apply Array.ext_getElem?
  intro j
  rw [Array.getElem?_extract]
  simp only [List.getElem?_toArray, List.getElem?_map, List.getElem?_take]
  by_cases hj : j < n
  · have hj2 : j < a.length := by omega
    have h1 := hx j a[j] (List.getElem?_eq_getElem hj2)
    have h2 : i + j < xs.size := (Array.getElem?_eq_some_iff.1 h1).1
    have h3 : i + (a.length - 1) < xs.size := by
      have := hx (a.length - 1) _ (List.getElem?_eq_getElem (by omega))
      exact (Array.getElem?_eq_some_iff.1 this).1
    rw [if_pos (by omega), if_pos hj, h1, List.getElem?_eq_getElem hj2]; rfl
  · rw [if_neg (by omega), if_neg hj]; rfl

theorem part_agg {f : TypeId} {cs : Array Value} {off : Nat} (h : aggOf P f = some true) (hp : 0 < P.cellsOf f) : (part f cs off).run P w = .ok (.agg (cs.extract off (off + P.cellsOf f))) w := by
  obtain ⟨inf, hi⟩ := info_pos hp
  have he : P.cellsOf f = inf.size := by simp [Program.cellsOf, hi]
  simp only [part, Sem.run_bind, run_isAgg h, Result.andThen_ok, if_true, run_sizeOf hi, Sem.run_pure, he]

theorem decide_take (a b : List KC) (n : Nat) : decide (a = b) = (decide (a.take n = b.take n) && decide (a.drop n = b.drop n)) := by
  apply Bool.eq_iff_iff.2
  simp only [decide_eq_true_eq, Bool.and_eq_true]
  constructor
  · rintro rfl; exact ⟨rfl, rfl⟩
  · rintro ⟨h1, h2⟩
    rw [← List.take_append_drop n a, h1, h2, List.take_append_drop]

theorem run_eqFlds (d : Nat) (xs ys : Array Value) (sub : TypeId → List KC → Bool) (hsub : ∀ t a b, sub t a = true → KC.sameL a b = true → (Op.equalIn (d + 1) t (.agg (a.map KC.val).toArray) (.agg (b.map KC.val).toArray)).run P w = .ok (decide (a = b)) w) :
    ∀ (fs : List Field) (i : Nat) (a b : List KC), fldsFit P sub fs i a = true → KC.sameL a b = true →
    (∀ j c, a[j]? = some c → xs[i + j]? = some c.val) → (∀ j c, b[j]? = some c → ys[i + j]? = some c.val) → (Op.eqFields (d + 1) xs ys fs).run P w = .ok (decide (a = b)) w
  | [], i, [], b, hf, hs, _, _ => by
    cases b with
    | nil => simp [Op.eqFields]
    | cons _ _ => simp [KC.sameL] at hs
  | [], i, _ :: _, b, hf, hs, _, _ => by simp [fldsFit] at hf
  | f :: fs, i, a, b, hf, hs, hx, hy => by
    simp only [fldsFit, Bool.and_eq_true, decide_eq_true_eq] at hf
    obtain ⟨rfl, h2, h3⟩ := hf
    split at h3
    · rename_i hag
      split at h3
      · rename_i c r
        simp only [Bool.and_eq_true] at h3
        obtain ⟨h4, h5⟩ := h3
        cases b with
        | nil => simp [KC.sameL] at hs
        | cons c' r' =>
          simp only [KC.sameL, Bool.and_eq_true] at hs
          have hx0 := hx 0 c rfl
          have hy0 := hy 0 c' rfl
          simp only [Nat.add_zero] at hx0 hy0
          have ih := run_eqFlds d xs ys sub hsub fs (f.offset + 1) r r' h5 hs.2 (fun j e he => by have := hx (j + 1) e (by simpa using he); rwa [show f.offset + (j + 1) = f.offset + 1 + j by omega] at this) (fun j e he => by have := hy (j + 1) e (by simpa using he); rwa [show f.offset + (j + 1) = f.offset + 1 + j by omega] at this)
          simp only [Op.eqFields, h2, ne_eq, not_false_eq_true, if_true, Sem.run_bind, part, run_isAgg hag, Result.andThen_ok, Bool.false_eq_true, if_false, hx0, hy0, Sem.run_pure, run_eqKC d h4 hs.1]
          by_cases e : c = c'
          · subst e
            simp only [decide_true, Bool.not_true, Bool.false_eq_true, if_false, ih]
            simp
          · simp [e]
      · cases h3
    · rename_i hag
      simp only [Bool.and_eq_true] at h3
      obtain ⟨h4, h5, h6⟩ := h3
      obtain ⟨hpos, hle⟩ := of_decide_eq_true h4
      have hlen := same_len hs
      have ih := run_eqFlds d xs ys sub hsub fs (f.offset + P.cellsOf f.type) (a.drop (P.cellsOf f.type)) (b.drop (P.cellsOf f.type)) h6 (sameL_drop _ hs)
        (fun j e he => by have := hx (P.cellsOf f.type + j) e (by simpa using he); rwa [← Nat.add_assoc] at this) (fun j e he => by have := hy (P.cellsOf f.type + j) e (by simpa using he); rwa [← Nat.add_assoc] at this)
      have hq := hsub f.type _ _ h5 (sameL_take (P.cellsOf f.type) hs)
      have ex := extract_vals hx hle
      have ey := extract_vals (n := P.cellsOf f.type) hy (by omega)
      simp only [Op.eqFields, h2, ne_eq, not_false_eq_true, if_true, Sem.run_bind, part_agg hag hpos, Result.andThen_ok, ex, ey, hq]
      rw [decide_take a b (P.cellsOf f.type)]
      by_cases e : a.take (P.cellsOf f.type) = b.take (P.cellsOf f.type)
      · simp only [e, decide_true, Bool.not_true, Bool.false_eq_true, if_false, ih, Bool.true_and]
      · simp [e]
    · cases h3

theorem run_eqAgg (d : Nat) : ∀ (dep : Nat) (t : TypeId) (a b : List KC), aggFits P dep t a = true → KC.sameL a b = true → (Op.equalIn (d + dep + 1) t (.agg (a.map KC.val).toArray) (.agg (b.map KC.val).toArray)).run P w = .ok (decide (a = b)) w
  | 0, _, _, _, h, _ => by simp [aggFits] at h
  | dep + 1, t, a, b, hf, hs => by
    unfold aggFits at hf
    split at hf
    · rename_i fs hu
      simp only [Bool.and_eq_true, Bool.not_eq_true'] at hf
      have hfo : P.fieldsOf t = fs := by simp [Program.fieldsOf, hu]
      rw [run_equalIn_struct w (d + (dep + 1)) t _ _ (by rw [hfo]; exact hu) hf.1, hfo]
      exact run_eqFlds (d + dep) _ _ (aggFits P dep) (run_eqAgg d dep) fs.toList 0 a b hf.2 hs (fun j c h => by simp [h]) (fun j c h => by simp [h])
    · cases hf

theorem val_getElem (l : List KC) (j : Nat) (c : KC) (h : l[j]? = some c) : ((l.map KC.val).toArray)[0 + j]? = some c.val := by
  simp [h]

theorem run_eqKy (d : Nat) {t : TypeId} {a b : Ky} (hf : a.fits P t = true) (hs : a.same b = true) : (Op.equalIn (d + 5) t a.val b.val).run P w = .ok (decide (a = b)) w := by
  cases a <;> cases b <;> simp only [Ky.same] at hs <;> (try cases hs)
  · simp only [Ky.val, run_eqKC (d + 4) hf hs]; simp
  · rename_i x y
    simp only [Ky.val, run_eqAgg d 4 t x y hf hs]; simp

theorem run_equalKy {t : TypeId} {a b : Ky} (hf : a.fits P t = true) (hs : a.same b = true) : (Op.equal t a.val b.val).run P w = .ok (decide (a = b)) w := run_eqKy 9995 hf hs

/-- a key that can be looked for -/
theorem run_checkKC (em : Bool) (n : Nat) {t : TypeId} {c : KC} (hf : c.fits P t = true) : (Instr.checkKey em (n + 1) t c.val).run P w = .ok () w := by
  cases c with
  | int k x =>
    unfold KC.fits at hf; simp only at hf
    split at hf
    · rename_i k2 hu; simp [Instr.checkKey, run_underlying hu, KC.val]
    · cases hf
  | bool x => simp [Instr.checkKey, run_underlying (isBoolT_eq hf), KC.val]
  | str x => simp [Instr.checkKey, run_underlying (isStrT_eq hf), KC.val]

theorem run_checkFlds (em : Bool) (n : Nat) (cs : Array Value) (sub : TypeId → List KC → Bool) (hsub : ∀ t a, sub t a = true → (Instr.checkKey em (n + 1) t (.agg (a.map KC.val).toArray)).run P w = .ok () w) :
    ∀ (fs : List Field) (i : Nat) (l : List KC), fldsFit P sub fs i l = true → (∀ j c, l[j]? = some c → cs[i + j]? = some c.val) →
    (forIn fs PUnit.unit (fun f (_ : PUnit) => if f.name ≠ "_" then (do let v ← part f.type cs f.offset; Instr.checkKey em (n + 1) f.type v; pure (ForInStep.yield PUnit.unit)) else pure (ForInStep.yield PUnit.unit)) : Sem PUnit).run P w = .ok PUnit.unit w
  | [], i, [], _, _ => by simp
  | [], i, _ :: _, hf, _ => by simp [fldsFit] at hf
  | f :: fs, i, l, hf, hx => by
    simp only [fldsFit, Bool.and_eq_true, decide_eq_true_eq] at hf
    obtain ⟨rfl, h2, h3⟩ := hf
    split at h3
    · rename_i hag
      split at h3
      · rename_i c r
        simp only [Bool.and_eq_true] at h3
        obtain ⟨h4, h5⟩ := h3
        have hx0 := hx 0 c rfl
        simp only [Nat.add_zero] at hx0
        have ih := run_checkFlds em n cs sub hsub fs (f.offset + 1) r h5 (fun j e he => by have := hx (j + 1) e (by simpa using he); rwa [show f.offset + (j + 1) = f.offset + 1 + j by omega] at this)
        simp only [List.forIn_cons, h2, ne_eq, not_false_eq_true, if_true, Sem.run_bind, part, run_isAgg hag, Result.andThen_ok, Bool.false_eq_true, if_false, hx0, Sem.run_pure, run_checkKC em n h4]
        exact ih
      · cases h3
    · rename_i hag
      simp only [Bool.and_eq_true] at h3
      obtain ⟨h4, h5, h6⟩ := h3
      obtain ⟨hpos, hle⟩ := of_decide_eq_true h4
      have ih := run_checkFlds em n cs sub hsub fs (f.offset + P.cellsOf f.type) (l.drop (P.cellsOf f.type)) h6 (fun j e he => by have := hx (P.cellsOf f.type + j) e (by simpa using he); rwa [← Nat.add_assoc] at this)
      simp only [List.forIn_cons, h2, ne_eq, not_false_eq_true, if_true, Sem.run_bind, part_agg hag hpos, Result.andThen_ok, extract_vals hx hle, hsub _ _ h5, Sem.run_pure]
      exact ih
    · cases h3

theorem run_checkAgg (em : Bool) (n : Nat) : ∀ (dep : Nat) (t : TypeId) (l : List KC), aggFits P dep t l = true → (Instr.checkKey em (n + dep + 1) t (.agg (l.map KC.val).toArray)).run P w = .ok () w
  | 0, _, _, h => by simp [aggFits] at h
  | dep + 1, t, l, hf => by
    unfold aggFits at hf
    split at hf
    · rename_i fs hu
      simp only [Bool.and_eq_true, Bool.not_eq_true'] at hf
      have := run_checkFlds (w := w) em (n + dep) (l.map KC.val).toArray (aggFits P dep) (run_checkAgg em n dep) fs.toList 0 l hf.2 (val_getElem l)
      rw [Instr.checkKey]
      simp only [Sem.run_bind, run_underlying hu, Result.andThen_ok]
      rw [← Array.forIn_toList]
      rw [show n + (dep + 1) = n + dep + 1 by omega]
      simp only [this, Result.andThen_ok, Sem.run_pure]
    · cases hf

theorem run_checkKy (em : Bool) (n : Nat) {t : TypeId} {k : Ky} (hf : k.fits P t = true) : (Instr.checkKey em (n + 5) t k.val).run P w = .ok () w := by
  cases k with
  | one c => exact run_checkKC em (n + 4) hf
  | agg l => exact run_checkAgg em n 4 t l hf

/-- where a key stands -/
def findZ (k : Ky) : List (Ky × MapEntry) → Nat → Option (Nat × Value)
  | [], _ => none
  | p :: r, i => if k = p.1 then some (i, p.2.val) else findZ k r (i + 1)

theorem findAsk {t : TypeId} {k : Ky} (hf : k.fits P t = true) : ∀ (z : List (Ky × MapEntry)) (i : Nat), (∀ p ∈ z, p.2.key = p.1.val) → (∀ p ∈ z, k.same p.1 = true) → (Instr.findAsking t k.val (z.map (·.2)) i).run P w = .ok (findZ k z i) w
  | [], i, _, _ => by simp [Instr.findAsking, findZ]
  | p :: r, i, hk, hs => by
    have ih := findAsk hf r (i + 1) (fun q hq => hk q (by simp [hq])) (fun q hq => hs q (by simp [hq]))
    simp only [List.map_cons, Instr.findAsking, findZ, Sem.run_bind, hk p (by simp), run_equalKy hf (hs p (by simp)), Result.andThen_ok]
    by_cases e : k = p.1
    · simp [e]
    · simp [e, ih]

theorem findNow_one {d : TypeDesc} {t : TypeId} {c : KC} (hu : P.underlying t = some d) (hf : c.fits P t = true) : ∀ (z : List (Ky × MapEntry)) (i : Nat), (∀ p ∈ z, p.2.key = p.1.val) → (∀ p ∈ z, (Ky.one c).same p.1 = true) → Instr.findNow d c.val (z.map (·.2)) i = some (findZ (.one c) z i)
  | [], i, _, _ => by simp [Instr.findNow, findZ]
  | p :: r, i, hk, hs => by
    have ih := findNow_one hu hf r (i + 1) (fun q hq => hk q (by simp [hq])) (fun q hq => hs q (by simp [hq]))
    have hsp := hs p (by simp)
    simp only [List.map_cons, Instr.findNow, findZ, hk p (by simp)]
    cases hp : p.1 with
    | agg l => rw [hp] at hsp; simp [Ky.same] at hsp
    | one c' =>
      rw [hp] at hsp
      simp only [Ky.same] at hsp
      have key : Instr.sameNow d c.val c'.val = some (decide (c = c')) := by
        cases c <;> cases c' <;> simp only [KC.same] at hsp <;> (try cases hsp)
        · rename_i k n k' n'
          have := of_decide_eq_true hsp; subst this
          unfold KC.fits at hf; simp only at hf
          split at hf
          · rename_i k2 hu2; rw [hu] at hu2; simp at hu2; subst hu2
            simp [Instr.sameNow, KC.val]; exact Bool.eq_iff_iff.2 (by simp)
          · cases hf
        · rename_i x y
          have := isBoolT_eq hf; rw [hu] at this; simp at this; subst this
          cases x <;> cases y <;> rfl
        · rename_i x y
          have := isStrT_eq hf; rw [hu] at this; simp at this; subst this
          simp only [Instr.sameNow, KC.val, beq_toListBytes, bytes_beq]; simp
      simp only [Ky.val, key, Ky.one.injEq]
      by_cases e : c = c'
      · simp [e]
      · simp only [e, decide_false, if_false]; exact ih

theorem run_findKy {t : TypeId} {k : Ky} (hf : k.fits P t = true) (z : List (Ky × MapEntry)) (hk : ∀ p ∈ z, p.2.key = p.1.val) (hs : ∀ p ∈ z, k.same p.1 = true) : (Instr.findKey t k.val (z.map (·.2))).run P w = .ok (findZ k z 0) w := by
  cases k with
  | one c =>
    have hd : ∃ d, P.underlying t = some d := by
      cases c with
      | int k n => unfold Ky.fits KC.fits at hf; simp only at hf; split at hf
                   · exact ⟨_, by assumption⟩
                   · cases hf
      | bool b => exact ⟨_, isBoolT_eq hf⟩
      | str b => exact ⟨_, isStrT_eq hf⟩
    obtain ⟨d, hu⟩ := hd
    simp only [Instr.findKey, Sem.run_bind, run_underlying hu, Result.andThen_ok, Ky.val, findNow_one hu hf z 0 hk hs, Sem.run_pure]
  | agg l =>
    have hu : ∃ fs, P.underlying t = some (.struct fs) := by
      unfold Ky.fits aggFits at hf; simp only at hf
      split at hf
      · exact ⟨_, by assumption⟩
      · cases hf
    obtain ⟨fs, hu⟩ := hu
    cases z with
    | nil => simp [Instr.findKey, run_underlying hu, Instr.findNow, findZ]
    | cons p r =>
      have hn : Instr.findNow (.struct fs) (Ky.agg l).val ((p :: r).map (·.2)) 0 = none := by
        simp only [List.map_cons, Instr.findNow]
        rfl
      simp only [Instr.findKey, Sem.run_bind, run_underlying hu, Result.andThen_ok, hn]
      exact findAsk hf (p :: r) 0 hk hs
end
end Go.Pv

namespace Go.Pv
open Go.RowKit
set_option linter.unusedVariables false
set_option linter.unusedSimpArgs false
set_option linter.constructorNameAsVariable false

theorem perm_map_inv {α β : Type} {f : α → β} {l1 l : List β} (h : l1.Perm l) : ∀ {l2 : List α}, l = l2.map f → ∃ l2' : List α, l2'.Perm l2 ∧ l1 = l2'.map f := by
  induction h with
  | nil =>
    intro l2 e
    cases l2 with
    | nil => exact ⟨[], .nil, rfl⟩
    | cons a r => simp at e
  | cons x h ih =>
    intro l2 e
    cases l2 with
    | nil => simp at e
    | cons a r =>
      simp at e
      obtain ⟨l', h1, h2⟩ := ih e.2
      exact ⟨a :: l', h1.cons a, by simp [e.1, h2]⟩
  | swap x y l =>
    intro l2 e
    cases l2 with
    | nil => simp at e
    | cons a r =>
      cases r with
      | nil => simp at e
      | cons b r =>
        simp at e
        obtain ⟨rfl, rfl, rfl⟩ := e
        exact ⟨b :: a :: r, .swap _ _ _, rfl⟩
  | trans h1 h2 ih1 ih2 =>
    intro l2 e
    obtain ⟨l', g1, g2⟩ := ih2 e
    obtain ⟨l'', g3, g4⟩ := ih1 g2
    exact ⟨l'', g3.trans g1, g4⟩

/-- a map's entries in their own order, each with what it reads as -/
structure MZ (w : World) (M : Nat → Prop) (m : Mem) (ρ : Nat → Value) (es : Array MapEntry) (clock : Nat) (kv : List (Ky × A)) (z : List ((Ky × A) × MapEntry)) : Prop where
  toList : es.toList = z.map (·.2)
  perm : (z.map (·.1)).Perm kv
  key : ∀ p ∈ z, p.2.key = p.1.1.val
  den : ∀ p ∈ z, A.Den w M m ρ p.1.2 p.2.val
  nodup : (z.map (·.1.1)).Nodup
  born : (z.map (·.2.born)).Nodup
  old : ∀ p ∈ z, p.2.born < clock

section
variable {w : World} {M : Nat → Prop} {m : Mem} {ρ : Nat → Value} {es : Array MapEntry} {clock : Nat} {kv : List (Ky × A)}

theorem zip_fst {α β : Type} : ∀ {l : List α} {r : List β}, l.length = r.length → (l.zip r).map (·.1) = l
  | [], [], _ => rfl
  | a :: l, b :: r, h => by simp at h; simp [zip_fst h]
  | [], _ :: _, h => by simp at h
  | _ :: _, [], h => by simp at h
theorem zip_snd {α β : Type} : ∀ {l : List α} {r : List β}, l.length = r.length → (l.zip r).map (·.2) = r
  | [], [], _ => rfl
  | a :: l, b :: r, h => by simp at h; simp [zip_snd h]
  | [], _ :: _, h => by simp at h
  | _ :: _, [], h => by simp at h

theorem mz_of {l : List MapEntry} (h : MapIs es clock (kv.map (·.1)) l) (hd : A.DenL w M m ρ (kv.map (·.2)) (l.map (·.val))) : ∃ z, MZ w M m ρ es clock kv z := by
  have hlen : kv.length = l.length := by have := congrArg List.length h.keys; simpa using this.symm
  obtain ⟨z, h1, h2⟩ := perm_map_inv (f := fun p : (Ky × A) × MapEntry => p.2) h.perm (zip_snd hlen).symm
  have hz : ∀ p ∈ z, ∃ j : Nat, kv[j]? = some p.1 ∧ l[j]? = some p.2 := by
    intro p hp
    have := h1.mem_iff.1 hp
    obtain ⟨j, hj, e⟩ := List.mem_iff_getElem.1 this
    refine ⟨j, ?_, ?_⟩
    · have : (kv.zip l)[j]? = some p := by rw [List.getElem?_eq_getElem hj, e]
      rw [List.getElem?_zip_eq_some] at this; exact this.1
    · have : (kv.zip l)[j]? = some p := by rw [List.getElem?_eq_getElem hj, e]
      rw [List.getElem?_zip_eq_some] at this; exact this.2
  rw [A.DenL_iff] at hd
  refine ⟨z, h2, ?_, fun p hp => ?_, fun p hp => ?_, ?_, ?_, fun p hp => ?_⟩
  · have := h1.map (·.1); rwa [zip_fst hlen] at this
  · obtain ⟨j, e1, e2⟩ := hz p hp
    have e3 : (l.map (·.key))[j]? = some p.2.key := by simp [e2]
    rw [h.keys] at e3
    simp [e1] at e3
    exact e3.symm
  · obtain ⟨j, e1, e2⟩ := hz p hp
    exact hd.2 j _ _ (by simp [e1]) (by simp [e2])
  · have : (z.map (·.1.1)).Perm (kv.map (·.1)) := by
      have := (h1.map (·.1)).map (·.1)
      rw [zip_fst hlen, List.map_map] at this; exact this
    exact (this.nodup_iff).2 h.nodup
  · have : (z.map (·.2.born)).Perm (l.map (·.born)) := by
      have := (h1.map (·.2)).map (·.born)
      rw [zip_snd hlen, List.map_map] at this; exact this
    exact (this.nodup_iff).2 h.born
  · obtain ⟨j, e1, e2⟩ := hz p hp
    exact h.old _ (List.mem_of_getElem? e2)

theorem of_mz {z : List ((Ky × A) × MapEntry)} (h : MZ w M m ρ es clock kv z) : ∃ l, MapIs es clock (kv.map (·.1)) l ∧ A.DenL w M m ρ (kv.map (·.2)) (l.map (·.val)) := by
  obtain ⟨z', h1, h2⟩ := perm_map_inv (f := fun p : (Ky × A) × MapEntry => p.1) h.perm.symm rfl
  refine ⟨z'.map (·.2), ⟨?_, ?_, ?_, ?_, ?_⟩, ?_⟩
  · rw [h.toList]; exact (h1.map _).symm
  · rw [h2, List.map_map, List.map_map, List.map_map]
    exact List.map_congr_left fun p hp => h.key p (h1.mem_iff.1 hp)
  · rw [h2, List.map_map]
    exact ((h1.map (·.1.1)).nodup_iff).2 h.nodup
  · rw [List.map_map]; exact ((h1.map (·.2.born)).nodup_iff).2 h.born
  · intro e he
    obtain ⟨p, hp, rfl⟩ := List.mem_map.1 he
    exact h.old p (h1.mem_iff.1 hp)
  · rw [A.DenL_iff]
    refine ⟨by simp [h2], fun j c y hc hy => ?_⟩
    rw [h2] at hc
    simp only [List.map_map, List.getElem?_map, Option.map_eq_some_iff] at hc hy
    obtain ⟨p, hp, rfl⟩ := hc
    obtain ⟨q, hq, rfl⟩ := hy
    rw [hp] at hq; cases hq
    exact h.den p (h1.mem_iff.1 (List.mem_of_getElem? hp))

def kvGet (k : Ky) : List (Ky × A) → Option A
  | [] => none
  | p :: r => if k = p.1 then some p.2 else kvGet k r

theorem kvGet_some {k : Ky} {a : A} : ∀ {kv : List (Ky × A)}, kvGet k kv = some a → (k, a) ∈ kv
  | [], h => by simp [kvGet] at h
  | p :: r, h => by
    simp only [kvGet] at h
    split at h
    · rename_i e; simp at h; subst h; subst e; simp
    · simp [kvGet_some h]
theorem kvGet_none {k : Ky} : ∀ {kv : List (Ky × A)}, kvGet k kv = none → ∀ p ∈ kv, k ≠ p.1
  | [], _, p, hp => by simp at hp
  | q :: r, h, p, hp => by
    simp only [kvGet] at h
    split at h
    · cases h
    · rename_i e
      simp only [List.mem_cons] at hp
      rcases hp with rfl | hp
      · exact e
      · exact kvGet_none h p hp

theorem findZ_some {k : Ky} : ∀ {z : List ((Ky × A) × MapEntry)} {i n : Nat} {v : Value}, findZ k (z.map fun p => (p.1.1, p.2)) n = some (i, v) → ∃ p, z[i - n]? = some p ∧ n ≤ i ∧ p.1.1 = k ∧ v = p.2.val
  | [], i, n, v, h => by simp [findZ] at h
  | p :: r, i, n, v, h => by
    simp only [List.map_cons, findZ] at h
    split at h
    · rename_i e; simp at h; obtain ⟨rfl, rfl⟩ := h; exact ⟨p, by simp, Nat.le_refl _, e.symm, rfl⟩
    · obtain ⟨q, h1, h2, h3, h4⟩ := findZ_some h
      refine ⟨q, ?_, by omega, h3, h4⟩
      rw [show i - n = (i - (n + 1)) + 1 by omega]; simpa using h1
theorem findZ_none {k : Ky} : ∀ {z : List ((Ky × A) × MapEntry)} {n : Nat}, findZ k (z.map fun p => (p.1.1, p.2)) n = none → ∀ p ∈ z, k ≠ p.1.1
  | [], n, _, p, hp => by simp at hp
  | q :: r, n, h, p, hp => by
    simp only [List.map_cons, findZ] at h
    split at h
    · cases h
    · rename_i e
      simp only [List.mem_cons] at hp
      rcases hp with rfl | hp
      · exact e
      · exact findZ_none h p hp

/-- what is found, in both views -/
theorem MZ.find {z : List ((Ky × A) × MapEntry)} (h : MZ w M m ρ es clock kv z) (k : Ky) :
    (findZ k (z.map fun p => (p.1.1, p.2)) 0 = none ∧ kvGet k kv = none) ∨ ∃ i p, findZ k (z.map fun p => (p.1.1, p.2)) 0 = some (i, p.2.val) ∧ z[i]? = some p ∧ p.1.1 = k ∧ kvGet k kv = some p.1.2 := by
  cases hf : findZ k (z.map fun p => (p.1.1, p.2)) 0 with
  | none =>
    left
    refine ⟨rfl, ?_⟩
    cases hg : kvGet k kv with
    | none => rfl
    | some a =>
      have := h.perm.mem_iff.2 (kvGet_some hg)
      obtain ⟨p, hp, e⟩ := List.mem_map.1 this
      exact absurd (by rw [e]) (findZ_none hf p hp)
  | some r =>
    right
    obtain ⟨i, v⟩ := r
    obtain ⟨p, h1, _, h2, rfl⟩ := findZ_some hf
    refine ⟨i, p, rfl, by simpa using h1, h2, ?_⟩
    have hm : p.1 ∈ kv := h.perm.mem_iff.1 (List.mem_map.2 ⟨p, List.mem_of_getElem? h1, rfl⟩)
    have hnd : (kv.map (·.1)).Nodup := by
      have := (h.perm.map (·.1)).nodup_iff
      rw [List.map_map] at this
      exact this.1 h.nodup
    subst h2
    cases hg : kvGet p.1.1 kv with
    | none => exact absurd rfl (kvGet_none hg p.1 hm)
    | some a =>
      have h3 := kvGet_some hg
      have : ∀ {kv : List (Ky × A)} {k : Ky} {a b : A}, (kv.map (·.1)).Nodup → (k, a) ∈ kv → (k, b) ∈ kv → a = b := by
        intro kv k a b
        induction kv with
        | nil => simp
        | cons q r ih =>
          intro hn h1 h2
          simp only [List.map_cons, List.nodup_cons, List.mem_map] at hn
          simp only [List.mem_cons] at h1 h2
          rcases h1 with h1 | h1 <;> rcases h2 with h2 | h2
          · rw [← h1] at h2; cases h2; rfl
          · exact absurd ⟨(k, b), h2, by rw [← h1]⟩ hn.1
          · exact absurd ⟨(k, a), h1, by rw [← h2]⟩ hn.1
          · exact ih hn.2 h1 h2
      rw [this hnd h3 hm]

end

/-- scalars -/
def kcOf : Value → Option KC
  | .int k n => some (.int k n)
  | .bool b => some (.bool b)
  | .string s => some (.str s)
  | _ => none
theorem kcOf_val {v : Value} {c : KC} (h : kcOf v = some c) : v = c.val := by
  cases v <;> simp [kcOf] at h <;> (subst h; rfl)
def kcC : C → Option KC
  | .v x => kcOf x
  | _ => none
def kcA : A → Option KC
  | .d c => kcC c
  | _ => none
def kcsC : List C → Option (List KC)
  | [] => some []
  | c :: r => match kcC c, kcsC r with
    | some k, some l => some (k :: l)
    | _, _ => none
def kcsA : List A → Option (List KC)
  | [] => some []
  | c :: r => match kcA c, kcsA r with
    | some k, some l => some (k :: l)
    | _, _ => none
/-- a value as a key -/
def keyOf : A → Option Ky
  | .d (.v v) => (kcOf v).map .one
  | .d (.agg l) => (kcsC l).map .agg
  | .agg l => (kcsA l).map .agg
  | _ => none

section
variable {w : World} {M : Nat → Prop} {m : Mem} {ρ : Nat → Value}
theorem kcC_den {c : C} {k : KC} {y : Value} (h : kcC c = some k) (hd : c.Den w M y) : y = k.val := by
  cases c <;> simp [kcC] at h
  simp only [C.Den] at hd
  rw [hd]; exact kcOf_val h
theorem kcA_den {c : A} {k : KC} {y : Value} (h : kcA c = some k) (hd : c.Den w M m ρ y) : y = k.val := by
  cases c <;> simp [kcA] at h
  simp only [A.Den] at hd
  exact kcC_den h hd
theorem kcsC_den : ∀ {l : List C} {ks : List KC} {ys : List Value}, kcsC l = some ks → C.DenL w M l ys → ys = ks.map KC.val
  | [], ks, ys, h, hd => by simp only [kcsC, Option.some.injEq] at h; subst h; simpa only [C.DenL, List.map_nil] using hd
  | c :: r, ks, ys, h, hd => by
    simp only [kcsC] at h
    split at h
    · rename_i k l h1 h2
      simp only [Option.some.injEq] at h; subst h
      simp only [C.DenL] at hd
      obtain ⟨y, yr, rfl, h3, h4⟩ := hd
      rw [kcC_den h1 h3, kcsC_den h2 h4]; rfl
    · cases h
theorem kcsA_den : ∀ {l : List A} {ks : List KC} {ys : List Value}, kcsA l = some ks → A.DenL w M m ρ l ys → ys = ks.map KC.val
  | [], ks, ys, h, hd => by simp only [kcsA, Option.some.injEq] at h; subst h; simpa only [A.DenL, List.map_nil] using hd
  | c :: r, ks, ys, h, hd => by
    simp only [kcsA] at h
    split at h
    · rename_i k l h1 h2
      simp only [Option.some.injEq] at h; subst h
      simp only [A.DenL] at hd
      obtain ⟨y, yr, rfl, h3, h4⟩ := hd
      rw [kcA_den h1 h3, kcsA_den h2 h4]; rfl
    · cases h
theorem keyOf_den {x : A} {k : Ky} {y : Value} (h : keyOf x = some k) (hd : x.Den w M m ρ y) : y = k.val := by
  cases x with
  | d c =>
    cases c with
    | v v =>
      simp only [keyOf, Option.map_eq_some_iff] at h
      obtain ⟨c, h1, rfl⟩ := h
      simp only [A.Den, C.Den] at hd
      rw [hd]; exact kcOf_val h1
    | agg l =>
      simp only [keyOf, Option.map_eq_some_iff] at h
      obtain ⟨c, h1, rfl⟩ := h
      simp only [A.Den, C.Den] at hd
      obtain ⟨vs, rfl, _, h2⟩ := hd
      have := kcsC_den h1 h2
      simp only [Ky.val]
      rw [← this]
    | _ => simp [keyOf] at h
  | agg l =>
    simp only [keyOf, Option.map_eq_some_iff] at h
    obtain ⟨c, h1, rfl⟩ := h
    simp only [A.Den] at hd
    obtain ⟨vs, rfl, _, h2⟩ := hd
    have := kcsA_den h1 h2
    simp only [Ky.val]
    rw [← this]
  | _ => simp [keyOf] at h
end

/-- a zero value as a whole -/
def zeroA (P : Program) (t : TypeId) : Option A :=
  match P.info? t with
  | some i => match i.zero with
    | some (.agg _) => (zeroC P t).map fun z => .d (.agg z)
    | some _ => match zeroC P t with
      | some [c] => some (.d c)
      | _ => none
    | none => none
  | none => none

theorem zeroA_run {P : Program} {t : TypeId} {a : A} (h : zeroA P t = some a) (w : World) : ∃ v, (zeroValue t).run P w = .ok v w ∧ ∀ w M m ρ, a.Den w M m ρ v := by
  unfold zeroA at h
  split at h
  · rename_i i hi
    split at h
    · rename_i cs hz
      simp only [Option.map_eq_some_iff] at h
      obtain ⟨z, h1, rfl⟩ := h
      obtain ⟨zv, h2, h3, ⟨i', h4, h5⟩, h6⟩ := zeroC_run h1 w
      rw [hi] at h4; cases h4
      rw [hz] at h5; cases h5
      exact ⟨_, h2, fun w M m ρ => by simp only [A.Den, C.Den]; exact ⟨cs, rfl, h6, h3 w M⟩⟩
    · rename_i v hne hz
      split at h
      · rename_i c h1
        simp only [Option.some.injEq] at h; subst h
        obtain ⟨zv, h2, h3, ⟨i', h4, h5⟩, h6⟩ := zeroC_run h1 w
        rw [hi] at h4; cases h4
        rw [hz] at h5; cases h5
        refine ⟨_, h2, fun w M m ρ => ?_⟩
        have h7 := h3 w M
        have hc : v.cells = #[v] := by cases v <;> first | rfl | exact (hne _ rfl).elim
        rw [hc] at h7
        simp only [C.DenL] at h7
        obtain ⟨y, yr, e, h8, _⟩ := h7
        simp at e
        simp only [A.Den]; rw [e.1]; exact h8
      · cases h
    · cases h
  · cases h
end Go.Pv

namespace Go.Pv
open Go.RowKit
set_option linter.unusedVariables false
set_option linter.unusedSimpArgs false
set_option linter.constructorNameAsVariable false

/-- the types of a map's keys and values -/
def mapT (P : Program) (t : TypeId) : Option (TypeId × TypeId) :=
  match P.underlying t with
  | some (.map k e) => some (k, e)
  | _ => none
theorem mapT_eq {P : Program} {t k e : TypeId} (h : mapT P t = some (k, e)) : P.underlying t = some (.map k e) := by
  unfold mapT at h
  split at h
  · rename_i hu; simp at h; obtain ⟨rfl, rfl⟩ := h; exact hu
  · cases h

/-- a key that fits a type, and all of a map's -/
def fitK (P : Program) (kt : TypeId) (k : Ky) (kv : List (Ky × A)) : Bool := k.fits P kt && kv.all fun p => k.same p.1

def okA (ok : Bool) (a : A) (b : Bool) : A := if ok then .tup [a, .d (.v (.bool b))] else a

def effLookup (P : Program) (m : Mem) (t : TypeId) (x ix : A) (ok : Bool) : Option E :=
  match mapT P t, keyOf ix with
  | some (kt, et), some k => match zeroA P et with
    | some z => match x with
      | .h i => match m i with
        | some (.mp _ kv _) => match kvGet k kv with
          | some a => some (fitK P kt k kv, okA ok a true, [])
          | none => some (fitK P kt k kv, okA ok z false, [])
        | _ => none
      | .d (.im ks vs) => match kvGet k (ks.zip (vs.map A.d)) with
        | some a => some (fitK P kt k (ks.zip (vs.map A.d)), okA ok a true, [])
        | none => some (fitK P kt k (ks.zip (vs.map A.d)), okA ok z false, [])
      | .d (.v (.map none)) => some (k.fits P kt, okA ok z false, [])
      | _ => none
    | none => none
  | _, _ => none

def effMapSet (P : Program) (m : Mem) (t : TypeId) (x ix a : A) : Option E :=
  match mapT P t, keyOf ix, x with
  | some (kt, _), some k, .h i => match m i with
    | some (.mp false kv st) => match kvGet k kv with
      | some _ => some (fitK P kt k kv, .x, [(i, .mp false (kv.map fun p => if p.1 = k then (k, a) else p) st)])
      | none => some (fitK P kt k kv, .x, [(i, .mp false (kv ++ [(k, a)]) (st.filter fun p => p.1 != k && p.1 != .agg []))])
    | _ => none
  | _, _, _ => none

def effDelete (P : Program) (m : Mem) (t : TypeId) (x ix : A) : Option E :=
  match mapT P t, keyOf ix, x with
  | some (kt, _), some k, .h i => match m i with
    | some (.mp false kv st) => some (fitK P kt k kv, .tup [], [(i, .mp false (kv.filter fun p => p.1 != k) (st.filter fun p => p.1 != k))])
    | _ => none
  | some (kt, _), some k, .d (.v (.map none)) => some (k.fits P kt, .tup [], [])
  | _, _, _ => none

section
variable {M0 S0 : Nat → Prop} {w0 : World} {N : Fr} {T : Nat → A} {m : Mem} {ρ : Nat → Value} {a : Act} {w : World} {P : Program}

theorem run_getMap {b : Nat} {es : Array MapEntry} {cl : Nat} (h : w.heap[b]? = some (.map es cl)) : (getObj b).run P w = .ok (.map es cl) w := by
  simp [getObj, Sem.run, h]

theorem mp_mz (h : SatAt M0 S0 w0 N T m ρ a w) {i : Nat} {fz : Bool} {kv : List (Ky × A)} {st : List (Ky × Nat)} (hi : m i = some (.mp fz kv st)) :
    ∃ b es cl z, ρ i = .map (some b) ∧ w.heap[b]? = some (.map es cl) ∧ MZ w (Mut M0 m ρ) m ρ es cl kv z ∧ StIs m ρ st es.toList cl := by
  obtain ⟨b, es, cl, l, h1, h2, h3, h4, h5, h6⟩ := h.res i _ hi
  obtain ⟨z, hz⟩ := mz_of h3 h4
  exact ⟨b, es, cl, z, h1, h2, hz, fun p hp => ⟨(h6 p hp).1, fun hd => ⟨fun e he => ((h6 p hp).2 hd).1 e (h3.perm.mem_iff.1 he), ((h6 p hp).2 hd).2⟩⟩⟩

theorem okA_den {ok b : Bool} {x : A} {v : Value} {M : Nat → Prop} (h : x.Den w M m ρ v) : (okA ok x b).Den w M m ρ (if ok = true then .tuple #[v, .bool b] else v) := by
  unfold okA
  cases ok
  · simpa using h
  · simp only [if_true, A.Den]
    exact ⟨_, rfl, by simp only [A.DenL, A.Den, C.Den]; exact ⟨v, _, rfl, h, _, _, rfl, rfl, rfl⟩⟩

theorem fitK_all {kt : TypeId} {k : Ky} {kv : List (Ky × A)} (h : fitK P kt k kv = true) {M : Nat → Prop} {es : Array MapEntry} {cl : Nat} {z : List ((Ky × A) × MapEntry)} (hz : MZ w M m ρ es cl kv z) :
    k.fits P kt = true ∧ (Instr.findKey kt k.val es.toList).run P w = .ok (findZ k (z.map fun p => (p.1.1, p.2)) 0) w := by
  unfold fitK at h
  simp only [Bool.and_eq_true, List.all_eq_true] at h
  refine ⟨h.1, ?_⟩
  have := run_findKy (P := P) (w := w) h.1 (z.map fun p => (p.1.1, p.2)) (fun p hp => by obtain ⟨q, hq, rfl⟩ := List.mem_map.1 hp; exact hz.key q hq) (fun p hp => by
    obtain ⟨q, hq, rfl⟩ := List.mem_map.1 hp
    exact h.2 q.1 (hz.perm.mem_iff.1 (List.mem_map.2 ⟨q, hq, rfl⟩)))
  rw [List.map_map] at this
  rw [hz.toList]; exact this

def lookV (ok : Bool) (zv : Value) : Option (Nat × Value) → Value
  | some p => if ok = true then .tuple #[p.2, .bool true] else p.2
  | none => if ok = true then .tuple #[zv, .bool false] else zv

theorem run_lookupKy {t kt et : TypeId} {k : Ky} {ok : Bool} {es : Array MapEntry} {r : Option (Nat × Value)} {zv : Value} {x : Value} (hu : P.underlying t = some (.map kt et)) (hx : (x = .map none ∧ es = #[]) ∨ ∃ b cl, x = .map (some b) ∧ w.heap[b]? = some (.map es cl))
    (hf : k.fits P kt = true) (hfind : (Instr.findKey kt k.val es.toList).run P w = .ok r w) (hz : (zeroValue et).run P w = .ok zv w) :
    (Instr.lookup t x k.val ok).run P w = .ok (lookV ok zv r) w := by
  rcases hx with ⟨rfl, rfl⟩ | ⟨b, cl, rfl, hb⟩
  · simp only [Instr.lookup, Sem.run_bind, run_underlying hu, Result.andThen_ok, Sem.run_pure, run_checkKy _ 9995 hf, hfind]
    cases r with
    | none => cases ok <;> simp [hz, lookV]
    | some p => cases ok <;> simp [lookV]
  · simp only [Instr.lookup, Sem.run_bind, run_underlying hu, Result.andThen_ok, Sem.run_pure, run_getMap hb, run_checkKy _ 9995 hf, hfind]
    cases r with
    | none => cases ok <;> simp [hz, lookV]
    | some p => cases ok <;> simp [lookV]

theorem sd_lookup (h : SatAt M0 S0 w0 N T m ρ a w) {t : TypeId} {x ix v : A} {y iy : Value} {ok : Bool} {pre : Bool} {ups : List (Nat × R)} (hx : x.Den w (Mut M0 m ρ) m ρ y) (hix : ix.Den w (Mut M0 m ρ) m ρ iy)
    (he : effLookup P m t x ix ok = some (pre, v, ups)) (hp : pre = true) : ups = [] ∧ ∃ z, (Instr.lookup t y iy ok).run P w = .ok z w ∧ v.Den w (Mut M0 m ρ) m ρ z := by
  unfold effLookup at he
  split at he
  · rename_i kt et k hm hk
    have hu := mapT_eq hm
    have hkv := keyOf_den hk hix
    subst hkv
    split at he
    · rename_i zA hzA
      obtain ⟨zv, hz1, hz2⟩ := zeroA_run hzA w
      have fin : ∀ {es : Array MapEntry} {kv : List (Ky × A)} {cl : Nat} {z : List ((Ky × A) × MapEntry)} {b : Nat}, y = .map (some b) → w.heap[b]? = some (.map es cl) → MZ w (Mut M0 m ρ) m ρ es cl kv z → fitK P kt k kv = true →
          ∃ u, (Instr.lookup t y k.val ok).run P w = .ok u w ∧ (match kvGet k kv with | some a => okA ok a true | none => okA ok zA false).Den w (Mut M0 m ρ) m ρ u := by
        intro es kv cl z b hy hb hz hfk
        obtain ⟨hf, hfind⟩ := fitK_all hfk hz
        have hr := run_lookupKy (ok := ok) hu (.inr ⟨b, cl, hy, hb⟩) hf hfind hz1
        refine ⟨_, hr, ?_⟩
        rcases hz.find k with ⟨e1, e2⟩ | ⟨i, p, e1, e2, e3, e4⟩
        · rw [e1, e2]; exact okA_den (hz2 _ _ _ _)
        · rw [e1, e4]; exact okA_den (hz.den p (List.mem_of_getElem? e2))
      split at he
      · rename_i i
        split at he
        · rename_i fz kv st hi
          obtain ⟨b, es, cl, z, h1, h2, h3, _⟩ := mp_mz h hi
          simp only [A.Den] at hx
          have hy := (has_of hx hi (by simp)).trans h1
          have key : ups = [] ∧ pre = fitK P kt k kv ∧ v = (match kvGet k kv with | some a => okA ok a true | none => okA ok zA false) := by
            split at he <;> (simp only [Option.some.injEq, Prod.mk.injEq] at he; obtain ⟨rfl, rfl, rfl⟩ := he; rename_i hg; simp [hg])
          obtain ⟨rfl, rfl, rfl⟩ := key
          exact ⟨rfl, fin hy h2 h3 hp⟩
        · cases he
      · rename_i ks vs
        simp only [A.Den, C.Den] at hx
        obtain ⟨b, es, cl, l, hy, _, h2, h3, h4⟩ := hx
        have hlen : ks.length = (vs.map A.d).length := by
          have e1 := congrArg List.length h3.keys
          have e2 := (C.DenL_iff.1 h4).1
          simp at e1 e2 ⊢; omega
        obtain ⟨z, hz⟩ := mz_of (m := m) (ρ := ρ) (M := Mut M0 m ρ) (kv := ks.zip (vs.map A.d)) (by rw [zip_fst hlen]; exact h3) (by rw [zip_snd hlen]; exact A.DenL_map_d.2 h4)
        have key : ups = [] ∧ pre = fitK P kt k (ks.zip (vs.map A.d)) ∧ v = (match kvGet k (ks.zip (vs.map A.d)) with | some a => okA ok a true | none => okA ok zA false) := by
          split at he <;> (simp only [Option.some.injEq, Prod.mk.injEq] at he; obtain ⟨rfl, rfl, rfl⟩ := he; rename_i hg; simp [hg])
        obtain ⟨rfl, rfl, rfl⟩ := key
        exact ⟨rfl, fin hy h2 hz hp⟩
      · simp only [Option.some.injEq, Prod.mk.injEq] at he
        obtain ⟨rfl, rfl, rfl⟩ := he
        simp only [A.Den, C.Den] at hx; subst hx
        have hfind : (Instr.findKey kt k.val (#[] : Array MapEntry).toList).run P w = .ok none w := by
          have := run_findKy (P := P) (w := w) hp [] (by simp) (by simp)
          simpa [findZ] using this
        exact ⟨rfl, _, run_lookupKy (ok := ok) hu (.inl ⟨rfl, rfl⟩) hp hfind hz1, okA_den (hz2 _ _ _ _)⟩
      · cases he
    · cases he
  · cases he

/-- the world with another object at a place -/
def _root_.Go.World.putObj (w : World) (b : Nat) (o : Obj) : World := { w with heap := w.heap.setIfInBounds b o }

theorem putObj_at {b : Nat} {o o' : Obj} (h : w.heap[b]? = some o') : (w.putObj b o).heap[b]? = some o := by
  have := (Array.getElem?_eq_some_iff.1 h).1
  simp [World.putObj, this]
theorem putObj_keeps (w : World) (b : Nat) (o : Obj) : Keeps (fun k => k = b) w (w.putObj b o) :=
  ⟨rfl, rfl, rfl, by simp [World.putObj], fun k _ hk => by
    show (w.heap.setIfInBounds b o)[k]? = _
    rw [Array.getElem?_setIfInBounds_ne (fun e => hk e.symm)]⟩
theorem run_setMap {b : Nat} {es : Array MapEntry} {cl : Nat} {o : Obj} (h : w.heap[b]? = some (.map es cl)) : (setObj b o).run P w = .ok () (w.putObj b o) := by
  simp [setObj, Sem.run, h, World.putObj]

/-- a map is written -/
theorem map_write (h : SatAt M0 S0 w0 N T m ρ a w) {i b : Nat} {kv kv' : List (Ky × A)} {st st' : List (Ky × Nat)} {es es' : Array MapEntry} {cl cl' : Nat} (hi : m i = some (.mp false kv st)) (hb : ρ i = .map (some b)) (hh : w.heap[b]? = some (.map es cl))
    {z' : List ((Ky × A) × MapEntry)} (hz : MZ w (Mut M0 m ρ) m ρ es' cl' kv' z') (hst : StIs m ρ st' es'.toList cl') :
    SatAt M0 S0 w0 N T (setM m i (.mp false kv' st')) ρ a (w.putObj b (.map es' cl')) ∧ Onto m (setM m i (.mp false kv' st')) ρ ρ := by
  have hO : Onto m (setM m i (.mp false kv' st')) ρ ρ := by
    have := Onto.set (m := m) (ρ := ρ) i (.mp false kv' st') (ρ i) (fun _ _ => ⟨by rw [hi]; simp, rfl, fun fz t es l e => by rw [hi] at e; simp at e⟩)
    rwa [setH_same] at this
  refine ⟨h.write hi rfl rfl (by simp) (putObj_keeps w b _) (fun k _ e => by rw [hb, e]; rfl) ?_, hO⟩
  intro _ hst' hm
  obtain ⟨l, h1, h2⟩ := of_mz hz
  refine ⟨b, es', cl', l, hb, putObj_at hh, h1, A.DenL_mono hst' hm hO _ _ h2, by simp, StIs.mono hO fun p hp => ⟨(hst p hp).1, fun hd => ⟨fun e he => ((hst p hp).2 hd).1 e (h1.perm.mem_iff.2 he), ((hst p hp).2 hd).2⟩⟩⟩

theorem modify_map {α : Type} (f g : α → α) : ∀ (l : List α) (i : Nat), (∀ j x, l[j]? = some x → g x = if j = i then f x else x) → l.modify i f = l.map g
  | [], i, _ => by cases i <;> rfl
  | x :: l, 0, h => by
    have h0 := h 0 x rfl
    simp only [List.modify_zero_cons, List.map_cons]
    rw [h0]; simp only [if_true]
    congr 1
    have : ∀ y ∈ l, g y = y := fun y hy => by
      obtain ⟨j, hj, e⟩ := List.mem_iff_getElem.1 hy
      have := h (j + 1) y (by simp [hj, e])
      simpa using this
    rw [List.map_congr_left this]; simp
  | x :: l, i + 1, h => by
    have h0 := h 0 x rfl
    simp only [List.modify_succ_cons, List.map_cons]
    rw [h0]; simp only [Nat.zero_ne_add_one, if_false]
    rw [modify_map f g l i fun j y hy => by have := h (j + 1) y (by simpa using hy); simpa using this]

theorem nodup_idx {α β : Type} {f : α → β} {l : List α} (hn : (l.map f).Nodup) {i j : Nat} {x y : α} (hi : l[i]? = some x) (hj : l[j]? = some y) (e : f x = f y) : i = j := by
  have hi' := List.getElem?_eq_some_iff.1 hi
  have hj' := List.getElem?_eq_some_iff.1 hj
  obtain ⟨h1, h2⟩ := hi'
  obtain ⟨h3, h4⟩ := hj'
  have := (List.getElem_inj (xs := l.map f) (h₀ := by simpa using h1) (h₁ := by simpa using h3) hn).1 (by simp [h2, h4, e])
  exact this

/-- the entry of a key is set -/
theorem MZ.set {M : Nat → Prop} {es : Array MapEntry} {cl : Nat} {kv : List (Ky × A)} {z : List ((Ky × A) × MapEntry)} (hz : MZ w M m ρ es cl kv z) {k : Ky} {i : Nat} {p : (Ky × A) × MapEntry} (hp : z[i]? = some p) (hk : p.1.1 = k) {x : A} {v : Value} (hv : x.Den w M m ρ v) :
    MZ w M m ρ (es.modify i fun e => { e with key := k.val, val := v }) cl (kv.map fun q => if q.1 = k then (k, x) else q) (z.map fun q => if q.1.1 = k then ((k, x), { q.2 with key := k.val, val := v }) else q) := by
  have hg : ∀ q : (Ky × A) × MapEntry, (if q.1.1 = k then (((k, x), { q.2 with key := k.val, val := v }) : (Ky × A) × MapEntry) else q).2.born = q.2.born := by intro q; split <;> rfl
  have hg1 : ∀ q : (Ky × A) × MapEntry, (if q.1.1 = k then (((k, x), { q.2 with key := k.val, val := v }) : (Ky × A) × MapEntry) else q).1.1 = q.1.1 := by intro q; split <;> simp_all
  refine ⟨?_, ?_, ?_, ?_, ?_, ?_, ?_⟩
  · rw [Array.toList_modify, hz.toList]
    rw [show (z.map (·.2)).modify i (fun e => { e with key := k.val, val := v }) = (z.modify i fun q => (q.1, { q.2 with key := k.val, val := v })).map (·.2) by
      apply List.ext_getElem?; intro j; simp only [List.getElem?_modify, List.getElem?_map]; cases z[j]? <;> simp; split <;> rfl]
    rw [modify_map _ (fun q => if q.1.1 = k then (q.1, { q.2 with key := k.val, val := v }) else q) z i fun j q hq => by
      by_cases e : j = i
      · subst e; rw [hp] at hq; cases hq; simp [hk]
      · have : q.1.1 ≠ k := fun e2 => e (nodup_idx hz.nodup hq hp (e2.trans hk.symm))
        simp [e, this]]
    rw [List.map_map, List.map_map]
    exact List.map_congr_left fun q _ => by simp only [Function.comp_apply]; split <;> rfl
  · have := hz.perm.map (fun q => if q.1 = k then (k, x) else q)
    rw [List.map_map] at this ⊢
    refine (List.Perm.of_eq (List.map_congr_left fun q _ => ?_)).trans this
    simp only [Function.comp_apply]; split <;> rfl
  · intro q hq
    obtain ⟨q0, hq0, rfl⟩ := List.mem_map.1 hq
    split
    · rfl
    · exact hz.key q0 hq0
  · intro q hq
    obtain ⟨q0, hq0, rfl⟩ := List.mem_map.1 hq
    split
    · exact hv
    · exact hz.den q0 hq0
  · rw [List.map_map]; exact (List.map_congr_left (fun q _ => hg1 q) : _ = z.map (·.1.1)) ▸ hz.nodup
  · rw [List.map_map]; exact (List.map_congr_left (fun q _ => hg q) : _ = z.map (·.2.born)) ▸ hz.born
  · intro q hq
    obtain ⟨q0, hq0, rfl⟩ := List.mem_map.1 hq
    rw [hg]; exact hz.old q0 hq0

/-- a new entry -/
theorem MZ.push {M : Nat → Prop} {es : Array MapEntry} {cl : Nat} {kv : List (Ky × A)} {z : List ((Ky × A) × MapEntry)} (hz : MZ w M m ρ es cl kv z) {k : Ky} (hk : ∀ p ∈ z, k ≠ p.1.1) {x : A} {v : Value} (hv : x.Den w M m ρ v) :
    MZ w M m ρ (es.push { key := k.val, val := v, born := cl }) (cl + 1) (kv ++ [(k, x)]) (z ++ [((k, x), { key := k.val, val := v, born := cl })]) := by
  refine ⟨?_, ?_, ?_, ?_, ?_, ?_, ?_⟩
  · simp [hz.toList]
  · simpa using hz.perm.append_right [(k, x)]
  · intro p hp; simp at hp; rcases hp with hp | rfl
    · exact hz.key p hp
    · rfl
  · intro p hp; simp at hp; rcases hp with hp | rfl
    · exact hz.den p hp
    · exact hv
  · rw [List.map_append, List.nodup_append]
    refine ⟨hz.nodup, by simp, ?_⟩
    intro a ha b hb e
    simp at hb; subst hb
    obtain ⟨p, hp, rfl⟩ := List.mem_map.1 ha
    exact hk p hp e.symm
  · rw [List.map_append, List.nodup_append]
    refine ⟨hz.born, by simp, ?_⟩
    intro a ha b hb e
    simp at hb; subst hb
    obtain ⟨p, hp, rfl⟩ := List.mem_map.1 ha
    have := hz.old p hp; omega
  · intro p hp; simp at hp; rcases hp with hp | rfl
    · have := hz.old p hp; omega
    · simp

theorem sameBits_KC (n : Nat) (c : KC) : Instr.sameBits (n + 1) c.val c.val = true := by
  cases c <;> simp [KC.val, Instr.sameBits, beq_toListBytes]
theorem sameBits_Ky (n : Nat) (k : Ky) : Instr.sameBits (n + 2) k.val k.val = true := by
  cases k with
  | one c => exact sameBits_KC (n + 1) c
  | agg l =>
    simp only [Ky.val, Instr.sameBits, Bool.and_eq_true, List.all_eq_true]
    refine ⟨by simp, ?_⟩
    intro p hp
    obtain ⟨x, y⟩ := p
    have : x = y ∧ x ∈ l.map KC.val := by
      have h1 := List.of_mem_zip hp
      have : ∀ {l : List Value} {x y : Value}, (x, y) ∈ l.zip l → x = y := by
        intro l
        induction l with
        | nil => simp
        | cons a r ih => intro x y h; simp at h; rcases h with ⟨rfl, rfl⟩ | h; rfl; exact ih h
      exact ⟨this (by simpa using hp), by simpa using h1.1⟩
    obtain ⟨rfl, h2⟩ := this
    obtain ⟨c, _, rfl⟩ := List.mem_map.1 h2
    exact sameBits_KC n c

theorem Ky.val_inj {a b : Ky} (h : a.val = b.val) : a = b := by
  have kc : ∀ {a b : KC}, a.val = b.val → a = b := by
    intro a b h
    cases a <;> cases b <;> simp [KC.val] at h <;> simp_all
  cases a <;> cases b
  · simp only [Ky.val] at h; rw [kc h]
  · rename_i c l; cases c <;> simp [Ky.val, KC.val] at h
  · rename_i l c; cases c <;> simp [Ky.val, KC.val] at h
  · rename_i l1 l2
    simp only [Ky.val, Value.agg.injEq] at h
    have h' : l1.map KC.val = l2.map KC.val := by simpa using h
    congr 1
    exact (List.map_inj_right (fun a b => kc)).1 h'
end
end Go.Pv

namespace Go.Pv
open Go.RowKit
set_option linter.unusedVariables false
set_option linter.unusedSimpArgs false
set_option linter.constructorNameAsVariable false

section
variable {M0 S0 : Nat → Prop} {w0 : World} {N : Fr} {T : Nat → A} {m : Mem} {ρ : Nat → Value} {a : Act} {w : World} {P : Program}

theorem stIs_set {st : List (Ky × Nat)} {es : Array MapEntry} {k : Ky} {i : Nat} {v : Value} {M : Nat → Prop} {cl : Nat} {kv : List (Ky × A)} {z : List ((Ky × A) × MapEntry)} (hz : MZ w M m ρ es cl kv z) {p : (Ky × A) × MapEntry} (hp : z[i]? = some p) (hk : p.1.1 = k)
    {c : Nat} (h : StIs m ρ st es.toList c) : StIs m ρ st (es.modify i fun e => { e with key := k.val, val := v }).toList c := by
  refine fun q hq => ⟨(h q hq).1, fun hd => ⟨fun e he hek => ?_, ((h q hq).2 hd).2⟩⟩
  obtain ⟨j, hj⟩ := List.mem_iff_getElem?.1 he
  rw [Array.toList_modify, List.getElem?_modify] at hj
  have hpk : p.2.key = k.val := by rw [← hk]; exact hz.key p (List.mem_of_getElem? hp)
  by_cases e : i = j
  · subst e
    have h1 : es.toList[i]? = some p.2 := by rw [hz.toList]; simp [hp]
    rw [h1] at hj
    simp at hj
    rw [← hj] at hek ⊢
    exact ((h q hq).2 hd).1 p.2 (List.mem_of_getElem? h1) (hpk.trans hek)
  · simp [e] at hj
    exact ((h q hq).2 hd).1 _ (List.mem_of_getElem? (by simpa using hj)) hek

theorem stIs_push {st : List (Ky × Nat)} {es : Array MapEntry} {k : Ky} {v : Value} {b : Nat} {c : Nat} (h : StIs m ρ st es.toList c) : StIs m ρ (st.filter fun p => p.1 != k && p.1 != .agg []) (es.push { key := k.val, val := v, born := b }).toList (c + 1) := by
  intro q hq
  obtain ⟨hq1, hq2⟩ := List.mem_filter.1 hq
  refine ⟨(h q hq1).1, fun hd => ⟨fun e he hek => ?_, Nat.le_succ_of_le ((h q hq1).2 hd).2.1, fun e => by rw [e] at hq2; simp at hq2⟩⟩
  simp at he
  rcases he with he | rfl
  · exact ((h q hq1).2 hd).1 e (by simpa using he) hek
  · have := Ky.val_inj hek; simp [this] at hq2

theorem stIs_sub {st st' : List (Ky × Nat)} {l l' : List MapEntry} {c : Nat} (h : StIs m ρ st l c) (hs : ∀ p ∈ st', p ∈ st) (hl : ∀ e ∈ l', e ∈ l) : StIs m ρ st' l' c :=
  fun p hp => ⟨(h p (hs p hp)).1, fun hd => ⟨fun e he => ((h p (hs p hp)).2 hd).1 e (hl e he), ((h p (hs p hp)).2 hd).2⟩⟩

theorem run_mapUpdateKy {t kt et : TypeId} {k : Ky} {es : Array MapEntry} {cl b : Nat} {r : Option (Nat × Value)} {v : Value} (hu : P.underlying t = some (.map kt et)) (hb : w.heap[b]? = some (.map es cl)) (hf : k.fits P kt = true) (hfind : (Instr.findKey kt k.val es.toList).run P w = .ok r w)
    (hr : ∀ i u, r = some (i, u) → ∃ e, es[i]? = some e ∧ e.key = k.val) :
    (Instr.mapUpdate t (.map (some b)) k.val v).run P w = .ok () (w.putObj b (match (generalizing := false) r with | some p => .map (es.modify p.1 fun e => { e with key := k.val, val := v }) cl | none => .map (es.push { key := k.val, val := v, born := cl }) (cl + 1))) := by
  simp only [Instr.mapUpdate, Sem.run_bind, run_underlying hu, Result.andThen_ok, run_getMap hb, run_checkKy _ 9995 hf, hfind]
  cases r with
  | none => exact run_setMap hb
  | some p =>
    obtain ⟨e, h1, h2⟩ := hr p.1 p.2 rfl
    simp only [h1, Option.map_some, Option.getD_some, h2, Instr.keyThatStays, sameBits_Ky 9998, if_true, Sem.run_pure, Result.andThen_ok]
    exact run_setMap hb

theorem find_entry {M : Nat → Prop} {es : Array MapEntry} {cl : Nat} {kv : List (Ky × A)} {z : List ((Ky × A) × MapEntry)} (hz : MZ w M m ρ es cl kv z) {k : Ky} : ∀ i u, findZ k (z.map fun p => (p.1.1, p.2)) 0 = some (i, u) → ∃ e, es[i]? = some e ∧ e.key = k.val := by
  intro i u hf
  obtain ⟨p, h1, _, h2, _⟩ := findZ_some hf
  refine ⟨p.2, ?_, by rw [← h2]; exact hz.key p (List.mem_of_getElem? h1)⟩
  have h1' : z[i]? = some p := by simpa using h1
  have : es.toList[i]? = some p.2 := by rw [hz.toList, List.getElem?_map, h1']; rfl
  simpa using this

theorem sd_mapSet (h : SatAt M0 S0 w0 N T m ρ a w) {t : TypeId} {x ix v u : A} {y iy vv : Value} {pre : Bool} {ups : List (Nat × R)} (hx : x.Den w (Mut M0 m ρ) m ρ y) (hix : ix.Den w (Mut M0 m ρ) m ρ iy) (hv : v.Den w (Mut M0 m ρ) m ρ vv)
    (he : effMapSet P m t x ix v = some (pre, u, ups)) (hp : pre = true) : ∃ w', (Instr.mapUpdate t y iy vv).run P w = .ok () w' ∧ SatAt M0 S0 w0 N T (applyU m ups) ρ a w' ∧ Onto m (applyU m ups) ρ ρ ∧ u = .x := by
  unfold effMapSet at he
  split at he
  · rename_i kt et k i hm hk
    have hu := mapT_eq hm
    have hkv := keyOf_den hk hix
    subst hkv
    split at he
    · rename_i kv st hi
      obtain ⟨b, es, cl, z, h1, h2, h3, h4⟩ := mp_mz h hi
      simp only [A.Den] at hx
      have hy := (has_of hx hi (by simp)).trans h1
      subst hy
      have hpre : pre = fitK P kt k kv := by
        split at he <;> (simp only [Option.some.injEq, Prod.mk.injEq] at he; exact he.1.symm)
      rw [hpre] at hp
      obtain ⟨hf, hfind⟩ := fitK_all (w := w) hp h3
      have hrun := run_mapUpdateKy (v := vv) hu h2 hf hfind (find_entry h3)
      rcases h3.find k with ⟨e1, e2⟩ | ⟨j, p, e1, e2, e3, e4⟩
      · rw [e2] at he
        simp only [Option.some.injEq, Prod.mk.injEq] at he
        obtain ⟨_, rfl, rfl⟩ := he
        rw [e1] at hrun
        have hno : ∀ p ∈ z, k ≠ p.1.1 := findZ_none e1
        obtain ⟨g1, g2⟩ := map_write h hi h1 h2 (h3.push hno hv) (stIs_push h4)
        exact ⟨_, hrun, g1, g2, rfl⟩
      · rw [e4] at he
        simp only [Option.some.injEq, Prod.mk.injEq] at he
        obtain ⟨_, rfl, rfl⟩ := he
        rw [e1] at hrun
        obtain ⟨g1, g2⟩ := map_write h hi h1 h2 (h3.set e2 e3 hv) (stIs_set h3 e2 e3 h4)
        exact ⟨_, hrun, g1, g2, rfl⟩
    · cases he
  · cases he

theorem filter_eraseIdx {α : Type} (f : α → Bool) : ∀ (l : List α) (i : Nat), (∀ j x, l[j]? = some x → f x = decide (j ≠ i)) → l.eraseIdx i = l.filter f
  | [], i, _ => by simp
  | x :: l, 0, h => by
    have h0 := h 0 x rfl
    have : ∀ y ∈ l, f y = true := fun y hy => by
      obtain ⟨j, hj⟩ := List.mem_iff_getElem?.1 hy
      have := h (j + 1) y (by simpa using hj)
      simpa using this
    simp only [List.eraseIdx_cons_zero, List.filter_cons, h0]
    simp
    exact (List.filter_eq_self.2 this).symm
  | x :: l, i + 1, h => by
    have h0 := h 0 x rfl
    simp only [List.eraseIdx_cons_succ, List.filter_cons, h0]
    rw [filter_eraseIdx f l i fun j y hy => by have := h (j + 1) y (by simpa using hy); simpa using this]
    simp

theorem erase_map {α β : Type} (f : α → β) : ∀ (l : List α) (i : Nat), (l.map f).eraseIdx i = (l.eraseIdx i).map f
  | [], i => by simp
  | x :: l, 0 => by simp
  | x :: l, i + 1 => by simp [erase_map f l i]

theorem MZ.erase {M : Nat → Prop} {es : Array MapEntry} {cl : Nat} {kv : List (Ky × A)} {z : List ((Ky × A) × MapEntry)} (hz : MZ w M m ρ es cl kv z) {k : Ky} {i : Nat} {p : (Ky × A) × MapEntry} (hp : z[i]? = some p) (hk : p.1.1 = k) :
    MZ w M m ρ (es.eraseIdxIfInBounds i) cl (kv.filter fun q => q.1 != k) (z.filter fun q => q.1.1 != k) := by
  have hsub : ∀ q ∈ z.filter (fun q => q.1.1 != k), q ∈ z := fun q hq => (List.mem_filter.1 hq).1
  refine ⟨?_, ?_, fun q hq => hz.key q (hsub q hq), fun q hq => hz.den q (hsub q hq), ?_, ?_, fun q hq => hz.old q (hsub q hq)⟩
  · have hi : i < es.size := by
      have h1 : es.toList[i]? = some p.2 := by rw [hz.toList]; simp [hp]
      have := (List.getElem?_eq_some_iff.1 h1).1
      simpa using this
    rw [Array.eraseIdxIfInBounds, dif_pos hi, Array.toList_eraseIdx, hz.toList]
    rw [← filter_eraseIdx (fun q => q.1.1 != k) z i fun j q hq => by
      by_cases e : j = i
      · subst e; rw [hp] at hq; cases hq; simp [hk]
      · have : q.1.1 ≠ k := fun e2 => e (nodup_idx hz.nodup hq hp (e2.trans hk.symm))
        simp [e, this]]
    exact erase_map _ z i
  · have := hz.perm.filter (fun q => q.1 != k)
    rw [List.filter_map] at this
    exact this
  · exact hz.nodup.sublist ((List.filter_sublist).map _)
  · exact hz.born.sublist ((List.filter_sublist).map _)

theorem sd_delete (h : SatAt M0 S0 w0 N T m ρ a w) {t t' ty : TypeId} {x ix u : A} {y iy : Value} {pre : Bool} {ups : List (Nat × R)} (hx : x.Den w (Mut M0 m ρ) m ρ y) (hix : ix.Den w (Mut M0 m ρ) m ρ iy)
    (he : effDelete P m t x ix = some (pre, u, ups)) (hp : pre = true) : ∃ w', (Builtin.delete_ #[t, t'] ty #[y, iy]).run P w = .ok (.tuple #[]) w' ∧ SatAt M0 S0 w0 N T (applyU m ups) ρ a w' ∧ Onto m (applyU m ups) ρ ρ ∧ u = .tup [] := by
  unfold effDelete at he
  split at he
  · rename_i kt et k i hm hk
    have hu := mapT_eq hm
    have hkv := keyOf_den hk hix
    subst hkv
    split at he
    · rename_i kv st hi
      simp only [Option.some.injEq, Prod.mk.injEq] at he
      obtain ⟨rfl, rfl, rfl⟩ := he
      obtain ⟨b, es, cl, z, h1, h2, h3, h4⟩ := mp_mz h hi
      simp only [A.Den] at hx
      have hy := (has_of hx hi (by simp)).trans h1
      subst hy
      obtain ⟨hf, hfind⟩ := fitK_all (w := w) hp h3
      have hrun : ∃ es', (Builtin.delete_ #[t, t'] ty #[.map (some b), k.val]).run P w = .ok (.tuple #[]) (w.putObj b (.map es' cl)) ∧ MZ w (Mut M0 m ρ) m ρ es' cl (kv.filter fun q => q.1 != k) (z.filter fun q => q.1.1 != k) ∧ ∀ e ∈ es'.toList, e ∈ es.toList := by
        rcases h3.find k with ⟨e1, e2⟩ | ⟨j, p, e1, e2, e3, e4⟩
        · refine ⟨es, ?_, ?_, fun e he => he⟩
          · simp only [Builtin.delete_, List.getElem?_toArray, List.getElem?_cons_zero, List.getElem?_cons_succ, Sem.run_bind, run_underlying hu, Result.andThen_ok, run_getMap h2, run_checkKy _ 9995 hf, hfind, e1, run_setMap h2, Sem.run_pure]
          · have hno : ∀ p ∈ z, k ≠ p.1.1 := findZ_none e1
            have f1 : z.filter (fun q => q.1.1 != k) = z := List.filter_eq_self.2 fun q hq => by simpa using (hno q hq).symm
            have f2 : kv.filter (fun q => q.1 != k) = kv := List.filter_eq_self.2 fun q hq => by
              have := kvGet_none e2 q hq; simpa using this.symm
            rw [f1, f2]; exact h3
        · refine ⟨_, ?_, h3.erase e2 e3, ?_⟩
          · simp only [Builtin.delete_, List.getElem?_toArray, List.getElem?_cons_zero, List.getElem?_cons_succ, Sem.run_bind, run_underlying hu, Result.andThen_ok, run_getMap h2, run_checkKy _ 9995 hf, hfind, e1, run_setMap h2, Sem.run_pure]
          · intro e he
            rw [(h3.erase e2 e3).toList] at he
            obtain ⟨q, hq, rfl⟩ := List.mem_map.1 he
            rw [h3.toList]; exact List.mem_map.2 ⟨q, (List.mem_filter.1 hq).1, rfl⟩
      obtain ⟨es', hr, hz', hsub⟩ := hrun
      obtain ⟨g1, g2⟩ := map_write h hi h1 h2 hz' (stIs_sub (st' := st.filter fun p => p.1 != k) h4 (fun p hp => (List.mem_filter.1 hp).1) hsub)
      exact ⟨_, hr, g1, g2, rfl⟩
    · cases he
  · rename_i kt et k hm hk
    have hu := mapT_eq hm
    have hkv := keyOf_den hk hix
    subst hkv
    simp only [Option.some.injEq, Prod.mk.injEq] at he
    obtain ⟨rfl, rfl, rfl⟩ := he
    simp only [A.Den, C.Den] at hx; subst hx
    refine ⟨w, ?_, h, Onto.refl m ρ, rfl⟩
    simp only [Builtin.delete_, List.getElem?_toArray, List.getElem?_cons_zero, List.getElem?_cons_succ, Sem.run_bind, run_underlying hu, Result.andThen_ok, run_checkKy _ 9995 hp, Sem.run_pure]
  · cases he
end
end Go.Pv

namespace Go.Pv
open Go.RowKit
set_option linter.unusedVariables false
set_option linter.unusedSimpArgs false
set_option linter.constructorNameAsVariable false

def effMapEntry (P : Program) (m : Mem) (d : Nat) (t : TypeId) (x ix : A) : Option E :=
  match mapT P t, keyOf ix, x with
  | some (kt, et), some k, .h i => match m i, zeroA P et with
    | some (.mp false kv st), some z => match kvGet k kv with
      | some a => some (fitK P kt k kv && freeB m d && decide (k ≠ .agg []), .tup [a, .h d], [(d, .sta), (i, .mp false kv ((k, d) :: st))])
      | none => some (fitK P kt k kv && freeB m d && decide (k ≠ .agg []), .tup [z, .h d], [(d, .sta), (i, .mp false (kv ++ [(k, z)]) ((k, d) :: st.filter fun p => p.1 != k && p.1 != .agg []))])
    | _, _ => none
  | _, _, _ => none

def effEntryStore (m : Mem) (x s a : A) : Option E :=
  match x, s with
  | .h i, .h sid => match m i, m sid with
    | some (.mp false kv st), some .sta => match st.find? fun p => p.2 == sid with
      | some (k, _) => match kvGet k kv with
        | some _ => some (true, .x, [(i, .mp false (kv.map fun p => if p.1 = k then (k, a) else p) st)])
        | none => none
      | none => none
    | _, _ => none
  | _, _ => none

section
variable {M0 S0 : Nat → Prop} {w0 : World} {N : Fr} {T : Nat → A} {m : Mem} {ρ : Nat → Value} {a : Act} {w : World} {P : Program}

theorem MZ.mono {w' : World} {M M' : Nat → Prop} {m' : Mem} {ρ' : Nat → Value} (hs : Stays M w w') (hM : ∀ b, M' b → b < w.heap.size → M b) (hO : Onto m m' ρ ρ') {es : Array MapEntry} {cl : Nat} {kv : List (Ky × A)} {z : List ((Ky × A) × MapEntry)} (h : MZ w M m ρ es cl kv z) : MZ w' M' m' ρ' es cl kv z :=
  ⟨h.toList, h.perm, h.key, fun p hp => A.Den_mono hs hM hO _ _ (h.den p hp), h.nodup, h.born, h.old⟩

/-- a new stamp -/
theorem SatAt.stamp (h : SatAt M0 S0 w0 N T m ρ a w) (hlt : ∀ b, M0 b → b < w0.heap.size) {d : Nat} (hd : m d = none) (n : Nat) :
    SatAt M0 S0 w0 N T (setM m d .sta) (setH ρ d (.int .i64 n)) a w ∧ Onto m (setM m d .sta) ρ (setH ρ d (.int .i64 n)) ∧ ∀ b, Mut M0 (setM m d .sta) (setH ρ d (.int .i64 n)) b → Mut M0 m ρ b := by
  refine ⟨h.newres hlt (Keeps.refl _ w) hd rfl (by simp [blk]) (fun _ _ _ => ⟨n, rfl⟩), Onto.new _ _ hd, ?_⟩
  rintro b (e | ⟨i, r, h1, h2, h3⟩)
  · exact .inl e
  · by_cases e : i = d
    · subst e; simp [setH, blk] at h3
    · exact .inr ⟨i, r, by simpa [setM, e] using h1, h2, by simpa [setH, e] using h3⟩

theorem modify_id {es : Array MapEntry} {i : Nat} {f : MapEntry → MapEntry} (h : ∀ e, es[i]? = some e → f e = e) : es.modify i f = es := by
  apply Array.ext'
  rw [Array.toList_modify]
  apply List.ext_getElem?
  intro j
  rw [List.getElem?_modify]
  by_cases e : i = j
  · subst e
    cases hh : es.toList[i]? with
    | none => simp
    | some x => simp; exact h x (by simpa using hh)
  · simp [e]

theorem sd_mapEntry (h : SatAt M0 S0 w0 N T m ρ a w) (hlt : ∀ b, M0 b → b < w0.heap.size) {d : Nat} {t : TypeId} {x ix u : A} {y iy : Value} {pre : Bool} {ups : List (Nat × R)} (hx : x.Den w (Mut M0 m ρ) m ρ y) (hix : ix.Den w (Mut M0 m ρ) m ρ iy)
    (he : effMapEntry P m d t x ix = some (pre, u, ups)) (hp : pre = true) : ∃ v w' ρ', (Instr.mapEntry t y iy).run P w = .ok v w' ∧ SatAt M0 S0 w0 N T (applyU m ups) ρ' a w' ∧ Onto m (applyU m ups) ρ ρ' ∧ u.Den w' (Mut M0 (applyU m ups) ρ') (applyU m ups) ρ' v := by
  unfold effMapEntry at he
  split at he
  · rename_i kt et k i hm hk
    have hu := mapT_eq hm
    have hkv := keyOf_den hk hix
    subst hkv
    split at he
    · rename_i kv st zA hi hzA
      obtain ⟨zv, hz1, hz2⟩ := zeroA_run hzA w
      obtain ⟨b, es, cl, z, h1, h2, h3, h4⟩ := mp_mz h hi
      simp only [A.Den] at hx
      have hy := (has_of hx hi (by simp)).trans h1
      subst hy
      have hpre : pre = (fitK P kt k kv && freeB m d && decide (k ≠ .agg [])) := by
        split at he <;> (simp only [Option.some.injEq, Prod.mk.injEq] at he; exact he.1.symm)
      rw [hpre, Bool.and_eq_true, Bool.and_eq_true] at hp
      obtain ⟨hp, hkne⟩ := hp
      have hkne := of_decide_eq_true hkne
      have hd := freeB_eq hp.2
      have hid : i ≠ d := by rintro rfl; rw [hi] at hd; cases hd
      obtain ⟨hf, hfind⟩ := fitK_all (w := w) hp.1 h3
      have key : ∀ (n : Nat) {kv' : List (Ky × A)} {es' : Array MapEntry} {cl' : Nat} {z' : List ((Ky × A) × MapEntry)} {st' : List (Ky × Nat)}, MZ w (Mut M0 m ρ) m ρ es' cl' kv' z' → StIs m ρ st' es'.toList cl' → (∀ e ∈ es'.toList, e.key = k.val → e.born = n) → n ≤ cl' →
          SatAt M0 S0 w0 N T (setM (setM m d .sta) i (.mp false kv' ((k, d) :: st'))) (setH ρ d (.int .i64 n)) a (w.putObj b (.map es' cl')) ∧ Onto m (setM (setM m d .sta) i (.mp false kv' ((k, d) :: st'))) ρ (setH ρ d (.int .i64 n)) := by
        intro n kv' es' cl' z' st' hz' hst' hn hnc
        obtain ⟨g1, g2, g3⟩ := h.stamp hlt hd n
        have hi' : setM m d .sta i = some (.mp false kv st) := by simp [setM, hid, hi]
        have hst2 : StIs (setM m d .sta) (setH ρ d (.int .i64 n)) ((k, d) :: st') es'.toList cl' := by
          intro p hp
          simp only [List.mem_cons] at hp
          rcases hp with rfl | hp
          · exact ⟨by simp [setM], fun _ => ⟨fun e he hk => by rw [hn e he hk]; simp [stampOf, setH], by simpa [stampOf, setH] using hnc, fun e => absurd e hkne⟩⟩
          · exact StIs.mono g2 hst' p hp
        obtain ⟨k1, k2⟩ := map_write g1 hi' (by simp [setH, hid, h1]) h2 (hz'.mono (Stays.refl _ w) (fun b hb _ => g3 b hb) g2) hst2
        exact ⟨k1, g2.trans k2⟩
      rcases h3.find k with ⟨e1, e2⟩ | ⟨j, p, e1, e2, e3, e4⟩
      · rw [e2] at he
        simp only [Option.some.injEq, Prod.mk.injEq] at he
        obtain ⟨_, rfl, rfl⟩ := he
        rw [e1] at hfind
        have hno : ∀ p ∈ z, k ≠ p.1.1 := findZ_none e1
        have hz' := h3.push hno (hz2 w (Mut M0 m ρ) m ρ)
        obtain ⟨k1, k2⟩ := key cl hz' (stIs_push h4) (fun e he hek => by
          rw [hz'.toList] at he
          obtain ⟨q, hq, rfl⟩ := List.mem_map.1 he
          simp at hq
          rcases hq with hq | rfl
          · exact absurd (Ky.val_inj (by rw [← hek]; exact (h3.key q hq))) (fun e => hno q hq e)
          · rfl) (by omega)
        refine ⟨.tuple #[zv, goInt cl], _, _, ?_, k1, k2, ?_⟩
        · simp only [Instr.mapEntry, Sem.run_bind, run_underlying hu, Result.andThen_ok, run_getMap h2, run_checkKy _ 9995 hf, hfind, hz1, run_setMap h2, Sem.run_pure]
        · simp only [applyU, A.Den]
          exact ⟨_, rfl, by simp only [A.DenL]; exact ⟨_, _, rfl, hz2 _ _ _ _, _, _, rfl, by simp only [A.Den]; exact ⟨by simp [setM]; split <;> simp, fun _ => by simp [setH, goInt]⟩, rfl⟩⟩
      · rw [e4] at he
        simp only [Option.some.injEq, Prod.mk.injEq] at he
        obtain ⟨_, rfl, rfl⟩ := he
        rw [e1] at hfind
        have hpm := List.mem_of_getElem? e2
        have hej : es[j]? = some p.2 := by
          have : es.toList[j]? = some p.2 := by rw [h3.toList]; simp [e2]
          simpa using this
        have hpk : p.2.key = k.val := by rw [← e3]; exact h3.key p hpm
        obtain ⟨k1, k2⟩ := key p.2.born h3 h4 (fun e he hek => by
          rw [h3.toList] at he
          obtain ⟨q, hq, rfl⟩ := List.mem_map.1 he
          have : q.1.1 = p.1.1 := Ky.val_inj (by rw [← h3.key q hq, hek, e3])
          obtain ⟨jq, hjq⟩ := List.mem_iff_getElem?.1 hq
          have := nodup_idx h3.nodup hjq e2 this
          subst this
          rw [e2] at hjq; cases hjq; rfl) (Nat.le_of_lt (h3.old p hpm))
        refine ⟨.tuple #[p.2.val, goInt p.2.born], _, _, ?_, k1, k2, ?_⟩
        · have hmod : es.modify j (fun e => { e with key := k.val }) = es := modify_id fun e he => by rw [hej] at he; cases he; rw [← hpk]
          simp only [Instr.mapEntry, Sem.run_bind, run_underlying hu, Result.andThen_ok, run_getMap h2, run_checkKy _ 9995 hf, hfind, hej, Option.map_some, Option.getD_some, hpk, Instr.keyThatStays, sameBits_Ky 9998, if_true, Sem.run_pure, hmod, run_setMap h2]
        · simp only [applyU, A.Den]
          have hden : A.Den (w.putObj b (.map es cl)) (Mut M0 (setM (setM m d .sta) i (.mp false kv ((k, d) :: st))) (setH ρ d (.int .i64 p.2.born))) (setM (setM m d .sta) i (.mp false kv ((k, d) :: st))) (setH ρ d (.int .i64 p.2.born)) p.1.2 p.2.val := by
            have hmu : ∀ c, Mut M0 (setM (setM m d .sta) i (.mp false kv ((k, d) :: st))) (setH ρ d (.int .i64 p.2.born)) c → c < w.heap.size → Mut M0 m ρ c := by
              rintro c (e | ⟨i', r, q1, q2, q3⟩) _
              · exact .inl e
              · by_cases ei : i' = i
                · subst ei; exact .inr ⟨i', _, hi, rfl, by simpa [setH, hid] using q3⟩
                · by_cases ed : i' = d
                  · subst ed; simp [setH, blk] at q3
                  · exact .inr ⟨i', r, by simpa [setM, ei, ed] using q1, q2, by simpa [setH, ed] using q3⟩
            refine A.Den_mono ?_ hmu k2 _ _ (h3.den p hpm)
            exact (putObj_keeps w b _).stays fun c _ e => .inr ⟨i, _, hi, rfl, by rw [h1, e]; rfl⟩
          exact ⟨_, rfl, by simp only [A.DenL]; exact ⟨_, _, rfl, hden, _, _, rfl, by simp only [A.Den]; exact ⟨by simp [setM]; split <;> simp, fun _ => by simp [setH, goInt]⟩, rfl⟩⟩
    · cases he
  · cases he

theorem sd_entryStore (h : SatAt M0 S0 w0 N T m ρ a w) {t : TypeId} {x s v u : A} {y sy vv : Value} {pre : Bool} {ups : List (Nat × R)} (hx : x.Den w (Mut M0 m ρ) m ρ y) (hs : s.Den w (Mut M0 m ρ) m ρ sy) (hv : v.Den w (Mut M0 m ρ) m ρ vv)
    (he : effEntryStore m x s v = some (pre, u, ups)) : ∃ w', (Instr.entryStore t y sy vv).run P w = .ok () w' ∧ SatAt M0 S0 w0 N T (applyU m ups) ρ a w' ∧ Onto m (applyU m ups) ρ ρ ∧ u = .x := by
  unfold effEntryStore at he
  split at he
  · rename_i i sid
    split at he
    · rename_i kv st hi hsi
      split at he
      · rename_i k sid' hfi
        split at he
        · rename_i a0 hg
          simp only [Option.some.injEq, Prod.mk.injEq] at he
          obtain ⟨rfl, rfl, rfl⟩ := he
          obtain ⟨b, es, cl, z, h1, h2, h3, h4⟩ := mp_mz h hi
          simp only [A.Den] at hx hs
          have hy := (has_of hx hi (by simp)).trans h1
          subst hy
          have hsy := has_of hs hsi (by simp)
          obtain ⟨n, hn⟩ := h.res sid _ hsi
          rw [hn] at hsy; subst hsy
          have hmem := List.mem_of_find?_eq_some hfi
          have hsid : sid' = sid := by have := List.find?_some hfi; simpa using this
          subst hsid
          have hst := has_of (h4 _ hmem) hsi (by simp)
          rcases h3.find k with ⟨_, e2⟩ | ⟨j, p, e1, e2, e3, e4⟩
          · rw [e2] at hg; cases hg
          have hpm := List.mem_of_getElem? e2
          have hpk : p.2.key = k.val := by rw [← e3]; exact h3.key p hpm
          have hej : es.toList[j]? = some p.2 := by rw [h3.toList]; simp [e2]
          have hbn : p.2.born = n := by
            have := hst.1 p.2 (List.mem_of_getElem? hej) hpk
            rw [this]; simp [stampOf, hn]
          have hidx : es.findIdx? (fun e => (e.born : Int) == (n : Int)) = some j := by
            have htl : es.findIdx? (fun e => (e.born : Int) == (n : Int)) = es.toList.findIdx? (fun e => (e.born : Int) == (n : Int)) := by
              conv => lhs; rw [← Array.toArray_toList (xs := es)]
              exact List.findIdx?_toArray _ _
            rw [htl, List.findIdx?_eq_some_iff_getElem]
            have hjl := (List.getElem?_eq_some_iff.1 hej).1
            have hjv := (List.getElem?_eq_some_iff.1 hej).2
            refine ⟨hjl, by rw [hjv]; simp [hbn], fun j' hj' => ?_⟩
            have hj'l : j' < es.toList.length := by omega
            have hz' : j' < z.length := by have := congrArg List.length h3.toList; simp at this hj'l; omega
            have e5 : es.toList[j'] = (z[j']).2 := by
              have : es.toList[j']? = some (z[j']).2 := by rw [h3.toList]; simp [hz']
              exact (List.getElem?_eq_some_iff.1 this).2
            rw [e5]
            simp only [beq_iff_eq]
            intro e6
            have := nodup_idx h3.born (List.getElem?_eq_getElem hz') e2 (by have : (z[j']).2.born = n := by exact_mod_cast e6
                                                                            rw [this, hbn])
            omega
          have hmod : es.modify j (fun e => { e with val := vv }) = es.modify j (fun e => { e with key := k.val, val := vv }) := by
            apply Array.ext'
            rw [Array.toList_modify, Array.toList_modify]
            apply List.ext_getElem?
            intro j'
            rw [List.getElem?_modify, List.getElem?_modify]
            by_cases e : j = j'
            · subst e; rw [hej]; simp [hpk]
            · simp [e]
          obtain ⟨g1, g2⟩ := map_write h hi h1 h2 (h3.set e2 e3 hv) (stIs_set h3 e2 e3 h4)
          refine ⟨_, ?_, g1, g2, rfl⟩
          simp only [Instr.entryStore, Sem.run_bind, Sem.run_pure, Result.andThen_ok, run_getMap h2, asInt, asIntOf, hidx, hmod, run_setMap h2]
        · cases he
      · cases he
    · cases he
  · cases he
end
end Go.Pv

