import Derived.Test.YtogddmlaiiongaaGreatDoorPv4
import Derived.RowKit3
/- A program logic over the model, and an evaluator of closed runs that is sound for it (part 5). -/
set_option linter.unusedVariables false
set_option linter.unusedSimpArgs false
set_option linter.constructorNameAsVariable false
set_option linter.unusedSectionVars false
set_option linter.deprecated false
namespace Go.Pv
open Go.RowKit
set_option linter.unusedVariables false
set_option linter.unusedSimpArgs false
set_option linter.constructorNameAsVariable false

/-! a map's literal, in any order -/
structure LitGood (P : Program) (n : Nat) (ops : Array Oper) (d : Nat) (T : Nat → A) (m : Mem) (o : Oper) (D : DrR) (x : Option (Ky × A)) : Prop where
  dst : D.r.dst = o.dst
  lt : ∀ k, o.dst = some k → k < n
  looks : D.looks = o.looksAt ops
  u : D.r.u = []
  guard : o.guard = none
  other : x = none → d ∉ D.F ∧ ∀ (T' : Nat → A) (m' : Mem), (∀ t ∈ o.looksAt ops, T' t = T t) → (∀ i ∈ D.F, m' i = m i) → OpT P o T' m' D.r.v m'
  ins : ∀ ka, x = some ka → D.r.v = .x ∧ D.anc.testBit 0 = true ∧ litIns P T d o = some ka

structure LitInv (P : Program) (n : Nat) (ops : Array Oper) (d : Nat) (T0 : Nat → A) (m : Mem) (acc : List DrR) (il : List (Option (Ky × A))) (T : Nat → A) : Prop where
  len : il.length = acc.length
  T : T = recT T0 (acc.reverse.map (·.r))
  good : ∀ i o D x, 0 < i → ops[i]? = some o → acc.reverse[i]? = some D → il.reverse[i]? = some x → LitGood P n ops d (recT T0 ((acc.reverse.map (·.r)).take i)) m o D x
  down : ∀ i o D, ops[i]? = some o → acc.reverse[i]? = some D → (∀ e ∈ o.after, Region.binds .any e = true → e.on < i) ∧ ∀ j, D.anc.testBit j = true ↔ ∃ e ∈ o.after, Region.binds .any e = true ∧ (e.on = j ∨ ∃ D', acc.reverse[e.on]? = some D' ∧ D'.anc.testBit j = true)

theorem snoc_get {α : Type} (D : α) (acc : List α) (i : Nat) : (D :: acc).reverse[i]? = if i < acc.length then acc.reverse[i]? else if i = acc.length then some D else none := by
  rw [List.reverse_cons, List.getElem?_append]
  by_cases hi : i < acc.length
  · simp [hi]
  · simp only [List.length_reverse, hi, if_false]
    by_cases e : i = acc.length
    · subst e; simp
    · have : 1 ≤ i - acc.length := by omega
      rw [List.getElem?_eq_none (by simpa using this)]
      simp [e]

section
variable {P : Program} {H : Hd} {n : Nat} {ops : Array Oper} {T0 : Nat → A} {m : Mem} {d : Nat}

theorem LitInv.push {acc : List DrR} {il : List (Option (Ky × A))} {T T' : Nat → A} (h : LitInv P n ops d T0 m acc il T) {o : Oper} {D : DrR} {x : Option (Ky × A)} (ho : ops[acc.length]? = some o) (hT : T' = setT T D.r.dst D.r.v)
    (hg : LitGood P n ops d T m o D x) {an : Nat} (han : edgesAnc acc acc.length o.after.toList = some an) (hD : D.anc = an) : LitInv P n ops d T0 m (D :: acc) (x :: il) T' := by
  have e1 : ((D :: acc).reverse.map (·.r)) = acc.reverse.map (·.r) ++ [D.r] := by simp
  have hlen : (acc.reverse.map (·.r)).length = acc.length := by simp
  obtain ⟨q1, q2⟩ := edgesAnc_ok rfl han
  refine ⟨by simp [h.len], by rw [hT, e1, recT_snoc, h.T], ?_, ?_⟩
  · intro i o' D' x' hpos ho' hD' hx'
    rw [snoc_get] at hD' hx'
    rw [h.len] at hx'
    rw [e1]
    by_cases hi : i < acc.length
    · rw [if_pos hi] at hD' hx'
      rw [List.take_append_of_le_length (by omega)]
      exact h.good i o' D' x' hpos ho' hD' hx'
    · rw [if_neg hi] at hD' hx'
      by_cases e : i = acc.length
      · subst e
        simp only [if_true, Option.some.injEq] at hD' hx'; subst hD'; subst hx'
        rw [ho] at ho'; simp only [Option.some.injEq] at ho'; subst ho'
        rw [List.take_append_of_le_length (by omega), List.take_of_length_le (by omega), ← h.T]
        exact hg
      · rw [if_neg e] at hD'; cases hD'
  · intro i o' D' ho' hD'
    rw [snoc_get] at hD'
    have hup : ∀ {k : Nat} {D2 : DrR}, acc.reverse[k]? = some D2 → (D :: acc).reverse[k]? = some D2 := by
      intro k D2 hk
      have := (List.getElem?_eq_some_iff.1 hk).1
      rw [snoc_get, if_pos (by simpa using this)]; exact hk
    by_cases hi : i < acc.length
    · rw [if_pos hi] at hD'
      obtain ⟨g1, g2⟩ := h.down i o' D' ho' hD'
      refine ⟨g1, fun j => ?_⟩
      rw [g2 j]
      constructor
      · rintro ⟨e, he, hb, x⟩
        exact ⟨e, he, hb, x.imp id fun ⟨D2, k1, k2⟩ => ⟨D2, hup k1, k2⟩⟩
      · rintro ⟨e, he, hb, x⟩
        refine ⟨e, he, hb, x.imp id fun ⟨D2, k1, k2⟩ => ⟨D2, ?_, k2⟩⟩
        have := g1 e he hb
        rw [snoc_get, if_pos (by omega)] at k1; exact k1
    · rw [if_neg hi] at hD'
      by_cases e : i = acc.length
      · subst e
        simp only [if_true, Option.some.injEq] at hD'; subst hD'
        rw [ho] at ho'; simp only [Option.some.injEq] at ho'; subst ho'
        refine ⟨fun e he hb => q1 e (by simpa using he) hb, fun j => ?_⟩
        rw [hD, q2 j]
        constructor
        · rintro ⟨e, he, hb, x⟩
          exact ⟨e, by simpa using he, hb, x.imp id fun ⟨D2, k1, k2⟩ => ⟨D2, hup k1, k2⟩⟩
        · rintro ⟨e, he, hb, x⟩
          refine ⟨e, by simpa using he, hb, x.imp id fun ⟨D2, k1, k2⟩ => ⟨D2, ?_, k2⟩⟩
          have := q1 e (by simpa using he) hb
          rw [snoc_get, if_pos this] at k1; exact k1
      · rw [if_neg e] at hD'; cases hD'

theorem litIns_congr {T T' : Nat → A} {o : Oper} (h : ∀ t ∈ o.looksAt ops, T' t = T t) : litIns P T' d o = litIns P T d o := by
  have ev : ∀ x ∈ o.op.operands.toList, evT T' x = evT T x := fun x hx => evT_congr fun n e => h n (looks_tmp hx e)
  unfold litIns
  cases hg : o.guard with
  | some _ => rfl
  | none =>
    cases ho : o.op with
    | insert t x kk vv => simp only [ev x (by simp [ho, Op.operands]), ev kk (by simp [ho, Op.operands]), ev vv (by simp [ho, Op.operands])]
    | _ => rfl

theorem purE_congr {T T' : Nat → A} {o : Oper} (h : ∀ t ∈ o.looksAt ops, T' t = T t) : purE P T' o = purE P T o := by
  have ev : ∀ x ∈ o.op.operands.toList, evT T' x = evT T x := fun x hx => evT_congr fun n e => h n (looks_tmp hx e)
  unfold purE
  cases ho : o.op with
  | move x => simp only [ev x (by simp [ho, Op.operands])]
  | assign x => simp only [ev x (by simp [ho, Op.operands])]
  | pick c a b => simp only [ev c (by simp [ho, Op.operands]), ev a (by simp [ho, Op.operands]), ev b (by simp [ho, Op.operands])]
  | binOp op t x y yt => simp only [ev x (by simp [ho, Op.operands]), ev y (by simp [ho, Op.operands])]
  | unOp op t x => simp only [ev x (by simp [ho, Op.operands])]
  | extract x i => simp only [ev x (by simp [ho, Op.operands])]
  | field t x f => simp only [ev x (by simp [ho, Op.operands])]
  | _ => rfl

theorem litOther_ok {T : Nat → A} {o : Oper} {nx : Nat} {v : A} {F : List Nat} (h : litOther P m T ops d nx o = some (v, F)) : o.guard = none ∧ d ∉ F ∧ ∀ (T' : Nat → A) (m' : Mem), (∀ t ∈ o.looksAt ops, T' t = T t) → (∀ i ∈ F, m' i = m i) → OpT P o T' m' v m' := by
  unfold litOther at h
  split at h
  · cases h
  · rename_i hg
    refine ⟨hg, ?_⟩
    split at h
    · rename_i v' hp
      simp only [Option.some.injEq, Prod.mk.injEq] at h
      obtain ⟨rfl, rfl⟩ := h
      exact ⟨by simp, fun T' m' hT _ => OpT.of_all (d := 0) (purE_eff ((purE_congr hT).trans hp) m') rfl⟩
    · rw [Bool.cond_eq_ite] at h
      split at h
      · rename_i hsh
        split at h
        · rename_i v' he
          rw [Bool.cond_eq_ite] at h
          split at h
          · cases h
          · rename_i hm
            simp only [Option.some.injEq, Prod.mk.injEq] at h
            obtain ⟨rfl, rfl⟩ := h
            refine ⟨fun e => hm (memL_iff.2 e), fun T' m' hT' hm' => ?_⟩
            have hag : AgrO o T T' m m' := by
              refine ⟨fun x hx => evT_congr fun n e => (hT' n (looks_tmp hx e)).symm, fun x hx i hi => ?_⟩
              obtain ⟨t, e, hit⟩ := evT_hs hi
              refine (hm' i ?_).symm
              simp only [List.mem_cons, List.mem_flatMap]
              exact .inr ⟨t, looks_tmp hx e, hit⟩
            have hloc := effNew_loc (P := P) (d := nx) hag (hm' nx (by simp)).symm hsh
            rw [he] at hloc
            exact OpT.of_new hloc.symm rfl
        · cases h
      · cases h

theorem litOps_ok : ∀ (l : List Oper) (acc : List DrR) (il : List (Option (Ky × A))) (T : Tb) (nx : Nat) (acc' : List DrR) (il' : List (Option (Ky × A))) (T' : Tb) (nx' : Nat), 0 < acc.length → ops.toList.drop acc.length = l → litOps P n ops d m l acc.length acc il T nx = some (acc', il', T', nx') →
    LitInv P n ops d T0 m acc il T.fn → LitInv P n ops d T0 m acc' il' T'.fn ∧ acc'.length = acc.length + l.length ∧ (∃ a2, acc' = a2 ++ acc) ∧ ∃ i2, il' = i2 ++ il
  | [], acc, il, T, nx, acc', il', T', nx', hpos, hk, h, hi => by
    simp only [litOps, Option.some.injEq, Prod.mk.injEq] at h
    obtain ⟨rfl, rfl, rfl, _⟩ := h
    exact ⟨hi, by simp, ⟨[], rfl⟩, ⟨[], rfl⟩⟩
  | o :: r, acc, il, T, nx, acc', il', T', nx', hpos, hk, h, hi => by
    have hko : ops[acc.length]? = some o := by
      have : ops.toList[acc.length]? = some o := by
        have := congrArg List.head? hk
        simpa [List.head?_drop] using this
      simpa using this
    have hkr : ops.toList.drop (acc.length + 1) = r := by
      have : (ops.toList.drop acc.length).drop 1 = r := by rw [hk]; rfl
      simpa [List.drop_drop] using this
    have step : ∀ (D : DrR) (x : Option (Ky × A)) (an nx1 : Nat), edgesAnc acc acc.length o.after.toList = some an → D.anc = an → D.r.dst = o.dst → LitGood P n ops d T.fn m o D x → litOps P n ops d m r (acc.length + 1) (D :: acc) (x :: il) (T.put o.dst D.r.v) nx1 = some (acc', il', T', nx') →
        LitInv P n ops d T0 m acc' il' T'.fn ∧ acc'.length = acc.length + (o :: r).length ∧ (∃ a2, acc' = a2 ++ acc) ∧ ∃ i2, il' = i2 ++ il := by
      intro D x an nx1 han hD hdst hg hev
      have hp := hi.push (T' := (T.put o.dst D.r.v).fn) (D := D) hko (by rw [Tb.fn_put, hdst]) hg han hD
      obtain ⟨g1, g2, ⟨a2, g3⟩, ⟨i2, g4⟩⟩ := litOps_ok r (D :: acc) (x :: il) _ nx1 acc' il' T' nx' (by simp) hkr hev hp
      exact ⟨g1, by rw [g2]; simp; omega, ⟨a2 ++ [D], by rw [g3]; simp⟩, ⟨i2 ++ [x], by rw [g4]; simp⟩⟩
    simp only [litOps] at h
    rw [Bool.cond_eq_ite] at h
    split at h
    · rename_i hd
      have hlt := dstLt_spec hd
      split at h
      · cases h
      · rename_i an han
        split at h
        · rename_i ka hka
          rw [Bool.cond_eq_ite] at h
          split at h
          · rename_i hb
            have hgd : o.guard = none := by
              unfold litIns at hka
              split at hka
              · assumption
              · cases hka
            exact step ⟨⟨o.dst, .x, []⟩, o.looksAt ops, [], an⟩ (some ka) an nx han rfl rfl ⟨rfl, hlt, rfl, rfl, hgd, fun e => (by cases e), fun ka' e => (by simp only [Option.some.injEq] at e; subst e; exact ⟨rfl, hb, hka⟩)⟩ h
          · cases h
        · split at h
          · rename_i v F ho
            obtain ⟨g1, g2⟩ := litOther_ok ho
            exact step ⟨⟨o.dst, v, []⟩, o.looksAt ops, F, an⟩ none an (nx + 1) han rfl rfl ⟨rfl, hlt, rfl, rfl, g1, fun _ => g2, fun ka' e => (by cases e)⟩ h
          · cases h
    · cases h

/-- the entries of what was done -/
def selI (X : Nat → Bool) : Nat → List (Option (Ky × A)) → List (Ky × A)
  | _, [] => []
  | k, none :: l => selI X (k + 1) l
  | k, some p :: l => if X k then p :: selI X (k + 1) l else selI X (k + 1) l

theorem selI_congr {X Y : Nat → Bool} : ∀ (l : List (Option (Ky × A))) (k : Nat), (∀ i x, l[i]? = some (some x) → X (k + i) = Y (k + i)) → selI X k l = selI Y k l
  | [], _, _ => rfl
  | none :: l, k, h => by
    simp only [selI]
    exact selI_congr l (k + 1) fun i x hi => by have := h (i + 1) x (by simpa using hi); rwa [show k + (i + 1) = k + 1 + i by omega] at this
  | some p :: l, k, h => by
    have h0 := h 0 p rfl
    simp only [Nat.add_zero] at h0
    have e := selI_congr (X := X) (Y := Y) l (k + 1) fun i x hi => by
      have := h (i + 1) x (by simpa using hi)
      rwa [show k + (i + 1) = k + 1 + i by omega] at this
    simp only [selI, h0, e]
theorem selI_mem {X : Nat → Bool} : ∀ {l : List (Option (Ky × A))} {k : Nat} {p : Ky × A}, p ∈ selI X k l → ∃ i, X (k + i) = true ∧ l[i]? = some (some p)
  | [], k, p, h => by simp [selI] at h
  | none :: l, k, p, h => by
    simp only [selI] at h
    obtain ⟨i, h1, h2⟩ := selI_mem h
    exact ⟨i + 1, by rwa [show k + (i + 1) = k + 1 + i by omega], by simpa using h2⟩
  | some q :: l, k, p, h => by
    simp only [selI] at h
    split at h
    · rename_i hk
      simp only [List.mem_cons] at h
      rcases h with rfl | h
      · exact ⟨0, hk, rfl⟩
      · obtain ⟨i, h1, h2⟩ := selI_mem h
        exact ⟨i + 1, by rwa [show k + (i + 1) = k + 1 + i by omega], by simpa using h2⟩
    · obtain ⟨i, h1, h2⟩ := selI_mem h
      exact ⟨i + 1, by rwa [show k + (i + 1) = k + 1 + i by omega], by simpa using h2⟩
theorem selI_all {X : Nat → Bool} : ∀ (l : List (Option (Ky × A))) (k : Nat), (∀ i, k ≤ i → i < k + l.length → X i = true) → selI X k l = insKs l
  | [], _, _ => rfl
  | none :: l, k, h => by simp only [selI, insKs]; exact selI_all l (k + 1) fun i h1 h2 => h i (by omega) (by simp; omega)
  | some p :: l, k, h => by
    simp only [selI, insKs, h k (Nat.le_refl _) (by simp), if_true]
    rw [selI_all l (k + 1) fun i h1 h2 => h i (by omega) (by simp; omega)]
theorem selI_add {X : Nat → Bool} {p : Ky × A} : ∀ (l : List (Option (Ky × A))) (k j : Nat), X (k + j) = false → l[j]? = some (some p) → (selI X k l ++ [p]).Perm (selI (addX X (k + j)) k l)
  | [], k, j, _, h => by simp at h
  | q :: l, k, 0, hX, h => by
    simp at h; subst h
    simp only [Nat.add_zero] at hX ⊢
    have h1 : addX X k k = true := by simp [addX]
    simp only [selI, h1, if_true, hX, Bool.false_eq_true, if_false]
    have e : selI (addX X k) (k + 1) l = selI X (k + 1) l := selI_congr l (k + 1) fun i x _ => by unfold addX; rw [if_neg (by omega)]
    rw [e]
    exact List.perm_append_comm
  | q :: l, k, j + 1, hX, h => by
    have ih := selI_add l (k + 1) j (by rw [show k + 1 + j = k + (j + 1) by omega]; exact hX) (by simpa using h)
    rw [show k + 1 + j = k + (j + 1) by omega] at ih
    cases q with
    | none => simpa only [selI] using ih
    | some q =>
      have e : addX X (k + (j + 1)) k = X k := by unfold addX; rw [if_neg (by omega)]
      simp only [selI, e]
      split
      · exact ih.cons q
      · exact ih

theorem keysOk_spec : ∀ {l : List (Option (Ky × A))}, keysOk (insKs l) = true → ∀ (i j : Nat) (p q : Ky × A), i ≠ j → l[i]? = some (some p) → l[j]? = some (some q) → p.1.same q.1 = true ∧ p.1 ≠ q.1
  | [], _, i, j, p, q, _, h, _ => by simp at h
  | none :: l, h, i, j, p, q, hne, hi, hj => by
    simp only [insKs] at h
    cases i with
    | zero => simp at hi
    | succ i =>
      cases j with
      | zero => simp at hj
      | succ j => exact keysOk_spec h i j p q (by omega) (by simpa using hi) (by simpa using hj)
  | some r :: l, h, i, j, p, q, hne, hi, hj => by
    simp only [insKs, keysOk, Bool.and_eq_true, List.all_eq_true, Bool.not_eq_true', decide_eq_false_iff_not] at h
    have hin : ∀ {l : List (Option (Ky × A))} {i : Nat} {p : Ky × A}, l[i]? = some (some p) → p ∈ insKs l := by
      intro l
      induction l with
      | nil => intro i p h; simp at h
      | cons x l ih =>
        intro i p h
        cases i with
        | zero => simp at h; subst h; simp [insKs]
        | succ i =>
          have := ih (i := i) (p := p) (by simpa using h)
          cases x <;> simp [insKs, this]
    cases i with
    | zero =>
      simp at hi; subst hi
      cases j with
      | zero => exact absurd rfl hne
      | succ j =>
        have := h.1 q (hin (i := j) (by simpa using hj))
        exact ⟨this.1, this.2.2⟩
    | succ i =>
      cases j with
      | zero =>
        simp at hj; subst hj
        have := h.1 p (hin (i := i) (by simpa using hi))
        exact ⟨this.2.1, fun e => this.2.2 e.symm⟩
      | succ j => exact keysOk_spec h.2 i j p q (by omega) (by simpa using hi) (by simpa using hj)

theorem kvGet_no {k : Ky} : ∀ {kv : List (Ky × A)}, (∀ p ∈ kv, p.1 ≠ k) → kvGet k kv = none
  | [], _ => rfl
  | p :: r, h => by
    have h1 := h p (by simp)
    simp only [kvGet, if_neg (Ne.symm h1)]
    exact kvGet_no fun q hq => h q (by simp [hq])

theorem setM_setM (m : Mem) (d : Nat) (r r' : R) : setM (setM m d r) d r' = setM m d r' := by
  funext i; unfold setM; split <;> rfl

theorem evLit_ok (hm : P.follows .mixedOrders = true) {rd : Bool} {id : Nat} {ds : List DA} {st : St} {nx : Nat} {outs : List Oc} (h : evLit P n ops ds st nx = some outs) (hI : Inv st) :
    CodeT P rd n (.region id ops true) st.T.fn st.m.get ds (PostL outs) ∧ ∀ o ∈ outs, Inv o.2.1 ∧ o.2.1.b = st.b := by
  unfold evLit at h
  split at h
  · rename_i o0 r0 hops
    rw [Bool.cond_eq_ite] at h
    split at h
    · rename_i hc
      simp only [Bool.and_eq_true] at hc
      obtain ⟨hmk, hd0, hfree, haft⟩ := hc
      have hlt0 := dstLt_spec hd0
      have haft : o0.after.toList = [] := by
        unfold noEdges at haft
        split at haft
        · assumption
        · cases haft
      obtain ⟨hg0, t0, ho0⟩ : o0.guard = none ∧ ∃ t, o0.op = .makeMap t none := by
        unfold isMkMap at hmk
        split at hmk
        · rename_i t h1 h2; exact ⟨h1, t, h2⟩
        · cases hmk
      rw [St.go_eq] at h
      split at h
      · rename_i acc il T nx' hl
        rw [Bool.cond_eq_ite] at h
        split at h
        · rename_i hap
          simp only [Bool.and_eq_true] at hap
          obtain ⟨hap, hks⟩ := hap
          simp only [Option.some.injEq] at h; subst h
          have hm1 : (st.upd o0.dst (.h nx) [(nx, .mp false [] [])]).m.get = setM st.m.get nx (.mp false [] []) := by simp only [St.upd_def, Tr.get_setU, applyU]
          have hT1 : (st.upd o0.dst (.h nx) [(nx, .mp false [] [])]).T.fn = setT st.T.fn o0.dst (.h nx) := by simp only [St.upd_def, Tb.fn_put]
          have hb1 : (st.upd o0.dst (.h nx) [(nx, .mp false [] [])]).b = st.b := by simp only [St.upd_def]
          have hI1 := hI.upd o0.dst (.h nx) [(nx, .mp false [] [])]
          generalize st.upd o0.dst (.h nx) [(nx, .mp false [] [])] = st1 at hl hm1 hT1 hb1 hI1
          have hinit : LitInv P n ops nx st.T.fn st1.m.get [⟨⟨o0.dst, .h nx, []⟩, o0.looksAt ops, [], 0⟩] [none] st1.T.fn := by
            refine ⟨rfl, hT1, fun i o D x hpos ho hD hx => ?_, fun i o D ho hD => ?_⟩
            · cases i with
              | zero => omega
              | succ i => simp at hD
            · cases i with
              | succ i => simp at hD
              | zero =>
                have : o = o0 := by
                  have h1 : ops.toList[0]? = some o := by simpa using ho
                  rw [hops] at h1; simpa using h1.symm
                subst this
                simp at hD; subst hD
                refine ⟨fun e he => ?_, fun j => ?_⟩
                · have : e ∈ o.after.toList := by simpa using he
                  rw [haft] at this; simp at this
                · simp only [Nat.zero_testBit, Bool.false_eq_true, false_iff]
                  rintro ⟨e, he, _⟩
                  have : e ∈ o.after.toList := by simpa using he
                  rw [haft] at this; simp at this
          obtain ⟨g1, g2, ⟨a2, ga⟩, ⟨i2, gi⟩⟩ := litOps_ok r0 _ _ _ _ _ _ _ _ (by simp) (by rw [hops]; rfl) hl hinit
          have hlen : acc.length = ops.size := by
            rw [g2]
            have : ops.toList.length = r0.length + 1 := by rw [hops]; rfl
            simp at this ⊢; omega
          have hacc0 : acc.reverse[0]? = some ⟨⟨o0.dst, .h nx, []⟩, o0.looksAt ops, [], 0⟩ := by rw [ga]; simp
          have hil0 : il.reverse[0]? = some none := by rw [gi]; simp
          have ho0' : ops[0]? = some o0 := by
            have : ops.toList[0]? = some o0 := by rw [hops]; rfl
            simpa using this
          have hillen : il.length = ops.size := g1.len.trans hlen
          let recs := acc.reverse.map (·.r)
          let anc : Nat → Nat → Bool := fun i j => match acc.reverse[i]? with
            | some D => D.anc.testBit j
            | none => false
          have hanc : ∀ {i : Nat} {D : DrR}, acc.reverse[i]? = some D → ∀ j, anc i j = D.anc.testBit j := by
            intro i D hD j; simp only [anc, hD]
          have hDof : ∀ i, i < ops.size → ∃ D, acc.reverse[i]? = some D := fun i hi => ⟨_, List.getElem?_eq_getElem (by simpa using hlen ▸ hi)⟩
          have hxof : ∀ i, i < ops.size → ∃ x, il.reverse[i]? = some x := fun i hi => ⟨_, List.getElem?_eq_getElem (by simpa using hillen ▸ hi)⟩
          have hrec : ∀ {i : Nat} {r : Rec}, recs[i]? = some r → ∃ D, acc.reverse[i]? = some D ∧ D.r = r := by
            intro i r hr
            simp only [recs, List.getElem?_map, Option.map_eq_some_iff] at hr
            exact hr
          have hancl : ∀ {i : Nat} {o : Oper} {D : DrR}, ops[i]? = some o → acc.reverse[i]? = some D → ∀ j, D.anc.testBit j = true → j < i := by
            intro i
            induction i using Nat.strongRecOn with
            | _ i ih =>
              intro o D ho hD j hj
              obtain ⟨k1, k2⟩ := g1.down i o D ho hD
              obtain ⟨e, he, hb, x⟩ := (k2 j).1 hj
              have hlt := k1 e he hb
              rcases x with rfl | ⟨D', hD', x⟩
              · exact hlt
              · have hio : i < ops.size := (Array.getElem?_eq_some_iff.1 ho).1
                exact Nat.lt_trans (ih e.on hlt (Array.getElem?_eq_getElem (by omega)) hD' j x) hlt
          have hdisj : ∀ (i j : Nat) (Di Dj : DrR), i ≠ j → acc.reverse[i]? = some Di → acc.reverse[j]? = some Dj → anc i j = false → anc j i = false → dstApart Di Dj = true := by
            intro i j Di Dj hne hi hj h1 h2
            rw [hanc hi] at h1; rw [hanc hj] at h2
            rcases Nat.lt_or_gt_of_ne hne with hlt | hlt
            · exact (apartAll_spec hap i j Di Dj hlt hi hj h2).2.1
            · exact (apartAll_spec hap j i Dj Di hlt hj hi h1).1
          -- what was done has its ancestors done
          have hclo : ∀ X, Cl ops X → ∀ (i : Nat) (o : Oper), ops[i]? = some o → (∀ e ∈ o.after, Region.binds .any e = true → X e.on = true) → ∀ j, anc i j = true → X j = true := by
            intro X hcl i
            induction i using Nat.strongRecOn with
            | _ i ih =>
              intro o ho hdir j hj
              have hio : i < ops.size := (Array.getElem?_eq_some_iff.1 ho).1
              obtain ⟨D, hD⟩ := hDof i hio
              rw [hanc hD] at hj
              obtain ⟨e, he, hb, x⟩ := ((g1.down i o D ho hD).2 j).1 hj
              have hel := hdir e he hb
              rcases x with rfl | ⟨D', hD', x⟩
              · exact hel
              · have hlt := (g1.down i o D ho hD).1 e he hb
                exact ih e.on hlt _ (Array.getElem?_eq_getElem (by omega)) (hcl e.on _ (Array.getElem?_eq_getElem (by omega)) hel) j (by rw [hanc hD']; exact x)
          let TX : (Nat → Bool) → Nat → A := fun X => recT st.T.fn (sel X 0 recs)
          let MX : (Nat → Bool) → Mem := fun X => if X 0 then setM st.m.get nx (.mp false (selI X 0 il.reverse) []) else st.m.get
          have hTX0 : TX (fun _ => false) = st.T.fn := by
            show recT st.T.fn (sel (fun _ => false) 0 recs) = _
            rw [sel_none recs 0 (fun _ => rfl)]; rfl
          have hMX0 : MX (fun _ => false) = st.m.get := rfl
          have hgen : RegGen P ops n TX MX := by
            refine ⟨fun k o ho e he hb => ?_, fun X k o ho hXk hcl hdeps => ?_⟩
            · obtain ⟨D, hD⟩ := hDof k (Array.getElem?_eq_some_iff.1 ho).1
              exact (g1.down k o D ho hD).1 e he hb
            · have hk : k < ops.size := (Array.getElem?_eq_some_iff.1 ho).1
              obtain ⟨D, hD⟩ := hDof k hk
              obtain ⟨x, hx⟩ := hxof k hk
              have hrk : recs[k]? = some D.r := by simp only [recs, List.getElem?_map, hD, Option.map_some]
              -- what is not comparable
              have hinc : ∀ i Di, acc.reverse[i]? = some Di → i ≠ k → (i < k → X i = false → dstApart Di D = true) ∧ (k < i → X i = true → dstApart Di D = true ∧ dstApart D Di = true) := by
                intro i Di hDi hne
                have hio : i < ops.size := by have := (List.getElem?_eq_some_iff.1 hDi).1; simp at this; omega
                refine ⟨fun hlt hXi => ?_, fun hlt hXi => ?_⟩
                · refine hdisj i k Di D hne hDi hD ?_ ?_
                  · cases q : anc i k with
                    | false => rfl
                    | true => have := hancl (Array.getElem?_eq_getElem hio) hDi k (by rw [← hanc hDi]; exact q); omega
                  · cases q : anc k i with
                    | false => rfl
                    | true => have := hclo X hcl k o ho hdeps i q; rw [hXi] at this; cases this
                · have q1 : anc i k = false := by
                    cases q : anc i k with
                    | false => rfl
                    | true => have := hclo X hcl i _ (Array.getElem?_eq_getElem hio) (hcl i _ (Array.getElem?_eq_getElem hio) hXi) k q; rw [hXk] at this; cases this
                  have q2 : anc k i = false := by
                    cases q : anc k i with
                    | false => rfl
                    | true => have := hancl ho hD i (by rw [← hanc hD]; exact q); omega
                  exact ⟨hdisj i k Di D hne hDi hD q1 q2, hdisj k i D Di (Ne.symm hne) hD hDi q2 q1⟩
              have hu : ∀ (i : Nat) (q : Rec), recs[i]? = some q → q.u = [] := by
                intro i q hq
                obtain ⟨Di, hDi, rfl⟩ := hrec hq
                have hio : i < ops.size := by have := (List.getElem?_eq_some_iff.1 hDi).1; simp at this; omega
                rcases Nat.eq_zero_or_pos i with rfl | hpos
                · rw [hacc0] at hDi; simp only [Option.some.injEq] at hDi; subst hDi; rfl
                · obtain ⟨xi, hxi⟩ := hxof i hio
                  exact (g1.good i _ Di xi hpos (Array.getElem?_eq_getElem hio) hDi hxi).u
              have hsel := sel_insert X D.r recs 0 k st.T.fn st.m.get (by simpa using hXk) hrk (fun i q hi hX hq => by
                obtain ⟨Di, hDi, rfl⟩ := hrec hq
                have hX' : X i = true := by simpa using hX
                have := (hinc i Di hDi (by omega)).2 hi hX'
                refine ⟨fun p hp => by rw [hu k _ hrk] at hp; simp at hp, fun m hm => (dstApart_spec this.2 m hm).2⟩)
              rw [Nat.zero_add] at hsel
              have hTadd : TX (addX X k) = setT (TX X) D.r.dst D.r.v := hsel.2
              rcases Nat.eq_zero_or_pos k with rfl | hpos
              · -- the making of the map
                rw [ho0'] at ho; simp only [Option.some.injEq] at ho; subst ho
                rw [hacc0] at hD; simp only [Option.some.injEq] at hD; subst hD
                refine ⟨.h nx, true, hTadd, hlt0, by unfold wantA; rw [hg0], .inr ⟨rfl, ?_⟩⟩
                have e1 : MX X = st.m.get := by show (if X 0 then _ else _) = _; rw [hXk]; rfl
                have e2 : selI (addX X 0) 0 il.reverse = [] := by
                  cases hs : selI (addX X 0) 0 il.reverse with
                  | nil => rfl
                  | cons p l =>
                    exfalso
                    obtain ⟨i, q1, q2⟩ := selI_mem (X := addX X 0) (l := il.reverse) (k := 0) (p := p) (by rw [hs]; simp)
                    rw [Nat.zero_add] at q1
                    have hi0 : i ≠ 0 := by rintro rfl; rw [hil0] at q2; cases q2
                    have hXi : X i = true := by unfold addX at q1; rw [if_neg hi0] at q1; exact q1
                    have hio : i < ops.size := by have := (List.getElem?_eq_some_iff.1 q2).1; simp at this; omega
                    obtain ⟨Di, hDi⟩ := hDof i hio
                    have hgi := g1.good i _ Di _ (by omega) (Array.getElem?_eq_getElem hio) hDi q2
                    have := hclo X hcl i _ (Array.getElem?_eq_getElem hio) (hcl i _ (Array.getElem?_eq_getElem hio) hXi) 0 (by rw [hanc hDi]; exact (hgi.ins p rfl).2.1)
                    rw [hXk] at this; cases this
                have e3 : MX (addX X 0) = applyU st.m.get [(nx, .mp false [] [])] := by
                  show (if addX X 0 0 then _ else _) = _
                  rw [show addX X 0 0 = true by simp [addX], e2]; rfl
                rw [e1, e3]
                refine OpT.of_all (d := nx) (pre := true) ?_ rfl
                unfold effAll
                simp only [ho0, effOp, hfree]
              · have hgd := g1.good k o D x hpos ho hD hx
                have hTk : ∀ t ∈ o.looksAt ops, TX X t = recT st.T.fn (recs.take k) t := by
                  intro t ht
                  have hs : recs.take k = sel (fun i => decide (i < k)) 0 recs := by
                    have : ∀ (l : List Rec) (s k : Nat), sel (fun i => decide (i < s + k)) s l = l.take k := by
                      intro l
                      induction l with
                      | nil => intro s k; simp [sel]
                      | cons r l ih =>
                        intro s k
                        cases k with
                        | zero =>
                          simp only [sel, Nat.add_zero, Nat.lt_irrefl, decide_false, Bool.false_eq_true, if_false, List.take_zero]
                          exact evDrawOld_ok.sel_none' l (s + 1) (fun i => decide (i < s)) (fun i hi _ _ => by simp; omega)
                        | succ k =>
                          simp only [sel, List.take_succ_cons]
                          rw [if_pos (by simp)]
                          rw [show s + (k + 1) = s + 1 + k by omega, ih (s + 1) k]
                    have := this recs 0 k
                    simpa using this.symm
                  rw [hs]
                  refine recT_agree recs 0 _ _ (fun i q hq hne e => ?_) rfl
                  rw [Nat.zero_add] at hne
                  obtain ⟨Di, hDi, rfl⟩ := hrec hq
                  have hA : i ≠ k ∧ dstApart Di D = true := by
                    by_cases hik : i = k
                    · subst hik; rw [hXk] at hne; simp at hne
                    · refine ⟨hik, ?_⟩
                      rcases Nat.lt_or_gt_of_ne hik with hlt | hlt
                      · refine (hinc i Di hDi hik).1 hlt ?_
                        cases q : X i with
                        | false => rfl
                        | true => rw [q] at hne; simp [hlt] at hne
                      · refine ((hinc i Di hDi hik).2 hlt ?_).1
                        cases q : X i with
                        | true => rfl
                        | false => rw [q] at hne; simp at hne; omega
                  have := (dstApart_spec hA.2 t e).1
                  rw [hgd.looks] at this
                  exact this ht
                have hw : wantA ops (TX X) o = some true := by unfold wantA; rw [hgd.guard]
                refine ⟨D.r.v, true, by rw [← hgd.dst]; exact hTadd, hgd.lt, hw, .inr ⟨rfl, ?_⟩⟩
                have hadd0 : addX X k 0 = X 0 := by unfold addX; rw [if_neg (by omega)]
                cases x with
                | none =>
                  obtain ⟨hF, hop⟩ := hgd.other rfl
                  have e1 : MX (addX X k) = MX X := by
                    show (if addX X k 0 then _ else _) = if X 0 then _ else _
                    rw [hadd0, selI_congr (X := addX X k) (Y := X) il.reverse 0 fun i p hi => by
                      unfold addX
                      rw [Nat.zero_add, if_neg (by rintro rfl; rw [hx] at hi; cases hi)]]
                  rw [e1]
                  refine hop (TX X) (MX X) hTk fun i hi => ?_
                  have hid : i ≠ nx := by rintro rfl; exact hF hi
                  rw [hm1]
                  show (if X 0 then setM st.m.get nx _ else st.m.get) i = _
                  cases X 0 <;> simp [setM, hid]
                | some ka =>
                  obtain ⟨hv, hb0, hli⟩ := hgd.ins ka rfl
                  have hX0 : X 0 = true := hclo X hcl k o ho hdeps 0 (by rw [hanc hD]; exact hb0)
                  have hli' : litIns P (TX X) nx o = some ka := (litIns_congr hTk).trans hli
                  have e1 : MX X = setM st.m.get nx (.mp false (selI X 0 il.reverse) []) := by show (if X 0 then _ else _) = _; rw [hX0]; rfl
                  have e2 : MX (addX X k) = setM st.m.get nx (.mp false (selI (addX X k) 0 il.reverse) []) := by show (if addX X k 0 then _ else _) = _; rw [hadd0, hX0]; rfl
                  rw [hv, e1, e2]
                  have hperm := selI_add (X := X) (p := ka) il.reverse 0 k (by simpa using hXk) hx
                  rw [Nat.zero_add] at hperm
                  have hkeys : ∀ p ∈ selI X 0 il.reverse, ka.1.same p.1 = true ∧ p.1 ≠ ka.1 := by
                    intro p hp
                    obtain ⟨i, q1, q2⟩ := selI_mem hp
                    rw [Nat.zero_add] at q1
                    have hik : k ≠ i := by rintro rfl; rw [hXk] at q1; cases q1
                    have := keysOk_spec hks k i ka p hik hx q2
                    exact ⟨this.1, fun e => this.2 e.symm⟩
                  unfold litIns at hli'
                  split at hli'
                  · rename_i t x' kk vv hg' ho'
                    split at hli'
                    · rename_i i' ky' kt' et' h1 h2 h3
                      rw [Bool.cond_eq_ite] at hli'
                      split at hli'
                      · rename_i hcnd
                        simp only [Bool.and_eq_true] at hcnd
                        have hid := Nat.eq_of_beq_eq_true hcnd.1; subst hid
                        simp only [Option.some.injEq] at hli'; subst hli'
                        have hop : OpT P o (TX X) (setM st.m.get i' (.mp false (selI X 0 il.reverse) [])) .x (applyU (setM st.m.get i' (.mp false (selI X 0 il.reverse) [])) [(i', .mp false (selI X 0 il.reverse ++ [(ky', evT (TX X) vv)]) [])]) := by
                          refine OpT.of_all (d := 0) (pre := true) ?_ rfl
                          unfold effAll effMapSet
                          simp only [ho', h1, h2, h3, setM, if_true, kvGet_no (fun p hp => (hkeys p hp).2), List.filter_nil, Option.some.injEq, Prod.mk.injEq, and_true]
                          unfold fitK
                          rw [hcnd.2, Bool.true_and, List.all_eq_true]
                          exact fun p hp => (hkeys p hp).1
                        simp only [applyU, setM_setM] at hop
                        exact hop.permMap hperm
                      · cases hli'
                    · cases hli'
                  · cases hli'
          refine ⟨?_, fun o ho => ?_⟩
          · have := CodeT.drawGen (rd := rd) (ds := ds) (id := id) (Post := PostL [(.nm, (st1.updM [(nx, .mp false (insKs il.reverse) [])]).withT T, ds, nx')]) hm hgen fun X hX => ?_
            · rw [hTX0, hMX0] at this; exact this
            · refine ⟨_, List.mem_singleton.2 rfl, rfl, ?_, ?_, rfl⟩
              · show recT st.T.fn (sel X 0 recs) = T.fn
                rw [sel_all recs 0 fun i _ hi => hX i (by simp [recs] at hi; omega)]
                exact g1.T.symm
              · have hpos : 0 < ops.size := (Array.getElem?_eq_some_iff.1 ho0').1
                show (if X 0 then _ else _) = (Tr.setU fM st1.m [(nx, .mp false (insKs il.reverse) [])]).get
                rw [hX 0 hpos, Tr.get_setU, hm1, selI_all il.reverse 0 fun i _ hi => hX i (by simp at hi; omega)]
                simp only [applyU, setM_setM, if_true]
          · simp only [List.mem_singleton] at ho; subst ho
            exact ⟨hI1.updM _, hb1⟩
        · cases h
      · cases h
    · cases h
  · cases h

theorem evDraw_ok (hm : P.follows .mixedOrders = true) (hH : HdOk P H) {rd : Bool} {id : Nat} {ds : List DA} {st : St} {nx : Nat} {outs : List Oc} (h : evDraw P H n ops ds st nx = some outs) (hI : Inv st) :
    CodeT P rd n (.region id ops true) st.T.fn st.m.get ds (PostL outs) ∧ ∀ o ∈ outs, Inv o.2.1 ∧ o.2.1.b = st.b := by
  unfold evDraw at h
  split at h
  · rename_i r hr
    simp only [Option.some.injEq] at h; subst h
    exact evLit_ok hm hr hI
  · exact evDrawOld_ok hm hH h hI
end
end Go.Pv

namespace Go.Pv
open Go.RowKit
set_option linter.unusedVariables false
set_option linter.unusedSimpArgs false
set_option linter.constructorNameAsVariable false

theorem stepR_scope' {P : Program} {b : Frame} {a : Act} {k : List Item} {cs : List Frame} {w : World} {c : Code} : step P (lone (b.atR a (.code (.scope c) :: k)) cs w) = .next (lone (b.atR a (.code c :: .inScope c :: k)) cs w) :=
  step_lone_go (by simp [stepG, stepG.exec, Frame.atR])
theorem stepR_inScope' {P : Program} {b : Frame} {a : Act} {k : List Item} {cs : List Frame} {w : World} {c : Code} : step P (lone (b.atR a (.inScope c :: k)) cs w) = .next (lone (b.atR a k) cs w) :=
  step_lone_go (by simp [stepG, stepG.exec, Frame.atR])

theorem CodeT.scope {P : Program} {rd : Bool} {n : Nat} {T : Nat → A} {m : Mem} {ds : List DA} {Post : PostT} {c : Code} (h : CodeT P rd n c T m ds Post) : CodeT P rd n (.scope c) T m ds Post := by
  intro ro M0 S0 w0 ρ a w hro hs hlt Q hQ
  have h1 := h ro M0 S0 w0 ρ a w hro hs hlt (fun e a' w' => (∀ l, e ≠ .goto l) ∧ e ≠ .outgrown ∧ Q e a' w') (fun ex e T' m' ds' ρ' a' w' hp hs' hO hd => ⟨fun l => by cases ex <;> first | (simp only [Ex.Den] at hd; rw [hd]; simp) | (obtain ⟨y, hd, _⟩ := hd; rw [hd]; simp), by cases ex <;> first | (simp only [Ex.Den] at hd; rw [hd]; simp) | (obtain ⟨y, hd, _⟩ := hd; rw [hd]; simp), hQ ex e T' m' ds' ρ' a' w' hp hs' hO hd⟩)
  intro b k cs hrb hb hr
  have h0 : (lone (b.atR a (.code (.scope c) :: k)) cs w).fenced P (FW ro) := fenced_calm hb hr rfl
  obtain ⟨e, a₁, w₁, ⟨hg, ho, hq⟩, harr⟩ := h1 b (.inScope c :: k) cs hrb hb hr
  have hx : ∀ id, exitTo id (.inScope c :: k) = exitTo id k := fun id => by simp [exitTo]
  cases e with
  | normal => exact ⟨.normal, a₁, w₁, hq, .head h0 stepR_scope' (StepsIn.trans harr (.one (fenced_calm hb hr rfl) stepR_inScope'))⟩
  | exit id => exact ⟨_, a₁, w₁, hq, fun k' hk => .head h0 stepR_scope' (harr.1 k' (by rw [hx]; exact hk)), fun hr' hk => let ⟨k₁, h1, h2⟩ := harr.2 hr' (by rw [hx]; exact hk); ⟨k₁, h1, .head h0 stepR_scope' h2⟩⟩
  | goto l => exact absurd rfl (hg l)
  | ret => exact ⟨_, a₁, w₁, hq, .of_steps (.one h0 stepR_scope') harr⟩
  | panic ch => exact ⟨_, a₁, w₁, hq, .of_steps (.one h0 stepR_scope') harr⟩
  | outgrown => exact absurd rfl ho

section
variable {P : Program} {H : Hd}

theorem fnOf_spec {a : A} {gf : FuncId} {us vs : List A} (h : fnOf a = some (gf, us, vs)) : a = .fn (.func gf) us vs ∨ ∃ cu cv, a = .d (.fn (.func gf) cu cv) ∧ us = cu.map A.d ∧ vs = cv.map A.d := by
  unfold fnOf at h
  split at h
  · simp only [Option.some.injEq, Prod.mk.injEq] at h; obtain ⟨rfl, rfl, rfl⟩ := h; exact .inl rfl
  · simp only [Option.some.injEq, Prod.mk.injEq] at h; obtain ⟨rfl, rfl, rfl⟩ := h; exact .inr ⟨_, _, rfl, rfl, rfl⟩
  · cases h

theorem get_set' (f : Nat) (t : Tr R) (i : Nat) (r : R) : (Tr.set f t i r).get = setM t.get i r := by
  funext k; rw [Tr.get_set]; rfl

theorem evRF_ok (hH : HdOk P H) {n : Nat} {g : Operand} {ps : Array Tmp} {asg bod : Code} {st : St} {ds : List DA} {nx : Nat} {outs : List Oc} (h : evRF H n g ps asg bod st ds nx = some outs) (hI : Inv st) :
    CodeT P false n (.rangeFunc g ps asg bod) st.T.fn st.m.get ds (PostL outs) ∧ ∀ o ∈ outs, Inv o.2.1 ∧ o.2.1.b = st.b := by
  unfold evRF at h
  split at h
  · rename_i gf us vs hf
    split at h
    · rename_i hfr
      simp only [Bool.and_eq_true] at hfr
      have hfi := freeB_eq hfr.1; have hfj := freeB_eq hfr.2
      split at h
      · rename_i v u nx' he
        simp only at h
        split at h
        · rename_i ls pe ts' ps' asg' bod' hlo
          split at h
          · cases h
          · rename_i hb
            obtain ⟨r, u', e1, hcall⟩ := hH.fn _ _ _ _ _ _ he
            simp only [List.cons.injEq, Prod.mk.injEq, and_true] at e1
            obtain ⟨rfl, rfl⟩ := e1
            have hInv : ∀ i q, st.b.get i = some q → i ∉ logU st.b u st.log → (Tr.set fM (Tr.setU fM (Tr.set fM (Tr.set fM st.m nx (.df false)) (nx + 1) (.lo .ready none (allT n st.T.fn) ps asg bod)) u) (nx + 1) (.lo .exhausted pe ts' ps' asg' bod')).get i = some q := by
              intro i q hbi hl
              have hm := hI i q hbi fun e => hl (logU_keep _ _ _ _ e)
              have h1 : i ≠ nx := by rintro rfl; rw [hfi] at hm; cases hm
              have h2 : i ≠ nx + 1 := by rintro rfl; rw [hfj] at hm; cases hm
              have h3 : ∀ p ∈ u, p.1 ≠ i := by rintro p hp rfl; exact hl (logU_new _ _ _ p hp (by rw [hbi]; simp))
              rw [get_set', setM, if_neg h2, Tr.get_setU, applyU_at u _ h3, get_set', setM, if_neg h2, get_set', setM, if_neg h1]
              exact hm
            have houts : ∀ (o : Oc), o ∈ outs → Inv o.2.1 ∧ o.2.1.b = st.b := by
              intro o ho
              cases pe with
              | none => simp only [jumpOc, Option.some.injEq] at h; subst h; simp only [List.mem_singleton] at ho; subst ho; exact ⟨hInv, rfl⟩
              | some c => cases c with
                | ret => simp only [jumpOc, Option.some.injEq] at h; subst h; simp only [List.mem_singleton] at ho; subst ho; exact ⟨hInv, rfl⟩
                | exit id => simp only [jumpOc, Option.some.injEq] at h; subst h; simp only [List.mem_singleton] at ho; subst ho; exact ⟨hInv, rfl⟩
                | _ => simp [jumpOc] at h
            refine ⟨?_, houts⟩
            refine CodeT.rangeFunc (i := nx) (j := nx + 1) (r := .ok v) (m2 := (Tr.setU fM (Tr.set fM (Tr.set fM st.m nx (.df false)) (nx + 1) (.lo .ready none (allT n st.T.fn) ps asg bod)) u).get) (fnOf_spec hf) hfi hfj (by omega) ?_ ?_ (fun v e => by cases e)
            · rw [get_set', get_set'] at hcall
              rw [Tr.get_setU, get_set', get_set']
              exact hcall
            · intro v' _
              refine ⟨ls, pe, ts', ps', asg', bod', hlo, fun e => by subst e; exact hb rfl, ?_⟩
              cases pe with
              | none =>
                simp only [jumpOc, Option.some.injEq] at h; subst h
                exact ⟨_, List.mem_singleton.2 rfl, rfl, rfl, by simp only [get_set'], rfl⟩
              | some c => cases c with
                | ret =>
                  simp only [jumpOc, Option.some.injEq] at h; subst h
                  exact ⟨_, List.mem_singleton.2 rfl, rfl, rfl, by simp only [get_set'], rfl⟩
                | exit id =>
                  simp only [jumpOc, Option.some.injEq] at h; subst h
                  exact ⟨_, List.mem_singleton.2 rfl, rfl, rfl, by simp only [get_set'], rfl⟩
                | _ => simp [jumpOc] at h
        · cases h
      · cases h
    · cases h
  · cases h

theorem PostL.sub {outs outs' : List Oc} (h : ∀ o ∈ outs, o ∈ outs') : ∀ ex T m ds, PostL outs ex T m ds → PostL outs' ex T m ds := fun ex T m ds ⟨o, ho, z⟩ => ⟨o, h o ho, z⟩

theorem LoopT.mono {rd : Bool} {n : Nat} {c : Code} {Post1 Post : PostT} (hp : ∀ ex T m ds, Post1 ex T m ds → Post ex T m ds) : ∀ (j : Nat) (T : Nat → A) (m : Mem) (ds : List DA), LoopT P rd n c Post1 j T m ds → LoopT P rd n c Post j T m ds
  | 0, _, _, _, h => h
  | j + 1, T, m, ds, ⟨Q1, g1, g2, g3⟩ => ⟨Q1, g1, fun T' m' ds' q => LoopT.mono hp j T' m' ds' (g2 T' m' ds' q), fun ex T' m' ds' hne q => hp _ _ _ _ (g3 ex T' m' ds' hne q)⟩

theorem evCode_ok (hmix : P.follows .mixedOrders = true) (hH : HdOk P H) {rd : Bool} {n : Nat} : ∀ (k : Nat) (c : Code) (st : St) (ds : List DA) (nx : Nat) (outs : List Oc), evCode P H rd n k c st ds nx = some outs → Inv st →
    (CodeT P rd n c st.T.fn st.m.get ds (PostL outs) ∧ ∀ o ∈ outs, Inv o.2.1 ∧ o.2.1.b = st.b) ∧ ∀ c', c = .loop c' → LoopT P rd n c' (PostL outs) k st.T.fn st.m.get ds := by
  intro k
  induction k with
  | zero => intro c st ds nx outs h; cases h
  | succ k ih =>
    intro c st ds nx outs h hI
    have one : ∀ {ex : Ex}, some [(ex, st, ds, nx)] = some outs → PostL outs ex st.T.fn st.m.get ds ∧ ∀ o ∈ outs, Inv o.2.1 ∧ o.2.1.b = st.b := by
      intro ex h
      simp only [Option.some.injEq] at h; subst h
      exact ⟨⟨_, List.mem_singleton.2 rfl, rfl, rfl, rfl, rfl⟩, fun o ho => by simp only [List.mem_singleton] at ho; subst ho; exact ⟨hI, rfl⟩⟩
    cases c with
    | skip =>
      have h : some [(Ex.nm, st, ds, nx)] = some outs := h
      exact ⟨⟨CodeT.skip (one h).1, (one h).2⟩, fun c' e => by cases e⟩
    | label l =>
      have h : some [(Ex.nm, st, ds, nx)] = some outs := h
      exact ⟨⟨CodeT.label (one h).1, (one h).2⟩, fun c' e => by cases e⟩
    | exit id =>
      have h : some [(Ex.ext id, st, ds, nx)] = some outs := h
      exact ⟨⟨CodeT.exit (one h).1, (one h).2⟩, fun c' e => by cases e⟩
    | ret =>
      have h : some [(Ex.ret, st, ds, nx)] = some outs := h
      exact ⟨⟨CodeT.ret (one h).1, (one h).2⟩, fun c' e => by cases e⟩
    | seq x y =>
      refine ⟨?_, fun c' e => by cases e⟩
      have h : (match evCode P H rd n k x st ds nx with
        | some outs => bindL (fun (o : Oc) => match o.1 with
          | .nm => evCode P H rd n k y o.2.1 o.2.2.1 o.2.2.2
          | _ => some [o]) outs
        | none => none) = some outs := h
      split at h
      · rename_i os ho
        obtain ⟨⟨g1, g2⟩, _⟩ := ih x st ds nx os ho hI
        refine ⟨CodeT.seq g1 ?_ ?_, ?_⟩
        · rintro T' m' ds' ⟨o, hm, he, rfl, rfl, rfl⟩
          obtain ⟨a, h1, h2⟩ := bindL_mem h o hm
          rw [he] at h1
          exact ((ih y _ _ _ a h1 (g2 o hm).1).1.1).mono (PostL.sub h2)
        · rintro ex T' m' ds' hne ⟨o, hm, he, rfl, rfl, rfl⟩
          obtain ⟨a, h1, h2⟩ := bindL_mem h o hm
          rw [he] at h1
          cases ex with
          | nm => cases hne
          | _ => simp only [Option.some.injEq] at h1; subst h1; exact ⟨o, h2 _ (by simp), he, rfl, rfl, rfl⟩
        · intro y' hy'
          obtain ⟨o, hm, a, h1, h2⟩ := bindL_out h y' hy'
          cases he : o.1 with
          | nm =>
            rw [he] at h1
            have := (ih y _ _ _ a h1 (g2 o hm).1).1.2 y' h2
            exact ⟨this.1, this.2.trans (g2 o hm).2⟩
          | _ =>
            rw [he] at h1
            simp only [Option.some.injEq] at h1; subst h1
            simp only [List.mem_singleton] at h2; subst h2
            exact g2 _ hm
      · cases h
    | cond cc x y =>
      refine ⟨?_, fun c' e => by cases e⟩
      have h : (match evT st.T.fn cc with
        | .d (.v (.bool b)) => evCode P H rd n k (cond b x y) st ds nx
        | _ => none) = some outs := h
      split at h
      · rename_i b hb
        have := (ih _ st ds nx outs h hI).1
        refine ⟨CodeT.cond hb ?_, this.2⟩
        cases b <;> exact this.1
      · cases h
    | block id x =>
      refine ⟨?_, fun c' e => by cases e⟩
      have h : (match evCode P H rd n k x st ds nx with
        | some outs => some (outs.map fun (o : Oc) => (inB id o.1, o.2))
        | none => none) = some outs := h
      split at h
      · rename_i os ho
        simp only [Option.some.injEq] at h; subst h
        obtain ⟨⟨g1, g2⟩, _⟩ := ih x st ds nx os ho hI
        refine ⟨CodeT.block g1 ?_, ?_⟩
        · rintro ex T' m' ds' ⟨o, hm, rfl, rfl, rfl, rfl⟩
          exact ⟨_, List.mem_map.2 ⟨o, hm, rfl⟩, rfl, rfl, rfl, rfl⟩
        · intro o' ho'
          obtain ⟨o, hm, rfl⟩ := List.mem_map.1 ho'
          exact g2 o hm
      · cases h
    | loop x =>
      have h : (match evCode P H rd n k x st ds nx with
        | some outs => bindL (fun (o : Oc) => match o.1 with
          | .nm => evCode P H rd n k (.loop x) o.2.1 o.2.2.1 o.2.2.2
          | _ => some [o]) outs
        | none => none) = some outs := h
      have hL : LoopT P rd n x (PostL outs) (k + 1) st.T.fn st.m.get ds ∧ ∀ o ∈ outs, Inv o.2.1 ∧ o.2.1.b = st.b := by
        split at h
        · rename_i os ho
          obtain ⟨⟨g1, g2⟩, _⟩ := ih x st ds nx os ho hI
          refine ⟨⟨PostL os, g1, ?_, ?_⟩, ?_⟩
          · rintro T' m' ds' ⟨o, hm, he, rfl, rfl, rfl⟩
            obtain ⟨a, h1, h2⟩ := bindL_mem h o hm
            rw [he] at h1
            exact LoopT.mono (PostL.sub h2) k _ _ _ ((ih (.loop x) _ _ _ a h1 (g2 o hm).1).2 x rfl)
          · rintro ex T' m' ds' hne ⟨o, hm, he, rfl, rfl, rfl⟩
            obtain ⟨a, h1, h2⟩ := bindL_mem h o hm
            rw [he] at h1
            cases ex with
            | nm => cases hne
            | _ => simp only [Option.some.injEq] at h1; subst h1; exact ⟨o, h2 _ (by simp), he, rfl, rfl, rfl⟩
          · intro y' hy'
            obtain ⟨o, hm, a, h1, h2⟩ := bindL_out h y' hy'
            cases he : o.1 with
            | nm =>
              rw [he] at h1
              have := (ih (.loop x) _ _ _ a h1 (g2 o hm).1).1.2 y' h2
              exact ⟨this.1, this.2.trans (g2 o hm).2⟩
            | _ =>
              rw [he] at h1
              simp only [Option.some.injEq] at h1; subst h1
              simp only [List.mem_singleton] at h2; subst h2
              exact g2 _ hm
        · cases h
      exact ⟨⟨CodeT.loop hL.1, hL.2⟩, fun c' e => by cases e; exact hL.1⟩
    | scope x =>
      refine ⟨?_, fun c' e => by cases e⟩
      have h : evCode P H rd n k x st ds nx = some outs := h
      have := (ih x st ds nx outs h hI).1
      exact ⟨CodeT.scope this.1, this.2⟩
    | region id ops draw =>
      refine ⟨?_, fun c' e => by cases e⟩
      have h : cond draw (evDraw P H n ops ds st nx) (evOps P H rd n ops ops.toList ds st nx) = some outs := h
      cases draw with
      | true => exact evDraw_ok hmix hH h hI
      | false =>
        have := evOps_ok (rd := rd) hH ops.toList 0 ds st nx outs (by simp) h hI
        refine ⟨CodeT.region ?_, this.2⟩
        rw [List.range_eq_range']
        simpa using this.1
    | rangeFunc g ps asg bod =>
      refine ⟨?_, fun c' e => by cases e⟩
      have h : cond rd none (evRF H n g ps asg bod st ds nx) = some outs := h
      cases rd with
      | true => cases h
      | false => exact evRF_ok hH h hI
    | goto l => cases h
    | refuse s => cases h
end
end Go.Pv

namespace Go.Pv
open Go.RowKit
set_option linter.unusedVariables false
set_option linter.unusedSimpArgs false
set_option linter.constructorNameAsVariable false

section
variable {P : Program} {H : Hd}

theorem argsTr_fn : ∀ (as : List A) (k : Nat) (t : Tb) (n : Nat), (argsTr as k t).fn n = if k ≤ n ∧ n - k < as.length then (as[n - k]?).getD .x else t.fn n
  | [], k, t, n => by simp [argsTr]
  | a :: r, k, t, n => by
    simp only [argsTr]
    rw [argsTr_fn r (k + 1), Tb.fn_set]
    by_cases h1 : k = n
    · subst h1
      rw [if_neg (by omega), if_pos (by simp)]
      simp [setT]
    · by_cases h2 : k + 1 ≤ n ∧ n - (k + 1) < r.length
      · rw [if_pos h2, if_pos (by simp; omega)]
        have : n - k = (n - (k + 1)) + 1 := by omega
        rw [this]; simp
      · rw [if_neg h2, if_neg (by simp; omega)]
        simp [setT, h1]

theorem argsTr_eq (as : List A) : (argsTr as 0 Tb.nil).fn = argsT as := by
  funext n
  rw [argsTr_fn]
  unfold argsT
  by_cases h : n < as.length
  · rw [if_pos (by simpa using h)]; simp
  · rw [if_neg (by simp; omega), List.getElem?_eq_none (by omega), Tb.fn_nil]; rfl

theorem setPsTr_eq : ∀ (ps : List (Tmp × A)) (t : Tb), (setPsTr ps t).fn = setPs ps t.fn
  | [], t => rfl
  | p :: r, t => by simp only [setPsTr, setPs]; rw [setPsTr_eq r, Tb.fn_set]

theorem applyU_cases' : ∀ {u : List (Nat × R)} {m : Mem} {i : Nat} {r : R}, applyU m u i = some r → (i, r) ∈ u ∨ (m i = some r ∧ ∀ p ∈ u, p.1 ≠ i)
  | [], m, i, r, h => .inr ⟨h, by simp⟩
  | (j, q) :: t, m, i, r, h => by
    simp only [applyU] at h
    rcases applyU_cases' h with h | ⟨h, h2⟩
    · exact .inl (by simp [h])
    · unfold setM at h
      split at h
      · rename_i e; simp at h; subst h; subst e; exact .inl (by simp)
      · rename_i e
        refine .inr ⟨h, fun p hp => ?_⟩
        simp only [List.mem_cons] at hp
        rcases hp with rfl | hp
        · exact Ne.symm e
        · exact h2 p hp

theorem applyU_key : ∀ {u : List (Nat × R)} {m : Mem} {p : Nat × R}, p ∈ u → applyU m u p.1 ≠ none
  | [], m, p, h => by simp at h
  | (j, q) :: t, m, p, h => by
    simp only [applyU]
    simp only [List.mem_cons] at h
    rcases h with rfl | h
    · exact applyU_ne (by simp [setM])
    · exact applyU_key h

theorem oldU_ok {g : R → R} {m : Tr R} : ∀ {l : List Nat} {u : List (Nat × R)}, oldU g m l = some u → (∀ p ∈ u, ∃ r, m.get p.1 = some r ∧ p.2 = g r) ∧ ∀ i ∈ l, ∃ p ∈ u, p.1 = i
  | [], u, h => by simp only [oldU, Option.some.injEq] at h; subst h; simp
  | i :: l, u, h => by
    simp only [oldU] at h
    split at h
    · rename_i r u' h1 h2
      simp only [Option.some.injEq] at h; subst h
      obtain ⟨g1, g2⟩ := oldU_ok h2
      refine ⟨fun p hp => ?_, fun j hj => ?_⟩
      · simp only [List.mem_cons] at hp
        rcases hp with rfl | hp
        · exact ⟨r, h1, rfl⟩
        · exact g1 p hp
      · simp only [List.mem_cons] at hj
        rcases hj with rfl | hj
        · exact ⟨(j, g r), by simp, rfl⟩
        · obtain ⟨p, hp, e⟩ := g2 j hj
          exact ⟨p, by simp [hp], e⟩
    · cases h

theorem hsU_mem {u : List (Nat × R)} {p : Nat × R} (hp : p ∈ u) : ∀ j ∈ p.2.hs, j ∈ hsU u := by
  induction u with
  | nil => simp at hp
  | cons q u ih =>
    obtain ⟨i, r⟩ := q
    intro j hj
    simp only [hsU, List.mem_append]
    simp only [List.mem_cons] at hp
    rcases hp with rfl | hp
    · exact .inl hj
    · exact .inr (ih hp j hj)

theorem reach_ok {g : R → R} {b m : Tr R} : ∀ (f : Nat) (w : List Nat) (vis : Tr Unit) (acc acc2 : List (Nat × R)), reach g b m f w vis acc = some acc2 → (∀ p ∈ acc, ∃ r, m.get p.1 = some r ∧ p.2 = g r) → (∀ p ∈ acc, ∀ j ∈ p.2.hs, b.get j ≠ none ∨ (∃ q ∈ acc, q.1 = j) ∨ j ∈ w) → (∀ i, vis.get i ≠ none → ∃ q ∈ acc, q.1 = i) →
    (∀ p ∈ acc2, ∃ r, m.get p.1 = some r ∧ p.2 = g r) ∧ (∀ p ∈ acc, p ∈ acc2) ∧ (∀ p ∈ acc2, ∀ j ∈ p.2.hs, b.get j ≠ none ∨ ∃ q ∈ acc2, q.1 = j) ∧ ∀ j ∈ w, b.get j ≠ none ∨ ∃ q ∈ acc2, q.1 = j
  | 0, w, vis, acc, acc2, h, _, _, _ => by simp [reach] at h
  | f + 1, [], vis, acc, acc2, h, h1, h2, h3 => by
    simp only [reach, Option.some.injEq] at h; subst h
    exact ⟨h1, fun p hp => hp, fun p hp j hj => (h2 p hp j hj).imp id fun x => x.resolve_right (by simp), by simp⟩
  | f + 1, i :: w, vis, acc, acc2, h, h1, h2, h3 => by
    simp only [reach] at h
    split at h
    · rename_i q hq
      obtain ⟨g1, g2, g3, g4⟩ := reach_ok f w vis acc acc2 h h1 (fun p hp j hj => by
        rcases h2 p hp j hj with x | x | x
        · exact .inl x
        · exact .inr (.inl x)
        · simp only [List.mem_cons] at x
          rcases x with rfl | x
          · exact .inl (by rw [hq]; simp)
          · exact .inr (.inr x)) h3
      refine ⟨g1, g2, g3, fun j hj => ?_⟩
      simp only [List.mem_cons] at hj
      rcases hj with rfl | hj
      · exact .inl (by rw [hq]; simp)
      · exact g4 j hj
    · split at h
      · rename_i q hq
        have hi := h3 i (by rw [hq]; simp)
        obtain ⟨g1, g2, g3, g4⟩ := reach_ok f w vis acc acc2 h h1 (fun p hp j hj => by
          rcases h2 p hp j hj with x | x | x
          · exact .inl x
          · exact .inr (.inl x)
          · simp only [List.mem_cons] at x
            rcases x with rfl | x
            · exact .inr (.inl hi)
            · exact .inr (.inr x)) h3
        refine ⟨g1, g2, g3, fun j hj => ?_⟩
        simp only [List.mem_cons] at hj
        rcases hj with rfl | hj
        · obtain ⟨q, hq, e⟩ := hi
          exact .inr ⟨q, g2 q hq, e⟩
        · exact g4 j hj
      · split at h
        · rename_i r hr
          obtain ⟨g1, g2, g3, g4⟩ := reach_ok f ((g r).hs ++ w) (Tr.set fM vis i ()) ((i, g r) :: acc) acc2 h (fun p hp => by
            simp only [List.mem_cons] at hp
            rcases hp with rfl | hp
            · exact ⟨r, hr, rfl⟩
            · exact h1 p hp) (fun p hp j hj => by
            simp only [List.mem_cons] at hp
            rcases hp with rfl | hp
            · exact .inr (.inr (by simp [hj]))
            · rcases h2 p hp j hj with x | ⟨q, hq, e⟩ | x
              · exact .inl x
              · exact .inr (.inl ⟨q, by simp [hq], e⟩)
              · simp only [List.mem_cons] at x
                rcases x with rfl | x
                · exact .inr (.inl ⟨(j, g r), by simp, rfl⟩)
                · exact .inr (.inr (by simp [x]))) (fun j e => by
            rw [Tr.get_set] at e
            split at e
            · rename_i e2; subst e2; exact ⟨(j, g r), by simp, rfl⟩
            · obtain ⟨q, hq, e⟩ := h3 j e
              exact ⟨q, by simp [hq], e⟩)
          refine ⟨g1, fun p hp => g2 p (by simp [hp]), g3, fun j hj => ?_⟩
          simp only [List.mem_cons] at hj
          rcases hj with rfl | hj
          · exact .inr ⟨(j, g r), g2 _ (by simp), rfl⟩
          · exact g4 j (by simp [hj])
        · cases h

theorem cutU_gen {g : R → R} {st : St} {r : Rt} {u : List (Nat × R)} (h : cutU g st r = some u) (hI : Inv st) : (∀ i q, applyU st.b.get u i = some q → (∃ r, st.m.get i = some r ∧ q = g r ∧ ∃ p ∈ u, p.1 = i) ∨ (st.m.get i = some q ∧ ∀ p ∈ u, p.1 ≠ i)) ∧ (∀ i ∈ r.hs, applyU st.b.get u i ≠ none) ∧ ∀ p ∈ u, ∀ j ∈ p.2.hs, applyU st.b.get u j ≠ none := by
  unfold cutU at h
  split at h
  · rename_i u0 hu0
    obtain ⟨k1, k2⟩ := oldU_ok hu0
    obtain ⟨g1, g2, g3, g4⟩ := reach_ok _ _ _ _ _ h k1 (fun p hp j hj => .inr (.inr (by simp only [List.mem_append]; exact .inr (hsU_mem hp j hj)))) (fun i e => by simp [Tr.get_nil] at e)
    have key : ∀ j, (st.b.get j ≠ none ∨ ∃ q ∈ u, q.1 = j) → applyU st.b.get u j ≠ none := by
      rintro j (x | ⟨q, hq, rfl⟩)
      · exact applyU_ne x
      · exact applyU_key hq
    refine ⟨fun i q hq => ?_, fun i hi => key i (g4 i (by simp [hi])), fun p hp j hj => key j (g3 p hp j hj)⟩
    rcases applyU_cases' hq with x | ⟨x, y⟩
    · obtain ⟨r, e1, e2⟩ := g1 (i, q) x
      exact .inl ⟨r, e1, e2, (i, q), x, rfl⟩
    · refine .inr ⟨hI i q x fun e => ?_, y⟩
      obtain ⟨p, hp, e⟩ := k2 i e
      exact y p (g2 p hp) e
  · cases h

theorem cutU_ok {st : St} {r : Rt} {u : List (Nat × R)} (h : cutU id st r = some u) (hI : Inv st) : (∀ i q, applyU st.b.get u i = some q → st.m.get i = some q) ∧ (∀ i ∈ r.hs, applyU st.b.get u i ≠ none) ∧ ∀ p ∈ u, ∀ j ∈ p.2.hs, applyU st.b.get u j ≠ none := by
  obtain ⟨g1, g2, g3⟩ := cutU_gen h hI
  refine ⟨fun i q hq => ?_, g2, g3⟩
  rcases g1 i q hq with ⟨r, e, rfl, _⟩ | ⟨e, _⟩
  · exact e
  · exact e

theorem cutN_ok {st : St} {r : Rt} {u : List (Nat × R)} (h : cutU normR st r = some u) (hI : Inv st) : ∃ X, (∀ i q, applyU st.b.get u i = some q → normM X st.m.get i = some q) ∧ (∀ i ∈ r.hs, applyU st.b.get u i ≠ none) ∧ ∀ p ∈ u, ∀ j ∈ p.2.hs, applyU st.b.get u j ≠ none := by
  obtain ⟨g1, g2, g3⟩ := cutU_gen h hI
  refine ⟨fun i => u.any fun p => p.1 == i, fun i q hq => ?_, g2, g3⟩
  unfold normM
  rcases g1 i q hq with ⟨r, e, rfl, p, hp, e2⟩ | ⟨e, hne⟩
  · have hin : (u.any fun p => p.1 == i) = true := List.any_eq_true.2 ⟨p, hp, by simp [e2]⟩
    simp only [hin, cond_true, e, Option.map_some]
  · have hno : (u.any fun p => p.1 == i) = false := by
      cases hb : u.any fun p => p.1 == i with
      | false => rfl
      | true =>
        obtain ⟨p, hp, e⟩ := List.any_eq_true.1 hb
        exact absurd (by simpa using e) (hne p hp)
    simp only [hno, cond_false, e]

theorem cutU_all {g : R → R} {st : St} {r : Rt} {u : List (Nat × R)} (h : cutU g st r = some u) : ∀ p ∈ u, ∃ q, st.m.get p.1 = some q ∧ p.2 = g q := by
  unfold cutU at h
  split at h
  · rename_i u0 hu0
    obtain ⟨k1, k2⟩ := oldU_ok hu0
    exact (reach_ok _ _ _ _ _ h k1 (fun p hp j hj => .inr (.inr (by simp only [List.mem_append]; exact .inr (hsU_mem hp j hj)))) (fun i e => by simp [Tr.get_nil] at e)).1
  · cases h

/-- a table, as pairs -/
structure RepT (b : Tr R) (c : Nat) (t : Tr Nat) (ps : List (Nat × Nat)) : Prop where
  get : ∀ i k, t.get i = some k ↔ (i, k) ∈ ps
  fst : (ps.map (·.1)).Nodup
  snd : (ps.map (·.2)).Nodup
  free : ∀ p ∈ ps, b.get p.1 = none ∧ b.get p.2 = none ∧ p.2 < c

theorem canonT_ok {b : Tr R} : ∀ {u : List (Nat × R)} {c : Nat} {t t' : Tr Nat} {ps : List (Nat × Nat)}, canonT b u c t = some t' → RepT b c t ps →
    ∃ c' ps', RepT b c' t' ps' ∧ (∀ p ∈ ps, p ∈ ps') ∧ ∀ p ∈ u, p.2.noIt = true ∧ (b.get p.1 ≠ none ∨ ∃ k, (p.1, k) ∈ ps')
  | [], c, t, t', ps, h, hr => by
    simp only [canonT, Option.some.injEq] at h; subst h
    exact ⟨c, ps, hr, fun _ h => h, by simp⟩
  | (i, r) :: u, c, t, t', ps, h, hr => by
    simp only [canonT] at h
    rw [Bool.cond_eq_ite] at h
    split at h
    · rename_i hn
      split at h
      · rename_i q hq
        obtain ⟨c', ps', h1, h2, h3⟩ := canonT_ok h hr
        refine ⟨c', ps', h1, h2, fun p hp => ?_⟩
        simp only [List.mem_cons] at hp
        rcases hp with rfl | hp
        · exact ⟨hn, .inl (by rw [hq]; simp)⟩
        · exact h3 p hp
      · rename_i hbi
        split at h
        · cases h
        · rename_i hti
          split at h
          · cases h
          · rename_i hbc
            have hr' : RepT b (c + 1) (Tr.set fM t i c) ((i, c) :: ps) := by
              refine ⟨fun j k => ?_, ?_, ?_, ?_⟩
              · rw [Tr.get_set]
                by_cases e : j = i
                · subst e
                  simp only [if_true, Option.some.injEq, List.mem_cons, Prod.mk.injEq, true_and]
                  constructor
                  · intro e; exact .inl e.symm
                  · rintro (e | e)
                    · exact e.symm
                    · have := (hr.get j k).2 e; rw [hti] at this; cases this
                · simp only [if_neg e, List.mem_cons, Prod.mk.injEq, e, false_and, false_or]
                  exact hr.get j k
              · simp only [List.map_cons, List.nodup_cons]
                refine ⟨fun e => ?_, hr.fst⟩
                obtain ⟨p, hp, e⟩ := List.mem_map.1 e
                have := (hr.get p.1 p.2).2 hp
                rw [e, hti] at this; cases this
              · simp only [List.map_cons, List.nodup_cons]
                refine ⟨fun e => ?_, hr.snd⟩
                obtain ⟨p, hp, e⟩ := List.mem_map.1 e
                have := (hr.free p hp).2.2; omega
              · intro p hp
                simp only [List.mem_cons] at hp
                rcases hp with rfl | hp
                · exact ⟨hbi, hbc, by omega⟩
                · have := hr.free p hp; exact ⟨this.1, this.2.1, by omega⟩
            obtain ⟨c', ps', h1, h2, h3⟩ := canonT_ok h hr'
            refine ⟨c', ps', h1, fun p hp => h2 p (by simp [hp]), fun p hp => ?_⟩
            simp only [List.mem_cons] at hp
            rcases hp with rfl | hp
            · exact ⟨hn, .inr ⟨c, h2 _ (by simp)⟩⟩
            · exact h3 p hp
    · cases h

theorem endOne_ok {cb : Option Nat} {st : St} {r0 r : Rt} {u : List (Nat × R)} (h : endOne cb st r0 = some (r, u)) (hI : Inv st) :
    ∃ X, RenTo st.b.get (normM X st.m.get) r0 (applyU st.b.get u) r ∧ (∀ i ∈ r.hs, applyU st.b.get u i ≠ none) ∧ ∀ p ∈ u, ∀ j ∈ p.2.hs, applyU st.b.get u j ≠ none := by
  unfold endOne at h
  split at h
  · cases h
  · rename_i u1 hu1
    obtain ⟨X, k1, k2, k3⟩ := cutN_ok hu1 hI
    split at h
    · simp only [Option.some.injEq, Prod.mk.injEq] at h
      obtain ⟨rfl, rfl⟩ := h
      exact ⟨X, RenTo.refl k1, k2, k3⟩
    · rename_i base
      unfold canon at h
      split at h
      · rename_i t ht
        simp only [Option.some.injEq, Prod.mk.injEq] at h
        obtain ⟨rfl, rfl⟩ := h
        obtain ⟨c', ps, hps, _, hcov⟩ := canonT_ok ht (ps := []) ⟨fun i k => by simp [Tr.get_nil], by simp, by simp, by simp⟩
        obtain ⟨g, gi, g1, g2, g3, g4⟩ := exists_perm ps hps.fst hps.snd
        have hall := cutU_all hu1
        have hgen := (cutU_gen hu1 hI).1
        -- the table and the bijection agree
        have fix : ∀ i, st.b.get i ≠ none → g i = i ∧ renF t i = i := by
          intro i hi
          have n1 : i ∉ ps.map (·.1) := fun e => by
            obtain ⟨p, hp, rfl⟩ := List.mem_map.1 e; exact hi (hps.free p hp).1
          have n2 : i ∉ ps.map (·.2) := fun e => by
            obtain ⟨p, hp, rfl⟩ := List.mem_map.1 e; exact hi (hps.free p hp).2.1
          refine ⟨g4 i n1 n2, ?_⟩
          unfold renF
          cases e : t.get i with
          | none => rfl
          | some k => exact absurd (List.mem_map.2 ⟨_, (hps.get i k).1 e, rfl⟩) n1
        have agree : ∀ i, (st.b.get i ≠ none ∨ ∃ k, (i, k) ∈ ps) → renF t i = g i := by
          rintro i (hi | ⟨k, hk⟩)
          · rw [(fix i hi).1, (fix i hi).2]
          · have e := (hps.get i k).2 hk
            unfold renF; rw [e]
            exact (g3 _ hk).symm
        have dom : ∀ i, applyU st.b.get u1 i ≠ none → st.b.get i ≠ none ∨ ∃ k, (i, k) ∈ ps := by
          intro i hi
          cases hq : applyU st.b.get u1 i with
          | none => exact absurd hq hi
          | some q =>
            rcases applyU_cases' hq with e | ⟨e, _⟩
            · exact (hcov _ e).2
            · exact .inl (by rw [e]; simp)
        have into : ∀ i, applyU st.b.get u1 i ≠ none → applyU st.b.get (u1.map fun p => (renF t p.1, p.2.ren (renF t))) (renF t i) ≠ none := by
          intro i hi
          cases hq : applyU st.b.get u1 i with
          | none => exact absurd hq hi
          | some q =>
            rcases applyU_cases' hq with e | ⟨e, _⟩
            · exact applyU_key (p := (renF t i, q.ren (renF t))) (List.mem_map.2 ⟨_, e, rfl⟩)
            · have : st.b.get i ≠ none := by rw [e]; simp
              rw [(fix i this).2]
              exact applyU_ne this
        refine ⟨fun i => u1.any fun p => p.1 == i, ⟨g, gi, g1, g2, fun i hi => (fix i hi).1, Rt.ren_congr r0 fun i hi => agree i (dom i (k2 i hi)), ?_⟩, ?_, ?_⟩
        · intro i q hq
          rcases applyU_cases' hq with e | ⟨e, hne⟩
          · obtain ⟨p, hp, e2⟩ := List.mem_map.1 e
            simp only [Prod.mk.injEq] at e2
            obtain ⟨rfl, rfl⟩ := e2
            obtain ⟨q0, m1, m2⟩ := hall p hp
            left
            refine ⟨p.2, ?_, R.ren_congr _ (hcov p hp).1 fun j hj => agree j (dom j (k3 p hp j hj))⟩
            rw [agree p.1 (hcov p hp).2, g1]
            unfold normM
            have hin : (u1.any fun p' => p'.1 == p.1) = true := List.any_eq_true.2 ⟨p, hp, by simp⟩
            simp only [hin, cond_true, m1, Option.map_some, m2]
          · right
            refine ⟨e, ?_⟩
            have hbi : st.b.get i ≠ none := by rw [e]; simp
            have hno : ∀ p ∈ u1, p.1 ≠ i := by
              rintro p hp rfl
              exact hne _ (List.mem_map.2 ⟨p, hp, rfl⟩) (fix p.1 hbi).2
            have hq1 : applyU st.b.get u1 i = some q := by
              cases hq2 : applyU st.b.get u1 i with
              | none => exact absurd hq2 (applyU_ne hbi)
              | some q' =>
                rcases applyU_cases' hq2 with e' | ⟨e', _⟩
                · exact absurd rfl (hno _ e')
                · rw [e] at e'; exact e'.symm
            have hnone : (u1.any fun p => p.1 == i) = false := by
              cases hb : u1.any fun p => p.1 == i with
              | false => rfl
              | true =>
                obtain ⟨p, hp, e⟩ := List.any_eq_true.1 hb
                exact absurd (by simpa using e) (hno p hp)
            unfold normM
            simp only [hnone, cond_false]
            rcases hgen i q hq1 with ⟨_, _, _, p, hp, e2⟩ | ⟨e2, _⟩
            · exact absurd e2 (hno p hp)
            · exact e2
        · intro i hi
          rw [Rt.hs_ren] at hi
          obtain ⟨j, hj, rfl⟩ := List.mem_map.1 hi
          exact into j (k2 j hj)
        · intro p hp j hj
          obtain ⟨p0, hp0, rfl⟩ := List.mem_map.1 hp
          simp only [R.hs_ren] at hj
          obtain ⟨j0, hj0, rfl⟩ := List.mem_map.1 hj
          exact into j0 (k3 p0 hp0 j0 hj0)
      · cases h

theorem rtEqb_eq {a b : Rt} (h : rtEqb a b = true) : a = b := by
  cases a <;> cases b <;> simp only [rtEqb] at h
  · rw [A.eqb_eq _ _ h]
  · cases h
  · cases h
  · rw [A.eqb_eq _ _ h]
theorem uEqb_eq : ∀ {a b : List (Nat × R)}, uEqb a b = true → a = b
  | [], [], _ => rfl
  | [], _ :: _, h => by cases h
  | (i, r) :: u, [], h => by cases h
  | (i, r) :: u, (j, s) :: v, h => by
    simp only [uEqb, Bool.and_eq_true] at h
    rw [Nat.eq_of_beq_eq_true h.1, R.eqb_eq _ _ h.2.1, uEqb_eq h.2.2]

theorem mdEqb_eq {a b : Md} (h : mdEqb a b = true) : a = b := by
  cases a <;> cases b <;> simp only [mdEqb] at h
  · rfl
  · cases h
  · cases h
  · rw [A.eqb_eq _ _ h]

theorem inv_begin (T : Tb) (t : Tr R) : Inv ⟨T, t, t, []⟩ := fun i q h _ => h

/-- what the outcomes of a deferred call's code say -/
def PostM (outs : List (Oc × Mr)) : PostD := fun ex T m ds mr => ∃ o ∈ outs, o.1.1 = ex ∧ T = o.1.2.1.T.fn ∧ m = o.1.2.1.m.get ∧ ds = o.1.2.2.1 ∧ mr = o.2

theorem CodeD.mono {n : Nat} {c : Code} {T : Nat → A} {m : Mem} {ds : List DA} {md : Mr} {Post1 Post : PostD} (h : CodeD P n c T m ds md Post1) (hp : ∀ ex T' m' ds' md', Post1 ex T' m' ds' md' → Post ex T' m' ds' md') : CodeD P n c T m ds md Post := by
  intro M0 S0 w0 ρ a w c₀ cs u hu hmd hs hlt Q hQ
  exact h M0 S0 w0 ρ a w c₀ cs u hu hmd hs hlt Q fun ex e T' m' ds' md' ρ' a' w' u' q => hQ ex e T' m' ds' md' ρ' a' w' u' (hp _ _ _ _ _ q)

theorem evS_plain (hmix : P.follows .mixedOrders = true) (hH : HdOk P H) {n : Nat} {c : Code} {st : St} {mr : Mr} {nx : Nat} {outs : List (Oc × Mr)} (h : (match evCode P H false n fK c st [] nx with
      | some outs => some (outs.map fun o => (o, mr))
      | none => none) = some outs) (hI : Inv st) : CodeD P n c st.T.fn st.m.get [] mr (PostM outs) ∧ ∀ o ∈ outs, Inv o.1.2.1 ∧ o.1.2.1.b = st.b := by
  split at h
  · rename_i os hos
    simp only [Option.some.injEq] at h; subst h
    obtain ⟨⟨g1, g2⟩, _⟩ := evCode_ok hmix hH fK c st [] nx os hos hI
    refine ⟨CodeD.of g1 ?_, ?_⟩
    · rintro ex T' m' ds' ⟨o, ho, rfl, rfl, rfl, rfl⟩
      exact ⟨(o, mr), List.mem_map.2 ⟨o, ho, rfl⟩, rfl, rfl, rfl, rfl, rfl⟩
    · rintro o ho
      obtain ⟨o', ho', rfl⟩ := List.mem_map.1 ho
      exact g2 o' ho'
  · cases h

theorem evS_ok (hmix : P.follows .mixedOrders = true) (hH : HdOk P H) {n : Nat} : ∀ (k : Nat) (c : Code) (st : St) (mr : Mr) (nx : Nat) (outs : List (Oc × Mr)), evS P H n k c st mr nx = some outs → Inv st →
    CodeD P n c st.T.fn st.m.get [] mr (PostM outs) ∧ ∀ o ∈ outs, Inv o.1.2.1 ∧ o.1.2.1.b = st.b
  | 0, c, st, mr, nx, outs, h, _ => by cases h
  | k + 1, c, st, mr, nx, outs, h, hI => by
    unfold evS at h
    split at h
    · rename_i x y
      split at h
      · rename_i os ho
        obtain ⟨g1, g2⟩ := evS_ok hmix hH k x st mr nx os ho hI
        have hds : ∀ o ∈ os, o.1.1 = .nm → o.1.2.2.1 = [] := by
          intro o hm he
          obtain ⟨a, h1, h2⟩ := bindL_mem h o hm
          rw [he] at h1
          simp only at h1
          split at h1
          · assumption
          · cases h1
        refine ⟨CodeD.seq g1 ?_ ?_, ?_⟩
        · rintro T' m' ds' md' ⟨o, hm, he, rfl, rfl, rfl, rfl⟩
          obtain ⟨a, h1, h2⟩ := bindL_mem h o hm
          have hd := hds o hm he
          rw [he] at h1
          simp only [hd] at h1
          rw [hd]
          exact ((evS_ok hmix hH k y _ _ _ a h1 (g2 o hm).1).1).mono fun ex T m ds mr ⟨q, hq, z⟩ => ⟨q, h2 q hq, z⟩
        · rintro ex T' m' ds' md' hne ⟨o, hm, he, rfl, rfl, rfl, rfl⟩
          obtain ⟨a, h1, h2⟩ := bindL_mem h o hm
          rw [he] at h1
          cases ex with
          | nm => cases hne
          | _ =>
            simp only [Option.some.injEq] at h1; subst h1
            exact ⟨o, h2 o (by simp), he, rfl, rfl, rfl, rfl⟩
        · intro o ho'
          obtain ⟨q, hq, a, h1, h2⟩ := bindL_out h o ho'
          cases hex : q.1.1 with
          | nm =>
            have hd := hds q hq hex
            rw [hex] at h1
            simp only [hd] at h1
            have := (evS_ok hmix hH k y _ _ _ a h1 (g2 q hq).1).2 o h2
            exact ⟨this.1, this.2.trans (g2 q hq).2⟩
          | _ =>
            rw [hex] at h1
            simp only [Option.some.injEq] at h1; subst h1
            simp only [List.mem_singleton] at h2; subst h2
            exact g2 _ hq
      · cases h
    · rename_i id ops
      split at h
      · rename_i o r hops
        cases hrec : isRec o with
        | false =>
          rw [hrec] at h
          simp only [cond_false] at h
          exact evS_plain hmix hH h hI
        | true =>
          rw [hrec] at h
          simp only [cond_true] at h
          split at h
          · rename_i hd
            split at h
            · rename_i os hos
              obtain ⟨hall, h⟩ := cond_none h
              simp only [Option.some.injEq] at h; subst h
              have h0 : ops[0]? = some o := by
                have : ops.toList[0]? = some o := by rw [hops]; rfl
                simpa using this
              have hsz : r.length = ops.size - 1 := by
                have := congrArg List.length hops
                simp at this; omega
              have hev := evOps_ok (rd := false) hH r 1 [] _ nx os (by rw [hops]; rfl) hos (hI.upd _ _ _)
              simp only [St.upd_def, Tb.fn_put, Tr.get_setU, applyU] at hev
              rw [hsz] at hev
              refine ⟨CodeD.recover h0 hrec (dstLt_spec hd) hev.1 ?_, ?_⟩
              · rintro ex T' m' ds' ⟨q, hq, rfl, rfl, rfl, rfl⟩
                exact ⟨List.all_eq_true.1 hall q hq, (q, (recA mr).2), List.mem_map.2 ⟨q, hq, rfl⟩, rfl, rfl, rfl, rfl, rfl⟩
              · rintro q hq
                obtain ⟨q', hq', rfl⟩ := List.mem_map.1 hq
                exact hev.2 q' hq'
            · cases h
          · cases h
      · cases h
    · exact evS_plain hmix hH h hI

theorem goesOn_spec {ex : Ex} (h : goesOn ex = true) : ex = .nm ∨ ex = .ret := by
  cases ex <;> simp [goesOn] at h <;> simp
theorem noDs_spec {ds : List DA} (h : noDs ds = true) : ds = [] := by
  cases ds with
  | nil => rfl
  | cons _ _ => cases h

theorem endD_ok {rs : List ResultVar} : ∀ {outs : List (Oc × Mr)} {md : Md} {u : List (Nat × R)} {nx : Nat}, endD P rs outs = some (md, u, nx) →
    ∀ o ∈ outs, (o.1.1 = .nm ∨ o.1.1 = .ret) ∧ o.1.2.2.1 = [] ∧ o.2.set = md ∧ (∃ v, resV P o.1.2.1.m.get o.1.2.1.T.fn rs = some v) ∧ cutU normR o.1.2.1 (mdRt md) = some u
  | [], md, u, nx, h => by cases h
  | ((ex, st, ds, nx0), mr) :: os, md, u, nx, h => by
    simp only [endD] at h
    split at h
    · rename_i hg
      simp only [Bool.and_eq_true] at hg
      split at h
      · rename_i v u1 hv hu1
        intro o ho
        split at h
        · simp only [Option.some.injEq, Prod.mk.injEq] at h
          obtain ⟨rfl, rfl, _⟩ := h
          simp only [List.mem_singleton] at ho; subst ho
          exact ⟨goesOn_spec hg.1, noDs_spec hg.2, rfl, ⟨v, hv⟩, hu1⟩
        · split at h
          · rename_i md2 u2 nx2 he
            split at h
            · rename_i hq
              simp only [Bool.and_eq_true] at hq
              simp only [Option.some.injEq, Prod.mk.injEq] at h
              obtain ⟨rfl, rfl, _⟩ := h
              simp only [List.mem_cons] at ho
              rcases ho with rfl | ho
              · exact ⟨goesOn_spec hg.1, noDs_spec hg.2, rfl, ⟨v, hv⟩, hu1⟩
              · have := endD_ok he o ho
                rw [mdEqb_eq hq.1, uEqb_eq hq.2]; exact this
            · cases h
          · cases h
      · cases h
    · cases h

theorem mdRt_hs (md : Md) : (mdRt md).hs = md.hs := by cases md <;> rfl

theorem evD_ok (hmix : P.follows .mixedOrders = true) (hH : HdOk P H) {f : FuncId} {as : List A} {md md' : Md} {t : Tr R} {nx nx' : Nat} {u : List (Nat × R)} (h : evD P H f as md t nx = some (md', u, nx')) : DefT P f as t.get md md' (applyU t.get u) := by
  unfold evD at h
  split at h
  · rename_i fn hf
    split at h
    · rename_i c hb
      split at h
      · rename_i hcn
        simp only [Bool.and_eq_true] at hcn
        split at h
        · rename_i os hos
          obtain ⟨g1, g2⟩ := evS_ok hmix hH 64 c _ _ nx os hos (inv_begin _ t)
          rw [argsTr_eq] at g1
          have hend := endD_ok h
          have hne : ∃ o, o ∈ os := by
            cases os with
            | nil => cases h
            | cons o r => exact ⟨o, by simp⟩
          obtain ⟨o0, ho0⟩ := hne
          obtain ⟨_, _, _, _, hc0⟩ := hend o0 ho0
          obtain ⟨X0, k0⟩ := cutN_ok hc0 (g2 o0 ho0).1
          rw [(g2 o0 ho0).2, mdRt_hs] at k0
          refine defT_of_body hf hb hcn.1 (by simpa using Nat.le_of_ble_eq_true hcn.2) g1 ?_ k0.2.1 k0.2.2
          rintro ex T' m' ds' mr ⟨o, ho, rfl, rfl, rfl, rfl, rfl⟩
          obtain ⟨e1, e2, e3, e4, hc⟩ := hend o ho
          obtain ⟨X, k⟩ := cutN_ok hc (g2 o ho).1
          rw [(g2 o ho).2] at k
          exact ⟨e1, e2, e3, e4, X, k.1⟩
        · cases h
      · cases h
    · cases h
  · cases h

theorem evLeave_ok (hmix : P.follows .mixedOrders = true) (hH : HdOk P H) {fn : Func} : ∀ (ds : List DA) (md : Md) (st st' : St) (nx nx' : Nat) (r : Rt), evLeave P H fn.results.toList ds md st nx = some (r, st', nx') → Inv st → LeaveT P fn st.T.fn st.m.get ds md r st'.m.get ∧ Inv st' ∧ st'.b = st.b
  | [], .ret, st, st', nx, nx', r, h, hI => by
    simp only [evLeave] at h
    split at h
    · rename_i v hv
      simp only [Option.some.injEq, Prod.mk.injEq] at h
      obtain ⟨rfl, rfl, _⟩ := h
      exact ⟨LeaveT.ret hv, hI, rfl⟩
    · cases h
  | [], .pan v, st, st', nx, nx', r, h, hI => by
    simp only [evLeave, Option.some.injEq, Prod.mk.injEq] at h
    obtain ⟨rfl, rfl, _⟩ := h
    exact ⟨LeaveT.pan, hI, rfl⟩
  | .coll i :: ds, md, st, st', nx, nx', r, h, hI => by
    have h : (match st.m.get i with
      | some (.df false) => evLeave P H fn.results.toList ds md (st.updM [(i, .df true)]) nx
      | _ => none) = some (r, st', nx') := by cases md <;> exact h
    split at h
    · rename_i hi
      obtain ⟨g1, g2, g3⟩ := evLeave_ok hmix hH ds md _ st' nx nx' r h (hI.updM _)
      refine ⟨LeaveT.coll hi ?_, g2, g3⟩
      have : (st.updM [(i, .df true)]).m.get = setM st.m.get i (.df true) := by simp only [St.updM, Tr.get_setU, applyU]
      rw [this] at g1
      exact g1
    · cases h
  | .call g as cs :: ds, md, st, st', nx, nx', r, h, hI => by
    have h : (match (generalizing := false) g with
      | .func f => match evD P H f (as ++ cs) md st.m nx with
        | some (md', u, nx') => evLeave P H fn.results.toList ds md' (st.updM u) nx'
        | none => none
      | _ => none) = some (r, st', nx') := by cases md <;> exact h
    split at h
    · rename_i f
      split at h
      · rename_i md1 u nx1 hd
        obtain ⟨g1, g2, g3⟩ := evLeave_ok hmix hH ds md1 _ st' nx1 nx' r h (hI.updM _)
        refine ⟨LeaveT.call (evD_ok hmix hH hd) ?_, g2, g3⟩
        have : (st.updM u).m.get = applyU st.m.get u := by simp only [St.updM, Tr.get_setU]
        rw [this] at g1
        exact g1
      · cases h
    · cases h
  | .bi b tys ty bs as :: ds, md, st, st', nx, nx', r, h, hI => by
    replace h : (match (generalizing := false) b, tys.toList, as with
      | .delete, [t, _], [x, k] => match effDelete P st.m.get t x k with
        | some (true, _, u) => evLeave P H fn.results.toList ds md (st.updM u) nx
        | _ => none
      | _, _, _ => none) = some (r, st', nx') := by cases md <;> exact h
    split at h
    · rename_i tq t' x k htys
      split at h
      · rename_i v u he
        obtain ⟨g1, g2, g3⟩ := evLeave_ok hmix hH ds md _ st' nx nx' r h (hI.updM _)
        have e := arr2 htys
        subst e
        refine ⟨LeaveT.del he ?_, g2, g3⟩
        have : (st.updM u).m.get = applyU st.m.get u := by simp only [St.updM, Tr.get_setU]
        rw [this] at g1
        exact g1
      · cases h
    · cases h

theorem endAll_ok {rs : List ResultVar} {cb : Option Nat} : ∀ {outs : List Oc} {r : Rt} {u : List (Nat × R)} {nx : Nat}, endAll P H rs cb outs = some (r, u, nx) →
    ∀ o ∈ outs, ∃ md st' nx1 r0, exMd o.1 = some md ∧ evLeave P H rs o.2.2.1 md o.2.1 o.2.2.2 = some (r0, st', nx1) ∧ endOne cb st' r0 = some (r, u)
  | [], r, u, nx, h => by cases h
  | (ex, st, ds, nx0) :: os, r, u, nx, h => by
    simp only [endAll] at h
    split at h
    · cases h
    · rename_i md hmd
      split at h
      · cases h
      · rename_i rt st' nx1 hl
        split at h
        · cases h
        · rename_i rt1 u1 hu1
          intro o ho
          split at h
          · rename_i os'
            simp only [Option.some.injEq, Prod.mk.injEq] at h
            obtain ⟨rfl, rfl, _⟩ := h
            simp only [List.mem_singleton] at ho; subst ho
            exact ⟨md, st', nx1, rt, hmd, hl, hu1⟩
          · split at h
            · rename_i rt2 u2 nx2 he
              split at h
              · rename_i hq
                simp only [Bool.and_eq_true] at hq
                simp only [Option.some.injEq, Prod.mk.injEq] at h
                obtain ⟨rfl, rfl, _⟩ := h
                simp only [List.mem_cons] at ho
                rcases ho with rfl | ho
                · exact ⟨md, st', nx1, rt, hmd, hl, hu1⟩
                · have := endAll_ok he o ho
                  rw [rtEqb_eq hq.1, uEqb_eq hq.2]; exact this
              · cases h
            · cases h

theorem evFn_ok (hmix : P.follows .mixedOrders = true) (hH : HdOk P H) {f : FuncId} {as : List A} {t : Tr R} {nx nx' : Nat} {outs : List Ot} (h : evFn P H f as t nx = some (outs, nx')) : ∃ r u, outs = [(r, u)] ∧ CallT P f as t.get r (applyU t.get u) := by
  unfold evFn at h
  split at h
  · rename_i fn hf
    split at h
    · rename_i c hb
      split at h
      · rename_i hcn
        simp only [Bool.and_eq_true] at hcn
        split at h
        · rename_i os hos
          split at h
          · rename_i rt u nx1 he
            simp only [Option.some.injEq, Prod.mk.injEq] at h
            obtain ⟨rfl, _⟩ := h
            obtain ⟨⟨g1, g2⟩, _⟩ := evCode_ok hmix hH fK c _ [] nx os hos (inv_begin _ t)
            rw [argsTr_eq] at g1
            have hcut := endAll_ok he
            have hne : ∃ o, o ∈ os := by
              cases os with
              | nil => cases he
              | cons o r => exact ⟨o, by simp⟩
            obtain ⟨o0, ho0⟩ := hne
            obtain ⟨md0, st0, _, r00, _, hl0, hc0⟩ := hcut o0 ho0
            have hI0 := evLeave_ok hmix hH _ _ _ _ _ _ _ hl0 (g2 o0 ho0).1
            have hb0 : st0.b = t := hI0.2.2.trans (g2 o0 ho0).2
            obtain ⟨X0, k0⟩ := endOne_ok hc0 hI0.2.1
            rw [hb0] at k0
            refine ⟨rt, u, rfl, callT_of_body hf hb hcn.1 (by simpa using Nat.le_of_ble_eq_true hcn.2) g1 ?_ k0.2.1 k0.2.2⟩
            rintro ex T' m' ds' ⟨o, ho, rfl, rfl, rfl, rfl⟩
            obtain ⟨md, st', _, r0, hm, hl, hc⟩ := hcut o ho
            have hI' := evLeave_ok hmix hH _ _ _ _ _ _ _ hl (g2 o ho).1
            obtain ⟨X, k⟩ := endOne_ok hc hI'.2.1
            rw [hI'.2.2.trans (g2 o ho).2] at k
            exact ⟨md, normM X st'.m.get, r0, hm, hI'.1.norm X, k.1⟩
          · cases h
        · cases h
      · cases h
    · cases h
  · cases h

theorem ltAll_spec {n : Nat} : ∀ {l : List Tmp}, ltAll n l = true → ∀ p ∈ l, p < n
  | [], _, p, hp => by simp at hp
  | q :: r, h, p, hp => by
    simp only [ltAll, Bool.and_eq_true] at h
    simp only [List.mem_cons] at hp
    rcases hp with rfl | hp
    · simpa [Nat.blt_eq] using h.1
    · exact ltAll_spec h.2 p hp

theorem endRd_ok {i : Nat} : ∀ {outs : List Oc} {os : List Ot} {nx : Nat}, endRd i outs = some (os, nx) → ∀ o ∈ outs, ∃ b ls pe st2 pe2 ts ps asg bod u, exLo o.1 = some (b, ls, pe) ∧ o.2.1.m.get i = some (.lo st2 pe2 ts ps asg bod) ∧ cutU id (o.2.1.updM [(i, .lo ls pe ts ps asg bod)]) (.ok (.d (.v (.bool b)))) = some u ∧ (.ok (.d (.v (.bool b))), u) ∈ os
  | [], os, nx, _, o, ho => by simp at ho
  | (ex, st, ds, nx0) :: r, os, nx, h, o, ho => by
    simp only [endRd] at h
    split at h
    · rename_i b ls pe st2 pe2 ts ps asg bod os' nx2 h1 h2 h3
      split at h
      · rename_i u hu
        simp only [Option.some.injEq, Prod.mk.injEq] at h
        obtain ⟨rfl, _⟩ := h
        simp only [List.mem_cons] at ho
        rcases ho with rfl | ho
        · exact ⟨b, ls, pe, st2, pe2, ts, ps, asg, bod, u, h1, h2, hu, by simp⟩
        · obtain ⟨b', ls', pe', st2', pe2', ts', ps', asg', bod', u', k1, k2, k3, k4⟩ := endRd_ok h3 o ho
          exact ⟨b', ls', pe', st2', pe2', ts', ps', asg', bod', u', k1, k2, k3, by simp [k4]⟩
      · cases h
    · cases h

theorem evYl_ok (hmix : P.follows .mixedOrders = true) (hH : HdOk P H) {i : Nat} {as : List A} {t : Tr R} {nx nx' : Nat} {outs : List Ot} (h : evYl P H i as t nx = some (outs, nx')) :
    ∀ (o : Oper) (T : Nat → A) (c : Call) (fo : Operand), o.op = .call c → c.callee = .value fo → evT T fo = .h i → c.args.toList.map (evT T) = as → OpN P o T t.get outs := by
  intro o T c fo ho hc hfo has
  unfold evYl at h
  split at h
  · rename_i ts ps asg bod hi
    split at h
    · rename_i hlp
      simp only [Bool.and_eq_true] at hlp
      have hlen : as.length = ps.size := Nat.eq_of_beq_eq_true hlp.1
      split at h
      · rename_i st1 nx1 h1
        split at h
        · rename_i pe1 ts1 ps1 asg1 bod1 hi1
          split at h
          · rename_i os hos
            obtain ⟨⟨g1, g2⟩, _⟩ := evCode_ok (rd := true) hmix hH fK asg _ [] nx _ h1 (inv_begin _ t)
            have hst1 := g2 _ (List.mem_singleton.2 rfl)
            simp only at hst1
            obtain ⟨⟨g3, g4⟩, _⟩ := evCode_ok (rd := true) hmix hH fK bod _ [] nx1 os hos (hst1.1.updM _)
            rw [setPsTr_eq, argsTr_eq] at g1
            refine OpN.yield ho hc hfo hi (by rw [← hlen, ← has]; simp) (ltAll_spec hlp.2) (by rw [has]; exact g1) ?_ ?_ (PostB := PostL os)
            · rintro ex T1 m1 ds1 ⟨q, hq, rfl, rfl, rfl, rfl⟩
              simp only [List.mem_singleton] at hq; subst hq
              refine ⟨rfl, rfl, pe1, ts1, ps1, asg1, bod1, hi1, ?_⟩
              have e : (st1.updM [(i, .lo .busy pe1 ts1 ps1 asg1 bod1)]).m.get = setM st1.m.get i (.lo .busy pe1 ts1 ps1 asg1 bod1) := by simp only [St.updM, Tr.get_setU, applyU]
              rw [e] at g3
              exact g3
            · rintro ex T2 m2 ds2 ⟨q, hq, rfl, rfl, rfl, rfl⟩
              obtain ⟨b, ls, pe, st2, pe2, ts2, ps2, asg2, bod2, u, k1, k2, k3, k4⟩ := endRd_ok h q hq
              have hIq := g4 q hq
              have kc := cutU_ok k3 (hIq.1.updM _)
              have hb : (q.2.1.updM [(i, .lo ls pe ts2 ps2 asg2 bod2)]).b = t := by
                have : (st1.updM [(i, .lo .busy pe1 ts1 ps1 asg1 bod1)]).b = st1.b := rfl
                exact (show q.2.1.b = t from (hIq.2.trans this).trans hst1.2)
              rw [hb] at kc
              have e : (q.2.1.updM [(i, .lo ls pe ts2 ps2 asg2 bod2)]).m.get = setM q.2.1.m.get i (.lo ls pe ts2 ps2 asg2 bod2) := by simp only [St.updM, Tr.get_setU, applyU]
              rw [e] at kc
              exact ⟨b, ls, pe, k1, st2, pe2, ts2, ps2, asg2, bod2, k2, _, k4, rfl, kc.1, kc.2.2⟩
          · cases h
        · cases h
      · cases h
    · cases h
  · cases h

theorem evH_ok (hmix : P.follows .mixedOrders = true) {ct : Hd} (hct : HdOk P ct) : ∀ d, HdOk P (evH P ct d) := by
  intro d
  induction d with
  | zero => exact ⟨fun _ _ _ _ _ _ h => (by cases h), fun _ _ _ _ _ _ h => (by cases h), fun _ _ _ _ _ _ h => (by cases h)⟩
  | succ d ih =>
    refine ⟨fun f as t nx outs nx' h => ?_, fun i as t nx outs nx' h => ?_, fun f as t nx outs nx' h => ?_⟩
    · have h : (match ct (.fn f) as t nx with
        | some r => some r
        | none => evFn P (evH P ct d) f as t nx) = some (outs, nx') := h
      split at h
      · rename_i r hr
        simp only [Option.some.injEq] at h; subst h
        exact hct.fn _ _ _ _ _ _ hr
      · exact evFn_ok hmix ih h
    · have h : (match ct (.yl i) as t nx with
        | some r => some r
        | none => evYl P (evH P ct d) i as t nx) = some (outs, nx') := h
      split at h
      · rename_i r hr
        simp only [Option.some.injEq] at h; subst h
        exact hct.yl _ _ _ _ _ _ hr
      · exact evYl_ok hmix ih h
    · have h : (match ct (.ex f) as t nx with
        | some r => some r
        | none => none) = some (outs, nx') := h
      split at h
      · rename_i r hr
        simp only [Option.some.injEq] at h; subst h
        exact hct.ex _ _ _ _ _ _ hr
      · cases h

def noCt : Hd := fun _ _ _ _ => none
theorem noCt_ok : HdOk P noCt := ⟨fun _ _ _ _ _ _ h => (by cases h), fun _ _ _ _ _ _ h => (by cases h), fun _ _ _ _ _ _ h => (by cases h)⟩

/-- a closed run: a function without arguments answers true -/
def isTrueR : Option (List Ot × Nat) → Bool
  | some ([(.ok (.d (.v (.bool true))), [])], _) => true
  | _ => false
theorem closed_run (hmix : P.follows .mixedOrders = true) {ct : Hd} (hct : HdOk P ct) {d : Nat} {f : FuncId} {nx : Nat} (h : isTrueR (evH P ct d (.fn f) [] .nil nx) = true) : CallT P f [] (fun _ => none) (.ok (.d (.v (.bool true)))) (fun _ => none) := by
  cases he : evH P ct d (.fn f) [] .nil nx with
  | none => rw [he] at h; cases h
  | some p =>
    obtain ⟨outs, nx'⟩ := p
    rw [he] at h
    obtain ⟨r, u, rfl, hcall⟩ := (evH_ok hmix hct d).fn _ _ _ _ _ _ he
    unfold isTrueR at h
    split at h
    · rename_i e
      simp only [Option.some.injEq, Prod.mk.injEq, List.cons.injEq, and_true] at e
      obtain ⟨⟨rfl, rfl⟩, _⟩ := e
      have hn : (Tr.nil : Tr R).get = fun _ => none := funext fun n => Tr.get_nil n
      rw [hn] at hcall
      exact hcall
    · cases h
end
end Go.Pv

namespace Go.Pv
open Go.RowKit Go.ChangeShapes Go.WideShapes
set_option linter.unusedVariables false
set_option linter.unusedSimpArgs false

/-- what was there is as it was -/
def Kept (W w' : World) : Prop := W.keptBut w' (fun _ => False) ∧ (∀ a, a.block < W.heap.size → w'.frozen? a = W.frozen? a) ∧ W.heap.size ≤ w'.heap.size

theorem Keeps.kept {w w' : World} (h : Keeps (fun _ => False) w w') : Kept w w' := by
  refine ⟨⟨h.os, h.output, fun i hi => ?_⟩, fun a ha => ?_, h.size⟩
  · rw [h.block i hi (fun e => e)]
    cases w.heap[i]? with
    | none => rfl
    | some o => cases o <;> simp
  · unfold World.frozen?
    rw [h.block _ ha (fun e => e)]

theorem Kept.frame {W w' : World} (h : Kept W w') (may : MemPlace → Prop) : W.keptBut w' may := World.keptBut_mono (fun _ f => f.elim) h.1

section
variable {H : Type} {enc : TypeId × Value → H} {P : Program}
theorem post_of_kept {f : Func} {s : ChangeSpec} {apart fresh handsOn again : Bool} {W W' : World} {args : Array Value} {v : Value} {ds gs : List (DataW H)} {before pa pv : List MemPlace}
    (hW : DataW.Whole enc P f.params.toList s.vars apart W args.toList ds gs before)
    (hres : ∀ (b : Nat) (sp : Nat → Bool) (hd : Bool), DataW.TrodAll enc P W' b sp hd f.resultTypes.toList (v.resultList f.resultTypes.size) (s.fn H (ds ++ gs)).results [])
    (hargs : ∀ sp : Nat → Bool, (∀ p ∈ before, sp p.block = true) → DataW.TrodAll enc P W' 0 sp true f.params.toList args.toList (s.fn H (ds ++ gs)).args pa)
    (hvars : ∀ sp : Nat → Bool, (∀ p ∈ before, sp p.block = true) → DataW.TrodVars enc P W' sp s.vars (s.fn H (ds ++ gs)).vars pv)
    (hps : before = pa ++ pv) (hk : W.keptBut W' (· ∈ before)) (hfz : ∀ a, a.block < W.heap.size → W'.frozen? a = W.frozen? a)
    (hok : ∀ (j : Nat) (t : TypeId) (r : Value), f.resultTypes[j]? = some t → (v.resultList f.resultTypes.size)[j]? = some r → Value.okWide P W' .any 0 t r) :
    s.post enc P f apart fresh handsOn again W args v W' := by
  have hlt : ∀ p ∈ before, p.block < W.heap.size := fun p hp => hW.lt p hp
  have hold : ∀ p ∈ before, (fun b => decide (b < W.heap.size)) p.block = true := fun p hp => by simpa using hW.lt p hp
  refine ⟨ds, gs, before, [], pa, pv, hW, hres _ _ _, hargs _ hold, hvars _ hold, World.keptBut_mono (fun p hp => ⟨hp, ?_⟩) hk, fun _ => ?_⟩
  · rw [hps, List.mem_append] at hp
    exact Or.inr hp
  · obtain ⟨_, _, _, _, _, hz, hn⟩ := hW
    refine ⟨hok, _, _, ([] ++ pa) ++ pv, ⟨[] ++ pa, pv, trodAll_append (hargs _ (fun _ _ => rfl)) (hres _ _ _), hvars _ (fun _ _ => rfl), rfl, ?_, ?_⟩, ?_⟩
    · intro b off hp
      have hp' : MemPlace.cell b off ∈ before := by rw [hps]; simpa using hp
      rw [hfz _ (hlt _ hp')]
      exact hz b off hp'
    · intro ha
      have := hn ha
      rw [hps] at this
      simpa using this
    · intro p hp _
      rw [hps]
      simpa using hp
end

/-- a closed run, as a walk -/
theorem walk0 {P : Program} {f : FuncId} (h : CallT P f [] (fun _ => none) (.ok (.d (.v (.bool true)))) (fun _ => none)) (w : World) : Calls P f #[] w fun e w' => e = .returned (.bool true) ∧ Kept w w' := by
  have h0 : SatAt (fun _ => False) (fun _ => False) w ⟨0, none⟩ (fun _ => .x) (fun _ => none) (fun _ => undef) { tmps := #[], defers := [] } w :=
    { keeps := Keeps.refl _ _, size := rfl, defers := (fun ds e => nomatch e), tmps := (fun n => by simp [A.Den]), res := (fun i r e => nomatch e), own := (fun i r b e => nomatch e), apart := (fun i j r r2 b e => nomatch e) }
  refine (h.2 _ _ _ _ w _ _ w h0 (fun b e => e.elim) [] (by simp [A.DenL])).mono ?_
  rintro e w' ⟨ρ', h1, _, y, rfl, hy⟩
  simp only [A.Den, C.Den] at hy
  subst hy
  exact ⟨rfl, h1.keeps.kept⟩
end Go.Pv

namespace Go.Pv
open Go.RowKit
set_option linter.unusedVariables false
set_option linter.unusedSimpArgs false
set_option linter.constructorNameAsVariable false

/-! a closed run in pieces: a call that was run before, at the same arguments and the same memory -/
def bs (l : List Nat) : ByteArray := ⟨(l.map UInt8.ofNat).toArray⟩
def trU (u : List (Nat × R)) : Tr R := Tr.setU 0 .nil u

def oEqb : Option R → Option R → Bool
  | none, none => true
  | some a, some b => R.eqb a b
  | _, _ => false
theorem oEqb_eq {a b : Option R} (h : oEqb a b = true) : a = b := by
  cases a <;> cases b <;> simp only [oEqb] at h
  · rfl
  · cases h
  · cases h
  · rw [R.eqb_eq _ _ h]
def trEqb : Tr R → Tr R → Bool
  | .nil, .nil => true
  | .node v l r, .node v' l' r' => oEqb v v' && (trEqb l l' && trEqb r r')
  | _, _ => false
theorem trEqb_eq : ∀ {a b : Tr R}, trEqb a b = true → a = b
  | .nil, .nil, _ => rfl
  | .nil, .node _ _ _, h => by cases h
  | .node _ _ _, .nil, h => by cases h
  | .node v l r, .node v' l' r', h => by
    simp only [trEqb, Bool.and_eq_true] at h
    rw [oEqb_eq h.1, trEqb_eq h.2.1, trEqb_eq h.2.2]

def hit (f0 : Nat) (as0 : List A) (t0 : Tr R) (r0 : List Ot × Nat) (g : Hd) : Hd := fun c xs t nx => match c with
  | .fn f => cond (Nat.beq f f0) (cond (A.eqbL xs as0 && trEqb t t0) (some r0) (g c xs t nx)) (g c xs t nx)
  | _ => g c xs t nx

def resEqb (x : Option (List Ot × Nat)) (r : Rt) (u : List (Nat × R)) (n : Nat) : Bool :=
  match x with
  | some ([(r', u')], n') => rtEqb r' r && (uEqb u' u && Nat.beq n' n)
  | _ => false
theorem resEqb_eq {x : Option (List Ot × Nat)} {r : Rt} {u : List (Nat × R)} {n : Nat} (h : resEqb x r u n = true) : x = some ([(r, u)], n) := by
  unfold resEqb at h
  split at h
  · simp only [Bool.and_eq_true] at h
    rw [rtEqb_eq h.1, uEqb_eq h.2.1, Nat.eq_of_beq_eq_true h.2.2]
  · cases h

theorem hit_ok {P : Program} {f0 : Nat} {as0 : List A} {t0 : Tr R} {r0 : List Ot × Nat} {g g0 : Hd} (hg : HdOk P g) (h0 : HdOk P g0) {nx0 : Nat} (he : g0 (.fn f0) as0 t0 nx0 = some r0) : HdOk P (hit f0 as0 t0 r0 g) := by
  refine ⟨fun f xs t nx outs nx' h => ?_, fun i xs t nx outs nx' h => hg.yl _ _ _ _ _ _ h, fun f xs t nx outs nx' h => hg.ex _ _ _ _ _ _ h⟩
  replace h : cond (Nat.beq f f0) (cond (A.eqbL xs as0 && trEqb t t0) (some r0) (g (.fn f) xs t nx)) (g (.fn f) xs t nx) = some (outs, nx') := h
  cases hf : Nat.beq f f0 with
  | false => rw [hf] at h; exact hg.fn _ _ _ _ _ _ h
  | true =>
    rw [hf] at h
    simp only [cond_true] at h
    have hf := Nat.eq_of_beq_eq_true hf; subst hf
    cases hq : A.eqbL xs as0 && trEqb t t0 with
    | false => rw [hq] at h; exact hg.fn _ _ _ _ _ _ h
    | true =>
      rw [hq] at h
      simp only [cond_true, Option.some.injEq] at h; subst h
      simp only [Bool.and_eq_true] at hq
      rw [A.eqbL_eq _ _ hq.1, trEqb_eq hq.2]
      exact h0.fn _ _ _ _ _ _ he
end Go.Pv

