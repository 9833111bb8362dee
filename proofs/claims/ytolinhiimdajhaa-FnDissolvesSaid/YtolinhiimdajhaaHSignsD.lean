/- The exact laws of causes: signs, explanations, possible causes, their number. No conditions. -/
import Derived.Test.YtolinhiimdajhaaHSignsC
namespace Go.Vs.G
open Go Go.Vs
theorem markText_big {k : Int} (h0 : 0 ≤ k) (h1 : k ≤ 1152921504606846976) : ∃ s, laws_markText k = some s := by
  have : wp (laws_markText k) (fun _ => True) := by
    unfold laws_markText
    refine wp_ite (fun h => ?_) (fun h => ?_)
    · exact wp_some trivial
    · refine wp_loop (fun s : Int × List UInt8 => 0 ≤ s.1 ∧ s.2.length ≤ 61 ∧ s.1 * ((2 ^ s.2.length : Nat) : Int) ≤ k) (fun s => s.1.toNat) ⟨by simp only; omega, by simp, by simp⟩ (by simp only; omega) ?_
      rintro ⟨k2, out⟩ ⟨h2, h3, h4⟩
      simp only at h2 h3 h4 ⊢
      refine wp_ite (fun h => ?_) (fun h => ?_)
      · have hd : k2.tdiv 10 = k2 / 10 := Int.tdiv_eq_ediv_of_nonneg h2
        have hlt : out.length ≤ 60 := by
          refine Classical.byContradiction fun hn => ?_
          have h5 : (2 : Nat) ^ 61 ≤ 2 ^ out.length := Nat.pow_le_pow_right (by omega) (by omega)
          have h6 : (2 : Nat) ^ 61 = 2305843009213693952 := by decide
          rw [h6] at h5
          generalize 2 ^ out.length = P at h4 h5
          have h7 : (1 : Int) * (P : Int) ≤ k2 * (P : Int) := Int.mul_le_mul_of_nonneg_right (by omega) (by omega)
          omega
        have hk2 : k2 ≤ k := by
          have h5 : 1 ≤ 2 ^ out.length := Nat.pow_pos (by omega)
          generalize 2 ^ out.length = P at h4 h5
          have h7 : k2 * 1 ≤ k2 * (P : Int) := Int.mul_le_mul_of_nonneg_left (by omega) h2
          omega
        rw [app_ok (by simp [b2s]; omega), Option.bind_some, hd, w64_id (n := k2 / 10) (by omega) (by omega)]
        refine wp_some ⟨⟨by simp only; omega, by simp [b2s]; omega, ?_⟩, by simp only; omega⟩
        have e : (b2s [IntKind.wrap .u8 (w64 (48 + k2.tmod 10))] ++ out).length = out.length + 1 := by simp [b2s]
        simp only
        rw [e, Nat.pow_succ, Int.natCast_mul]
        generalize hP : 2 ^ out.length = P at h4
        have h8 : k2 / 10 * ((P : Int) * ((2 : Nat) : Int)) = (k2 / 10 * 2) * (P : Int) := by
          rw [Int.mul_comm (P : Int), Int.mul_assoc]; rfl
        rw [h8]
        exact Int.le_trans (Int.mul_le_mul_of_nonneg_right (by omega) (by omega)) h4
      · refine wp_some ?_
        show wp ((app? ([109] : List UInt8) out).bind fun s2 => some s2) fun _ => True
        rw [app_ok (by simp; omega), Option.bind_some]
        exact wp_some trivial
  obtain ⟨s, hs, _⟩ := this
  exact ⟨s, hs⟩
theorem markCauseS_ok {a : List GCause} {k : Int} (h0 : 0 ≤ k) (h1 : k ≤ 1048576) (ha : a.length ≤ 1048576) (hs : ∀ x, x ∈ a → smallC x) : ∃ k2 b, laws_markCauseS a k = some (k2, b) ∧ 0 ≤ k2 ∧ k2 ≤ 1125899906842624 := by
  have : wp (laws_markCauseS a k) (fun r => 0 ≤ r.1 ∧ r.1 ≤ 1125899906842624) := by
    unfold laws_markCauseS
    refine wp_loop (fun s : List GCause × Int × Int => ∃ j : Nat, s.2.2 = (j : Int) ∧ j ≤ a.length ∧ 0 ≤ s.2.1 ∧ s.2.1 ≤ 1048576 + j * 1048577 ∧ s.1.length = a.length ∧ ∀ i, j ≤ i → s.1[i]? = a[i]?) (fun s => (a.length - s.2.2).toNat) ⟨0, rfl, by omega, h0, by simpa using h1, rfl, fun i _ => rfl⟩ (by simp; omega) ?_
    rintro ⟨a2, k2, i⟩ ⟨j, rfl, hj, hk0, hk1, hl, hv⟩
    simp only at hj hk0 hk1 hl hv ⊢
    refine wp_ite (fun h => ?_) (fun h => ?_)
    · obtain ⟨s, hs2⟩ := markText_big (k := k2) hk0 (by omega)
      have hj2 : j < a2.length := by omega
      have hj3 : j < a.length := by omega
      have he : a2[j] = a[j] := by
        have := hv j (Nat.le_refl _)
        rw [List.getElem?_eq_getElem hj2, List.getElem?_eq_getElem hj3] at this
        exact Option.some.inj this
      have hsm := (hs _ (List.getElem_mem hj3)).2
      rw [hs2, Option.bind_some, at_of hj2, Option.bind_some, at_of (by simpa using hj2), Option.bind_some]
      simp only [Int.toNat_natCast, List.getElem_set_self]
      rw [laws_markInt64S_eq (by rw [w64_id] <;> omega) (by rw [w64_id] <;> omega) (by rw [he]; omega), Option.bind_some, w64_id (n := (j : Int) + 1) (by omega) (by omega), w64_id (by omega) (by omega)]
      refine wp_some ⟨⟨j + 1, by simp, by omega, by simp only; omega, by simp only; rw [he]; omega, by simp [hl], fun i hi => ?_⟩, by simp only; omega⟩
      rw [List.getElem?_set_ne (by omega), List.getElem?_set_ne (by omega)]
      exact hv i (by omega)
    · exact wp_some (wp_some ⟨hk0, by simp only; omega⟩)
  obtain ⟨⟨k2, b⟩, h, h2⟩ := this
  exact ⟨k2, b, h, h2⟩
/-- an exact law with a list and a code -/
theorem exactL {m1 : Option (Int × List GCause)} {m2 : Int → Option (Int × List Int)} (hm1 : ∃ k b, m1 = some (k, b) ∧ 0 ≤ k ∧ k ≤ 1125899906842624) (hm2 : ∀ k, 0 ≤ k → k ≤ 1125899906842624 → ∃ k2 b, m2 k = some (k2, b) ∧ 0 ≤ k2)
    {w : List Int × Int} {again : Option (List Int × Int)} (ha : again = some w) (hw : w.1.length ≤ 1048576) :
    (m1.bind fun r13 => (m2 r13.1).bind fun r14 => ((if r14.1 < 0 then (some true) else (laws_eqInt64S w.1 w.1).bind fun r15 => if r15 then (some (!(decide (w.2 = w.2)))) else some true : Option Bool)).bind fun (x2 : Bool) =>
      if x2 then (some false) else (laws_markInt64S w.1 1).bind fun r16 => (laws_heldInt64S r16.2 1).bind fun r17 => if r17 < 0 then (some false) else if r17 = r16.1 then
        (again.bind fun r20 => (((laws_eqInt64S r20.1 w.1).bind fun r21 => if r21 then (some (!(decide (r20.2 = w.2)))) else some true) : Option Bool).bind fun (x3 : Bool) => if x3 then (some false) else
          (laws_heldInt64S r16.2 1).bind fun r22 => if r22 < 0 then (some false) else if r22 = r16.1 then (some true) else some false) else some false) = some true := by
  obtain ⟨k, b, h1, h2, h3⟩ := hm1
  obtain ⟨k2, b2, h4, h5⟩ := hm2 k h2 h3
  rw [h1, Option.bind_some]
  simp only
  rw [h4, Option.bind_some, if_neg (by simp only; omega), laws_eqInt64S_eq (by omega), Option.bind_some]
  simp only [decide_true, if_true, Bool.not_true, Option.bind_some, Bool.false_eq_true, if_false]
  rw [laws_markInt64S_eq (by omega) (by omega) (by omega), Option.bind_some]
  simp only
  rw [laws_heldInt64S_tab (by omega) (by omega) (by omega), Option.bind_some, if_neg (by omega), ha, Option.bind_some, laws_eqInt64S_eq (by omega), Option.bind_some]
  simp only [decide_true, if_true, Bool.not_true, Option.bind_some, Bool.false_eq_true, if_false]
  rw [if_neg (by omega)]
theorem signsR_len (m : Int) (l : List GCause) (s : List Int) : (signsR m l s).1.length ≤ 1048576 := by
  unfold signsR; split
  · have := sl_len (sgN l (inS s) l.length).testBit 20; simp only; omega
  · simp
/-- what the size of a list of causes tells -/
theorem smallCs {a : List GCause} {r : Int} (h : r ≤ 1048576 ∧ (0 ≤ r → a.length ≤ (1048576 : Int) ∧ ∀ x, x ∈ a → smallC x)) (hr : ¬ r < 0) : a.length ≤ 1048576 ∧ ∀ x, x ∈ a → smallC x := by
  have := h.2 (by omega); exact ⟨by omega, this.2⟩
theorem laws_FnExactSignsOf_true {m : Int} {a : List GCause} {s : List Int} (hm : okI .i64 m) (ha : okL GCause.ok a) (hs : okL (okI .i64) s) : laws_FnExactSignsOf m a s = some true := by
  unfold laws_FnExactSignsOf
  split
  · rfl
  rename_i hsl
  have hsl : s.length ≤ 1048576 := by omega
  obtain ⟨r1, h1, h2⟩ := szCauseS_eq ha (left := 1048576) (by omega) (by omega)
  rw [h1, Option.bind_some]
  split
  · rfl
  rename_i hr
  obtain ⟨hl, hsm⟩ := smallCs h2 hr
  simp only [toCauseS_eq hl hsm, toInt64S_eq (a := s) (by omega), Option.bind_some, SignsOf_eq hl hsm hsl, SignsOf_spec hl hsm hsl, laws_eqInt64S_eq (a := (signsR m a s).1) (by have := signsR_len m a s; omega), eqCauseS_eq hl hsm, eqInt64S_eqF (a := s) hsl, decide_true, if_true, Bool.not_true, Bool.false_eq_true, if_false]
  refine Eq.trans ?_ (exactL (m1 := laws_markCauseS a 1) (m2 := fun k => laws_markInt64S s k) (markCauseS_ok (by omega) (by omega) hl hsm) (fun k h0 h1 => ⟨_, _, laws_markInt64S_eq h0 (by omega) (by omega), by omega⟩) (w := signsR m a s) (again := some (signsR m a s)) rfl (signsR_len m a s))
  simp only [Option.bind_some, laws_eqInt64S_eq (a := (signsR m a s).1) (by have := signsR_len m a s; omega), decide_true, if_true, Bool.not_true, Bool.false_eq_true, if_false]
theorem laws_FnExactExplainsSigns_true {m : Int} {a : List GCause} {s seen : List Int} (hm : okI .i64 m) (ha : okL GCause.ok a) (hs : okL (okI .i64) s) (hse : okL (okI .i64) seen) : laws_FnExactExplainsSigns m a s seen = some true := by
  unfold laws_FnExactExplainsSigns
  split
  · rfl
  rename_i hsl
  have hsl : s.length ≤ 1048576 := by omega
  split
  · rfl
  rename_i hsl2
  have hsl2 : seen.length ≤ 1048576 := by omega
  obtain ⟨r1, h1, h2⟩ := szCauseS_eq ha (left := 1048576) (by omega) (by omega)
  rw [h1, Option.bind_some]
  split
  · rfl
  rename_i hr
  obtain ⟨hl, hsm⟩ := smallCs h2 hr
  simp only [toCauseS_eq hl hsm, toInt64S_eq (a := s) (by omega), toInt64S_eq (a := seen) (by omega), Option.bind_some, ExplainsSigns_eq hl hsm hsl hsl2, ExplainsSigns_spec hl hsm hsl hsl2, eqCauseS_eq hl hsm, eqInt64S_eqF (a := s) hsl, eqInt64S_eqF (a := seen) hsl2, decide_true, if_true, Bool.not_true, Bool.false_eq_true, if_false, beq_self_eq_true]
theorem possR_len (m : Int) (l : List GCause) (s : List Int) (hl : l.length ≤ 1048576) : (possR m l s).1.length ≤ 1048576 := by
  unfold possR; split
  · exact Nat.le_trans (sl_len _ _) hl
  · simp
theorem laws_FnExactPossibleCauses_true {m : Int} {a : List GCause} {s : List Int} (hm : okI .i64 m) (ha : okL GCause.ok a) (hs : okL (okI .i64) s) : laws_FnExactPossibleCauses m a s = some true := by
  unfold laws_FnExactPossibleCauses
  split
  · rfl
  rename_i hsl
  have hsl : s.length ≤ 1048576 := by omega
  obtain ⟨r1, h1, h2⟩ := szCauseS_eq ha (left := 1048576) (by omega) (by omega)
  rw [h1, Option.bind_some]
  split
  · rfl
  rename_i hr
  obtain ⟨hl, hsm⟩ := smallCs h2 hr
  have hlen := possR_len m a s hl
  simp only [toCauseS_eq hl hsm, toInt64S_eq (a := s) (by omega), Option.bind_some, PossibleCauses_eq hl hsm hsl, PossibleCauses_spec hl hsm hsl, laws_eqInt64S_eq (a := (possR m a s).1) (by omega), eqCauseS_eq hl hsm, eqInt64S_eqF (a := s) hsl, decide_true, if_true, Bool.not_true, Bool.false_eq_true, if_false]
  refine Eq.trans ?_ (exactL (m1 := laws_markCauseS a 1) (m2 := fun k => laws_markInt64S s k) (markCauseS_ok (by omega) (by omega) hl hsm) (fun k h0 h1 => ⟨_, _, laws_markInt64S_eq h0 (by omega) (by omega), by omega⟩) (w := possR m a s) (again := some (possR m a s)) rfl hlen)
  simp only [Option.bind_some, laws_eqInt64S_eq (a := (possR m a s).1) (by omega), decide_true, if_true, Bool.not_true, Bool.false_eq_true, if_false]
theorem laws_FnExactCountExplanations_true {m : Int} {a : List GCause} {s : List Int} (hm : okI .i64 m) (ha : okL GCause.ok a) (hs : okL (okI .i64) s) : laws_FnExactCountExplanations m a s = some true := by
  unfold laws_FnExactCountExplanations
  split
  · rfl
  rename_i hsl
  have hsl : s.length ≤ 1048576 := by omega
  obtain ⟨r1, h1, h2⟩ := szCauseS_eq ha (left := 1048576) (by omega) (by omega)
  rw [h1, Option.bind_some]
  split
  · rfl
  rename_i hr
  obtain ⟨hl, hsm⟩ := smallCs h2 hr
  simp only [toCauseS_eq hl hsm, toInt64S_eq (a := s) (by omega), Option.bind_some, CountExplanations_eq hl hsm hsl, CountExplanations_spec hl hsm hsl, eqCauseS_eq hl hsm, eqInt64S_eqF (a := s) hsl, decide_true, if_true, Bool.not_true, Bool.false_eq_true, if_false]
end Go.Vs.G
