/- Racks: the first place together. FnRacks. No conditions. -/
import Derived.Test.YtoeekebkinljpaaHRacksB
import Derived.Test.YtoeekebkinljpaaHGenB
namespace Go.Vs.G
open Go Go.Vs
open Classical

theorem within_eq (n a b : Int) : impl_within n a b = some (decide (a ≤ n ∧ n ≤ b)) := by unfold impl_within; split <;> simp <;> omega
theorem l00In_eq (n a b : Int) : spec_l00In n a b = some (decide (a ≤ n ∧ n ≤ b)) := by unfold spec_l00In; split <;> simp <;> omega
theorem PlacesAfter_eq {c : Int} {l : List GWheel} (hl : l.length ≤ 1000000) (t : Int) :
    impl_PlacesAfter c l t = some (if wok c l then (if 0 ≤ t ∧ t ≤ 100000 then (l.map (fun w => pl w t), 0) else ([], 2)) else ([], 1)) := by
  unfold impl_PlacesAfter
  rw [ValidWheels_eq hl, Option.bind_some]
  simp only [decide_eq_true_eq, within_eq, Option.bind_some]
  split
  · rename_i hw
    split
    · rename_i ht
      rw [mapS (f := fun w => impl_Wheel_place w t) (fun w => pl w t) l (fun w hx => place_eq (by have := hw.2.2.2 w hx; omega) (by have := hw.2.2.2 w hx; omega) ht.1) (by omega) (fun _ _ => rfl)]
    · rfl
  · rfl
theorem PlacesAfter_spec {c : Int} {l : List GWheel} (hl : l.length ≤ 1000000) (t : Int) :
    spec_PlacesAfter c l t = some (if wok c l then (if 0 ≤ t ∧ t ≤ 100000 then (l.map (fun w => pl w t), 0) else ([], 2)) else ([], 1)) := by
  unfold spec_PlacesAfter
  rw [l14Ok_eq hl, Option.bind_some]
  simp only [decide_eq_true_eq, l14Many_eq, Option.bind_some]
  split
  · rename_i hw
    split
    · rename_i ht
      rw [mapS (f := fun w => spec_l14Place w t) (fun w => pl w t) l (fun w hx => l14Place_eq (by have := hw.2.2.2 w hx; omega) (by have := hw.2.2.2 w hx; omega) ht.1) (by omega) (fun _ _ => rfl)]
    · rfl
  · rfl
theorem ReturnAfter_eq {c : Int} {l : List GWheel} (hl : l.length ≤ 1000000) :
    impl_ReturnAfter c l = some (if wok c l then (if (lc l l.length : Int) > 1000000000 then (0, 5) else ((lc l l.length : Int), 0)) else (0, 1)) := by
  unfold impl_ReturnAfter
  rw [ValidWheels_eq hl, Option.bind_some]
  simp only [decide_eq_true_eq]
  split
  · rename_i hw
    rw [returnAfter_eq hw, Option.bind_some]; split <;> rfl
  · rfl
theorem ReturnAfter_spec {c : Int} {l : List GWheel} (hl : l.length ≤ 1000000) :
    spec_ReturnAfter c l = some (if wok c l then (if (lc l l.length : Int) > 1000000000 then (0, 5) else ((lc l l.length : Int), 0)) else (0, 1)) := by
  unfold spec_ReturnAfter
  rw [l14Ok_eq hl, Option.bind_some]
  simp only [decide_eq_true_eq]
  split
  · rename_i hw
    have hp := lc_pos hw l.length (Nat.le_refl _)
    rw [l14Return_eq hw, Option.bind_some]
    split
    · rfl
    · rw [if_neg (by omega)]
  · rfl

theorem commonStep {c : Int} {l : List GWheel} (hl : wok c l) {k : Nat} (hk : k < l.length) : impl_commonLength (lc l k : Int) (wv l k).Teeth = some (lc l (k + 1) : Int) := by
  have hr := wv_rng hl hk
  have hb := lc_big hl (k := k) (by omega)
  have hb2 := lc_big hl (k := k + 1) (by omega)
  have hp := lc_pos hl k (by omega)
  have ht : (wv l k).Teeth = ((wv l k).Teeth.toNat : Int) := by omega
  rw [ht]; exact commonLength_eq hp (by omega) (by omega) (by omega) (by rw [lc] at hb2; omega)
theorem lcStep {c : Int} {l : List GWheel} (hl : wok c l) {k : Nat} (hk : k < l.length) :
    ∃ g q, spec_l00Gcd (lc l k : Int) (wv l k).Teeth = some g ∧ div? .i64 (lc l k : Int) g = some q ∧ w64 (q * (wv l k).Teeth) = (lc l (k + 1) : Int) := by
  have hr := wv_rng hl hk
  have hp := lc_pos hl k (by omega)
  have hb2 := lc_big hl (k := k + 1) (by omega)
  have hb1 := lc_big hl (k := k) (by omega)
  have hT : ((wv l k).Teeth.toNat : Int) = (wv l k).Teeth := by omega
  have hg : 0 < Nat.gcd (lc l k) (wv l k).Teeth.toNat := Nat.gcd_pos_of_pos_left _ hp
  have hgi : (Int.gcd (lc l k : Int) (wv l k).Teeth : Int) = (Nat.gcd (lc l k) (wv l k).Teeth.toNat : Int) := by
    show ((Nat.gcd (lc l k : Int).natAbs (wv l k).Teeth.natAbs : Nat) : Int) = _
    rw [show (lc l k : Int).natAbs = lc l k from rfl, show (wv l k).Teeth.natAbs = (wv l k).Teeth.toNat by omega]
  have hd : lc l k / Nat.gcd (lc l k) (wv l k).Teeth.toNat ≤ lc l k := Nat.div_le_self ..
  have e : ((lc l k : Int) / (Nat.gcd (lc l k) (wv l k).Teeth.toNat : Int)) = ((lc l k / Nat.gcd (lc l k) (wv l k).Teeth.toNat : Nat) : Int) := (Int.natCast_ediv _ _).symm
  have hlc : (lc l (k + 1) : Int) = ((lc l k / Nat.gcd (lc l k) (wv l k).Teeth.toNat : Nat) : Int) * (wv l k).Teeth := by
    rw [lc, lcm_eq _ _ hp, Int.natCast_mul, hT]
  refine ⟨_, _, spec_l00Gcd_eq (by omega) (by omega) (by omega), by rw [hgi, div_ok (by omega)], ?_⟩
  rw [Int.tdiv_eq_ediv_of_nonneg (by omega), e]
  generalize lc l k / Nat.gcd (lc l k) (wv l k).Teeth.toNat = q at hd e hlc ⊢
  rw [show IntKind.wrap .i64 (q : Int) = (q : Int) from w64_id (by omega) (by omega), ← hlc, w64_id (n := (lc l (k + 1) : Int)) (by omega) (by omega)]

/-- what ReturnAfter gives, and PlacesAfter -/
noncomputable def retA (c : Int) (l : List GWheel) : Int × Int := if wok c l then (if (lc l l.length : Int) > 1000000000 then (0, 5) else ((lc l l.length : Int), 0)) else (0, 1)
noncomputable def plsA (c : Int) (l : List GWheel) (t : Int) : List Int × Int := if wok c l then (if 0 ≤ t ∧ t ≤ 100000 then (l.map (fun w => pl w t), 0) else ([], 2)) else ([], 1)
/-- all wanted places are such -/
def wants (l : List GWheel) (ws : List Int) : Prop := ∀ i, 0 ≤ i → i < l.length → decide (0 ≤ wn ws i ∧ wn ws i ≤ (wv l i).Teeth - 1) = true

theorem together_impl {c : Int} {l : List GWheel} {ws : List Int} (hl : wok c l) (hlen : ws.length = l.length) (hbig : (lc l l.length : Int) ≤ 1000000000) {Q : Int × Int → Prop}
    (h1 : ∀ f, Crt l ws l.length f → Q (f, 0)) (h2 : (¬ ∃ f, Crt l ws l.length f) → Q (0, 3)) :
    wp (onL (loop (S := (Int × Int × Int)) (B := Int) (R := (Int × Int)) (fun ((first1, again1, x2) : Int × Int × Int) =>
 if x2 < (l.length : Int) then
 ((at? l x2).bind fun v3 =>
 onL (loop (S := (Int × Int)) (B := Int) (R := (Int × Int)) (fun ((first2, tries1) : Int × Int) =>
 (impl_Wheel_place v3 first2).bind fun r4 =>
 (at? ws x2).bind fun v4 =>
 if r4 = v4 then
 (some (.brk first2))
 else
 if tries1 = v3.Teeth then
 (some (.ret (0, 3)))
 else
 some (.next (w64 (first2 + again1), w64 (tries1 + 1)))) loopLim (first1, 0))
 (fun (first3 : Int) => (impl_commonLength again1 v3.Teeth).bind fun r5 =>
 some (.next (first3, r5, w64 (x2 + 1)))) (fun r => some (.ret r)))
 else
 some (.brk first1)) loopLim (0, 1, 0))
 (fun (first4 : Int) => some (first4, 0)) (fun r => some r)) Q := by
  have h8 := hl.2.2.1
  refine wp_loop (fun s : Int × Int × Int => ∃ (i : Nat) (f : Int), s = (f, (lc l i : Int), (i : Int)) ∧ Crt l ws i f ∧ i ≤ l.length) (fun s => (l.length - s.2.2).toNat) ⟨0, 0, by simp [lc], .zero, by omega⟩ (by simp only; omega) ?_
  rintro ⟨f, a, x⟩ ⟨i, f', he, hC, hi⟩
  simp only [Prod.mk.injEq] at he
  obtain ⟨rfl, rfl, rfl⟩ := he
  simp only
  refine wp_ite (fun h => ?_) (fun h => ?_)
  · have hi2 : i < l.length := by omega
    have hr := wv_rng hl hi2
    obtain ⟨f0, f1, _⟩ := hC.ok hl hi
    have hle := lc_le' hl hi (Nat.le_refl _)
    have hT := teeth_dvdI hl (j := i) (k := i + 1) (by omega) (by omega)
    rw [at_wv hi2, Option.bind_some]
    refine wp_loop (fun s : Int × Int => ∃ k : Nat, s = (f + k * lc l i, (k : Int)) ∧ (k : Int) ≤ (wv l i).Teeth ∧ ∀ j : Nat, j < k → pl (wv l i) (f + j * lc l i) ≠ wn ws i) (fun s => ((wv l i).Teeth - s.2).toNat) ⟨0, by simp, by omega, fun j hj => by omega⟩ (by simp only; omega) ?_
    rintro ⟨g, t⟩ ⟨k, he, hk, hn⟩
    simp only [Prod.mk.injEq] at he
    obtain ⟨rfl, rfl⟩ := he
    have m1 := mul_bd (a := (k : Int)) (b := (lc l i : Int)) (A := 200) (B := 1000000000) (by omega) (by omega) (by omega) (by omega)
    have m0 : 0 ≤ (k : Int) * lc l i := Int.mul_nonneg (by omega) (by omega)
    simp only
    rw [place_eq (by omega) (by omega) (by omega), Option.bind_some, at_wn (by omega), Option.bind_some]
    refine wp_ite (fun h3 => ?_) (fun h3 => ?_)
    · refine wp_some (wp_bind (wp_eq (commonStep hl hi2) ?_))
      rw [w64_id (by omega) (by omega)]
      have hk2 : (k : Int) < (wv l i).Teeth := by
        refine Classical.byContradiction fun hc => hn 0 (by omega) ?_
        rw [← h3]
        refine pl_dvd ?_
        rw [show (k : Int) = (wv l i).Teeth by omega]
        refine ⟨-(lc l i : Int), ?_⟩
        simp [Int.mul_neg]
        omega
      exact wp_some ⟨⟨i + 1, _, rfl, .succ hC ⟨hk2, h3, hn⟩, by omega⟩, by simp only; omega⟩
    · refine wp_ite (fun h4 => ?_) (fun h4 => ?_)
      · refine wp_some (wp_some (wp_some (h2 ?_)))
        exact hC.stop (fun j hj => hn j (by omega)) hi2
      · refine wp_some ⟨⟨k + 1, ?_, by omega, fun j hj => ?_⟩, ?_⟩
        · rw [w64_id (n := f + k * lc l i + lc l i) (by omega) (by omega), w64_id (by omega) (by omega), Int.natCast_add, Int.add_mul]; simp; omega
        · rcases Nat.lt_or_ge j k with h5 | h5
          · exact hn j h5
          · rw [show j = k by omega]; exact h3
        · simp only; rw [w64_id (by omega) (by omega)]; omega
  · obtain rfl : i = l.length := by omega
    exact wp_some (wp_some (h1 f hC))

theorem together_spec {c : Int} {l : List GWheel} {ws : List Int} (hl : wok c l) (hlen : ws.length = l.length) (hbig : (lc l l.length : Int) ≤ 1000000000) {Q : Int × Int → Prop}
    (h1 : ∀ f, Crt l ws l.length f → Q (f, 0)) (h2 : (¬ ∃ f, Crt l ws l.length f) → Q (0, 3)) :
    wp (onL (loop (S := (Int × Int × Int)) (B := Int) (R := (Int × Int)) (fun ((at_1, step1, i2) : Int × Int × Int) =>
 if i2 < (l.length : Int) then
 (onL (loop (S := (Int × Bool × Int)) (B := (Int × Bool)) (R := Empty) (fun ((at_2, found1, k1) : Int × Bool × Int) =>
 (((at? l i2).bind fun v3 =>
 if k1 < v3.Teeth then
 (some (!found1))
 else
 some false) : Option Bool).bind fun (x1 : Bool) =>
 if x1 then
 ((at? l i2).bind fun v4 =>
 (spec_l14Place v4 at_2).bind fun r4 =>
 (at? ws i2).bind fun v5 =>
 if r4 = v5 then
 (some (.next (at_2, true, w64 (k1 + 1))))
 else
 some (.next (w64 (at_2 + step1), found1, w64 (k1 + 1))))
 else
 some (.brk (at_2, found1))) loopLim (at_1, false, 0))
 (fun ((at_3, found2) : Int × Bool) => if found2 then
 ((at? l i2).bind fun v6 =>
 (spec_l00Gcd step1 v6.Teeth).bind fun r5 =>
 (div? .i64 step1 r5).bind fun q1 =>
 (at? l i2).bind fun v7 =>
 some (.next (at_3, w64 (q1 * v7.Teeth), w64 (i2 + 1))))
 else
 some (.ret (0, 3))) Empty.elim)
 else
 some (.brk at_1)) loopLim (0, 1, 0))
 (fun (at_4 : Int) => some (at_4, 0)) (fun r => some r)) Q := by
  have h8 := hl.2.2.1
  refine wp_loop (fun s : Int × Int × Int => ∃ (i : Nat) (f : Int), s = (f, (lc l i : Int), (i : Int)) ∧ Crt l ws i f ∧ i ≤ l.length) (fun s => (l.length - s.2.2).toNat) ⟨0, 0, by simp [lc], .zero, by omega⟩ (by simp only; omega) ?_
  rintro ⟨f, a, x⟩ ⟨i, f', he, hC, hi⟩
  simp only [Prod.mk.injEq] at he
  obtain ⟨rfl, rfl, rfl⟩ := he
  simp only
  refine wp_ite (fun h => ?_) (fun h => ?_)
  · have hi2 : i < l.length := by omega
    have hr := wv_rng hl hi2
    obtain ⟨f0, f1, _⟩ := hC.ok hl hi
    have hle := lc_le' hl hi (Nat.le_refl _)
    refine wp_loop (fun s : Int × Bool × Int => (∃ k : Nat, s = (f + k * lc l i, false, (k : Int)) ∧ (k : Int) ≤ (wv l i).Teeth ∧ ∀ j : Nat, j < k → pl (wv l i) (f + j * lc l i) ≠ wn ws i) ∨ (∃ k : Nat, Fnd (wv l i) (wn ws i) f (lc l i) k ∧ s = (f + k * lc l i, true, (k : Int) + 1)))
      (fun s => if s.2.1 then 0 else ((wv l i).Teeth - s.2.2).toNat + 1) (.inl ⟨0, by simp, by omega, fun j hj => by omega⟩) (by simp only; simp; omega) ?_
    rintro ⟨g, b, t⟩ (⟨k, he, hk, hn⟩ | ⟨k, hF, he⟩)
    · simp only [Prod.mk.injEq] at he
      obtain ⟨rfl, rfl, rfl⟩ := he
      have m1 := mul_bd (a := (k : Int)) (b := (lc l i : Int)) (A := 200) (B := 1000000000) (by omega) (by omega) (by omega) (by omega)
      have m0 : 0 ≤ (k : Int) * lc l i := Int.mul_nonneg (by omega) (by omega)
      simp only
      rw [at_wv hi2, Option.bind_some]
      by_cases hk2 : (k : Int) < (wv l i).Teeth
      · rw [if_pos hk2, Option.bind_some]
        simp only [Bool.not_false, if_true, Option.bind_some]
        rw [l14Place_eq (by omega) (by omega) (by omega), Option.bind_some, at_wn (by omega), Option.bind_some]
        refine wp_ite (fun h3 => ?_) (fun h3 => ?_)
        · exact wp_some ⟨.inr ⟨k, ⟨hk2, h3, hn⟩, by rw [w64_id (by omega) (by omega)]⟩, by simp⟩
        · refine wp_some ⟨.inl ⟨k + 1, ?_, by omega, fun j hj => ?_⟩, ?_⟩
          · rw [w64_id (n := f + k * lc l i + lc l i) (by omega) (by omega), w64_id (by omega) (by omega), Int.natCast_add, Int.add_mul]; simp; omega
          · rcases Nat.lt_or_ge j k with h5 | h5
            · exact hn j h5
            · rw [show j = k by omega]; exact h3
          · simp only; rw [w64_id (by omega) (by omega)]; simp; omega
      · rw [if_neg hk2, Option.bind_some]
        simp only [Bool.false_eq_true, if_false]
        refine wp_some (wp_some (wp_some (h2 ?_)))
        exact hC.stop (fun j hj => hn j (by omega)) hi2
    · simp only [Prod.mk.injEq] at he
      obtain ⟨rfl, rfl, rfl⟩ := he
      have hk2 := hF.1
      simp only
      rw [at_wv hi2, Option.bind_some]
      simp only [Bool.not_true, ite_self, Option.bind_some, Bool.false_eq_true, if_false]
      obtain ⟨g, q, e1, e2, e3⟩ := lcStep hl hi2
      refine wp_some ?_
      simp only [if_true]
      rw [e1, Option.bind_some, e2, Option.bind_some, e3, w64_id (by omega) (by omega)]
      exact wp_some ⟨⟨i + 1, _, rfl, .succ hC hF, by omega⟩, by simp only; omega⟩
  · obtain rfl : i = l.length := by omega
    exact wp_some (wp_some (h1 f hC))

/-- what both give -/
noncomputable def tog (c : Int) (l : List GWheel) (ws : List Int) : Int × Int :=
  if wok c l then if ws.length = l.length then if wants l ws then if (lc l l.length : Int) > 1000000000 then (0, 5) else
    if h : ∃ f, Crt l ws l.length f then (Classical.choose h, 0) else (0, 3) else (0, 2) else (0, 2) else (0, 1)
theorem tog_yes {l : List GWheel} {ws : List Int} {f : Int} (h : Crt l ws l.length f) : ∀ h : ∃ f, Crt l ws l.length f, f = Classical.choose h := fun h' => Crt.unique h (Classical.choose_spec h')
theorem FirstTogether_eq {c : Int} {l : List GWheel} {ws : List Int} (hl : l.length ≤ 1000000) : impl_FirstTogether c l ws = some (tog c l ws) := by
  refine eq_of_wp ?_
  unfold impl_FirstTogether
  rw [ValidWheels_eq hl, Option.bind_some]
  simp only [decide_eq_true_eq]
  unfold tog
  refine wp_ite (fun hw => ?_) (fun hw => ?_)
  · rw [if_pos hw]
    refine wp_ite (fun h => ?_) (fun h => ?_)
    · have hlen : ws.length = l.length := by omega
      rw [if_pos hlen]
      have := fun (kb : Unit → Option (Int × Int)) (kr : Int × Int → Option (Int × Int)) => scan (kb := kb) (kr := kr) (body := (fun (x1 : Int) =>
 if x1 < (l.length : Int) then
 ((at? l x1).bind fun v1 =>
 (at? ws x1).bind fun v2 =>
 (impl_within v2 0 (w64 (v1.Teeth - 1))).bind fun r2 =>
 if r2 then
 (some (.next (w64 (x1 + 1))))
 else
 some (.ret ((0 : Int), (2 : Int))))
 else
 some (.brk ()))) (s := 0) (n := l.length) (c := fun i => decide (0 ≤ wn ws i ∧ wn ws i ≤ (wv l i).Teeth - 1)) (r := ((0 : Int), (2 : Int))) (β := Int × Int) (by omega) (by omega) (fun i _ hi => by
          have hr := wv_rng hw hi
          rw [if_pos (by omega), at_wv hi, Option.bind_some, at_wn (by omega), Option.bind_some, within_eq, Option.bind_some, w64_id (n := (wv l i).Teeth - 1) (by omega) (by omega), w64_id (by omega) (by omega)]; split <;> rfl) (by rw [if_neg (by omega)])
      simp only [Int.natCast_zero] at this
      rw [this]
      split
      · rename_i hw2
        have hw3 : wants l ws := hw2
        rw [if_pos hw3, returnAfter_eq hw, Option.bind_some]
        refine wp_ite (fun hb => ?_) (fun hb => ?_)
        · rw [if_pos hb]; exact wp_some rfl
        · rw [if_neg hb]
          refine together_impl hw hlen (by omega) (fun f hf => ?_) (fun hf => ?_)
          · rw [dif_pos ⟨f, hf⟩, ← tog_yes hf]
          · rw [dif_neg hf]
      · rename_i hw2
        have hw3 : ¬ wants l ws := hw2
        rw [if_neg hw3]; exact wp_some rfl
    · rw [if_neg (by omega)]; exact wp_some rfl
  · rw [if_neg hw]; exact wp_some rfl
theorem FirstTogether_spec {c : Int} {l : List GWheel} {ws : List Int} (hl : l.length ≤ 1000000) : spec_FirstTogether c l ws = some (tog c l ws) := by
  refine eq_of_wp ?_
  unfold spec_FirstTogether
  rw [l14Ok_eq hl, Option.bind_some]
  simp only [decide_eq_true_eq]
  unfold tog
  refine wp_ite (fun hw => ?_) (fun hw => ?_)
  · rw [if_pos hw]
    refine wp_ite (fun h => ?_) (fun h => ?_)
    · have hlen : ws.length = l.length := by omega
      rw [if_pos hlen]
      have := fun (kb : Unit → Option (Int × Int)) (kr : Int × Int → Option (Int × Int)) => scan (kb := kb) (kr := kr) (body := (fun (x1 : Int) =>
 if x1 < (ws.length : Int) then
 ((at? ws x1).bind fun v1 =>
 (at? l x1).bind fun v2 =>
 (spec_l00In v1 0 (w64 (v2.Teeth - 1))).bind fun r2 =>
 if r2 then
 (some (.next (w64 (x1 + 1))))
 else
 some (.ret ((0 : Int), (2 : Int))))
 else
 some (.brk ()))) (s := 0) (n := l.length) (c := fun i => decide (0 ≤ wn ws i ∧ wn ws i ≤ (wv l i).Teeth - 1)) (r := ((0 : Int), (2 : Int))) (β := Int × Int) (by omega) (by omega) (fun i _ hi => by
          have hr := wv_rng hw hi
          rw [if_pos (by omega), at_wn (by omega), Option.bind_some, at_wv hi, Option.bind_some, l00In_eq, Option.bind_some, w64_id (n := (wv l i).Teeth - 1) (by omega) (by omega), w64_id (by omega) (by omega)]; split <;> rfl) (by rw [if_neg (by omega)])
      simp only [Int.natCast_zero] at this
      rw [this]
      split
      · rename_i hw2
        have hp := lc_pos hw l.length (Nat.le_refl _)
        have hw3 : wants l ws := hw2
        rw [if_pos hw3, l14Return_eq hw, Option.bind_some]
        refine wp_ite (fun hb => ?_) (fun hb => ?_)
        · rw [if_pos (by split at hb <;> omega)]; exact wp_some rfl
        · have hb2 : ¬ (lc l l.length : Int) > 1000000000 := fun h => hb (if_pos h)
          rw [if_neg hb2]
          refine together_spec hw hlen (by omega) (fun f hf => ?_) (fun hf => ?_)
          · rw [dif_pos ⟨f, hf⟩, ← tog_yes hf]
          · rw [dif_neg hf]
      · rename_i hw2
        have hw3 : ¬ wants l ws := hw2
        rw [if_neg hw3]; exact wp_some rfl
    · rw [if_neg (by omega)]; exact wp_some rfl
  · rw [if_neg hw]; exact wp_some rfl
theorem tog_3 {c : Int} {l : List GWheel} {ws : List Int} (h : (tog c l ws).2 = 3) : wok c l ∧ ws.length = l.length ∧ (lc l l.length : Int) ≤ 1000000000 ∧ ¬ ∃ f, Crt l ws l.length f := by
  unfold tog at h
  repeat' split at h
  all_goals first | (simp at h; done) | skip
  rename_i h1 h2 h3 h4 h5
  exact ⟨h1, h2, by omega, h5⟩
theorem tog_0 {c : Int} {l : List GWheel} {ws : List Int} (h : (tog c l ws).2 = 0) : wok c l ∧ ws.length = l.length ∧ (lc l l.length : Int) ≤ 1000000000 ∧ Crt l ws l.length (tog c l ws).1 := by
  unfold tog at h ⊢
  repeat' split at h
  all_goals first | (simp at h; done) | skip
  rename_i h1 h2 h3 h4 h5
  refine ⟨h1, h2, by omega, ?_⟩
  rw [if_pos h1, if_pos h2, if_pos h3, if_neg h4, dif_pos h5]
  exact Classical.choose_spec h5

theorem l14Place_some {w : GWheel} {t : Int} (h : w.Teeth > 0) : ∃ r, spec_l14Place w t = some r := by
  unfold spec_l14Place
  rw [mod_ok (by omega), Option.bind_some]
  cases w.Back <;> simp <;> split <;> exact ⟨_, rfl⟩
theorem DrawFirstTogether_ok {code : List Int} (hc : okL (okI .u8) code) (hl : code.length ≤ 1000000) : ∃ c l ws, spec_DrawFirstTogether code = some (c, l, ws) ∧ l.length ≤ 9 := by
  unfold spec_DrawFirstTogether
  rw [l00From_eq, Option.bind_some]
  obtain ⟨c, l, s1, e1, hl1, k1⟩ := l14Draw_ok (srcOk_from hc hl) (by omega)
  rw [e1, Option.bind_some]
  simp only
  obtain ⟨n, s2, e2, _, _, k2⟩ := pick_ok k1 (by omega) 500
  rw [e2, Option.bind_some]
  simp only
  suffices h : wp _ (fun r : Int × List GWheel × List Int => r.2.1.length ≤ 9) by
    obtain ⟨⟨a, b, d⟩, h1, h2⟩ := h; exact ⟨a, b, d, h1, h2⟩
  refine wp_loop (fun s : List Int × Int => ∃ k : Nat, s.2 = (k : Int) ∧ k ≤ l.length ∧ s.1.length ≤ k) (fun s => (l.length - s.2).toNat) ⟨0, rfl, by omega, by simp⟩ (by simp only; omega) ?_
  rintro ⟨ws, i⟩ ⟨k, hk, hk2, hk3⟩
  simp only at hk hk3
  subst hk
  simp only
  refine wp_ite (fun h => ?_) (fun h => ?_)
  · rw [at_of (by omega), Option.bind_some]
    refine wp_ite (fun h3 => ?_) (fun h3 => ?_)
    · rw [Option.bind_some]
      obtain ⟨r, hr⟩ := l14Place_some (t := n) h3
      rw [hr, Option.bind_some, app_ok (by simp; omega), Option.bind_some, w64_id (by omega) (by omega)]
      exact wp_some ⟨⟨k + 1, rfl, by omega, by simp; omega⟩, by simp only; omega⟩
    · rw [w64_id (by omega) (by omega)]
      exact wp_some ⟨⟨k + 1, rfl, by omega, by simp only; omega⟩, by simp only; omega⟩
  · refine wp_some ?_
    simp only
    obtain ⟨v, s3, e3, _, _, k3⟩ := pick_ok k2 (by omega) 8
    rw [e3, Option.bind_some]
    refine wp_ite (fun h3 => ?_) (fun h3 => ?_)
    · rw [app_ok (by simp; omega), Option.bind_some]; exact wp_some hl1
    · refine wp_ite (fun h4 => ?_) (fun h4 => wp_some hl1)
      refine wp_ite (fun h5 => ?_) (fun h5 => wp_some hl1)
      rw [at_ok (by omega) (by simp; omega), Option.bind_some, Option.bind_some]
      obtain ⟨u, s4, e4, _, k4⟩ := among_ok k3 (by omega) (l := [(-1), 0, 1, w64 ((l[(0 : Int).toNat]'(by simp; omega)).Teeth - 1), (l[(0 : Int).toNat]'(by simp; omega)).Teeth]) (by simp) (by simp)
      rw [e4, Option.bind_some, at_ok (by omega) (by simp; omega), Option.bind_some]
      exact wp_some hl1
theorem DrawPlacesAfter_ok {code : List Int} (hc : okL (okI .u8) code) (hl : code.length ≤ 1000000) : ∃ c l n, spec_DrawPlacesAfter code = some (c, l, n) ∧ l.length ≤ 9 := by
  unfold spec_DrawPlacesAfter
  rw [l00From_eq, Option.bind_some]
  obtain ⟨c, l, s1, e1, hl1, k1⟩ := l14Draw_ok (srcOk_from hc hl) (by omega)
  rw [e1, Option.bind_some]
  obtain ⟨n, s2, e2, k2⟩ := l14DrawMany_ok k1 (by omega)
  simp only
  rw [e2, Option.bind_some]
  exact ⟨_, _, _, rfl, hl1⟩

theorem f6ints_eq (a b : List Int) (ha : a.length < 9223372036854775807) : laws_f6ints a b = some (decide (a = b)) := by
  unfold laws_f6ints; exact eqSp a b ha
theorem wn_map {l : List GWheel} {f : GWheel → Int} {j : Nat} (h : j < l.length) : wn (l.map f) j = f (wv l j) := by
  unfold wn wv; rw [List.getD_eq_getElem?_getD, List.getD_eq_getElem?_getD, List.getElem?_map, List.getElem?_eq_getElem h]; rfl
theorem places_iff {l : List GWheel} {ws : List Int} {t : Int} (h : ws.length = l.length) : l.map (fun w => pl w t) = ws ↔ ∀ j, j < l.length → pl (wv l j) t = wn ws j := by
  constructor
  · rintro rfl j hj; rw [wn_map hj]
  · intro hall
    refine List.ext_getElem (by simp [h]) fun j h1 h2 => ?_
    have h3 : j < l.length := by simpa using h1
    have := hall j h3
    unfold wv wn at this
    rw [List.getD_eq_getElem?_getD, List.getD_eq_getElem?_getD, List.getElem?_eq_getElem h3, List.getElem?_eq_getElem h2] at this
    simpa using this
theorem retA_0 {c : Int} {l : List GWheel} (h : (retA c l).2 = 0) : wok c l ∧ (retA c l).1 = lc l l.length ∧ (lc l l.length : Int) ≤ 1000000000 := by
  unfold retA at h ⊢
  repeat' split at h
  all_goals first | (simp at h; done) | skip
  rename_i h1 h2
  rw [if_pos h1, if_neg h2]; exact ⟨h1, rfl, by omega⟩
theorem retA_of {c : Int} {l : List GWheel} (h : wok c l) (h2 : (lc l l.length : Int) ≤ 1000000000) : retA c l = ((lc l l.length : Int), 0) := by
  unfold retA; rw [if_pos h, if_neg (by omega)]
theorem plsA_of {c : Int} {l : List GWheel} {t : Int} (h : wok c l) (h0 : 0 ≤ t) (h2 : t ≤ 100000) : plsA c l t = (l.map (fun w => pl w t), 0) := by
  unfold plsA; rw [if_pos h, if_pos ⟨h0, h2⟩]
theorem plsA_0 {c : Int} {l : List GWheel} {t : Int} (h : (plsA c l t).2 = 0) : wok c l ∧ (plsA c l t).1 = l.map (fun w => pl w t) := by
  unfold plsA at h ⊢
  repeat' split at h
  all_goals first | (simp at h; done) | skip
  rename_i h1 h2
  rw [if_pos h1, if_pos h2]; exact ⟨h1, rfl⟩
theorem plsA_len {c : Int} {l : List GWheel} {t : Int} : (plsA c l t).1.length ≤ l.length := by
  unfold plsA; repeat' split
  all_goals simp
theorem pl_back {w : GWheel} {t : Int} (hT : 1 ≤ w.Teeth) (h : w.Teeth ∣ t) : pl w t = 0 := by
  rw [pl_alt hT, Int.emod_eq_zero_of_dvd h, if_neg (by omega)]

theorem laws_FnRacks_true {code : List Int} (hc : okL (okI .u8) code) : laws_FnRacks code = some true := by
  unfold laws_FnRacks laws_f6big
  rw [Option.bind_some]
  refine ite_val (fun _ => rfl) (fun hl => ?_)
  simp only [decide_eq_true_eq] at hl
  obtain ⟨c, l, ws, d1, l1⟩ := DrawFirstTogether_ok hc (by omega)
  obtain ⟨c', l', n', d2, l2⟩ := DrawPlacesAfter_ok hc (by omega)
  have q1 : impl_ReturnAfter c l = some (retA c l) := ReturnAfter_eq (by omega)
  have q2 : spec_ReturnAfter c l = some (retA c l) := ReturnAfter_spec (by omega)
  have q3 : impl_CountPlacesSeen c l = some (retA c l) := by unfold impl_CountPlacesSeen; rw [q1]; rfl
  have q4 : spec_CountPlacesSeen c l = some (retA c l) := by unfold spec_CountPlacesSeen; rw [q2]; rfl
  have q5 : ∀ t, impl_PlacesAfter c l t = some (plsA c l t) := fun t => PlacesAfter_eq (by omega) t
  have q6 : ∀ t, spec_PlacesAfter c l t = some (plsA c l t) := fun t => PlacesAfter_spec (by omega) t
  have q7 : impl_PlacesAfter c' l' n' = some (plsA c' l' n') := PlacesAfter_eq (by omega) n'
  have q8 : spec_PlacesAfter c' l' n' = some (plsA c' l' n') := PlacesAfter_spec (by omega) n'
  have hle := plsA_len (c := c') (l := l') (t := n')
  have q9 : spec_ValidWheels c l = some (decide (wok c l)) := by unfold spec_ValidWheels; rw [l14Ok_eq (by omega)]; rfl
  rw [d1, Option.bind_some]
  simp only
  rw [FirstTogether_eq (by omega), Option.bind_some, FirstTogether_spec (by omega), Option.bind_some, q1, Option.bind_some, q2, Option.bind_some, q3, Option.bind_some, q4, Option.bind_some, d2, Option.bind_some]
  simp only
  rw [q7, Option.bind_some, q8, Option.bind_some]
  simp only [if_true, f6ints_eq _ _ (show (plsA c' l' n').1.length < 9223372036854775807 by omega), Option.bind_some, decide_true, ValidWheels_eq (show l.length ≤ 1000000 by omega), q9, beq_self_eq_true, Bool.not_true, Bool.false_eq_true, if_false]
  have hx2 : (if (retA c l).2 = 0 then some (decide ((retA c l).1 ≤ 100000)) else some false : Option Bool) = some (decide ((retA c l).2 = 0 ∧ (retA c l).1 ≤ 100000)) := by split <;> simp [*]
  rw [hx2, Option.bind_some]
  simp only [decide_eq_true_eq]
  refine (congrArg (fun o => onS o _ Empty.elim fun r => some r) (?_ : _ = some (Step.next ()))).trans ?_
  · refine ite_val (fun h => ?_) (fun _ => rfl)
    obtain ⟨hw, e1, e2⟩ := retA_0 h.1
    have hp := lc_pos hw l.length (Nat.le_refl _)
    rw [q5, Option.bind_some, plsA_of hw (by omega) h.2]
    simp only [if_true, decide_true, Bool.not_true, Option.bind_some, Bool.false_eq_true, if_false]
    rw [allS (f := fun v => some (decide (v = 0))) (fun v => decide (v = 0)) (List.map (fun w => pl w (retA c l).fst) l) (fun _ _ => rfl) (by simp; omega) (r := false) (fun i => by simp only [Option.bind_some, decide_eq_true_eq])]
    rw [if_pos]
    intro x hx
    obtain ⟨w, hw2, rfl⟩ := List.mem_map.1 hx
    obtain ⟨j, hj, rfl⟩ := List.getElem_of_mem hw2
    have hr := wv_rng hw hj
    have := teeth_dvdI hw hj (Nat.le_refl _)
    have hv : wv l j = l[j] := by unfold wv; rw [List.getD_eq_getElem?_getD, List.getElem?_eq_getElem hj]; rfl
    rw [hv] at this hr
    rw [e1, pl_back (by omega) this]; rfl
  · rw [onS_next]
    refine (congrArg (fun o => onS o _ Empty.elim fun r => some r) (?_ : _ = some (Step.next ()))).trans ?_
    · refine ite_val (fun h => ?_) (fun _ => rfl)
      obtain ⟨hw, e1⟩ := plsA_0 h
      rw [e1]
      have := scan (R := Bool) (β := Step Unit Empty Bool) (body := fun (i2 : Int) =>
 if i2 < ((l'.map fun w => pl w n').length : Int) then
 ((((at? (l'.map fun w => pl w n') i2).bind fun v2 =>
 if v2 < 0 then
 (some true)
 else
 (at? (l'.map fun w => pl w n') i2).bind fun v3 =>
 (at? l' i2).bind fun v4 =>
 some (decide (v3 ≥ v4.Teeth))) : Option Bool).bind fun (x4 : Bool) =>
 if x4 then
 (some (.ret false))
 else
 some (.next (w64 (i2 + 1))))
 else
 some (.brk ())) (kb := fun _ => some (.next ())) (kr := fun r => some (.ret r)) (s := 0) (n := l'.length) (c := fun _ => true) (r := false) (by omega) (by omega) (fun i _ hi => by
          have hT := hw.2.2.2 l'[i] (List.getElem_mem hi)
          have hr := pl_rng (w := l'[i]) (t := n') (by omega)
          simp only [List.length_map]
          rw [if_pos (by omega), at_of (by simpa using hi)]
          simp only [List.getElem_map, Option.bind_some]
          rw [if_neg (by omega), at_of hi]
          simp only [Option.bind_some]
          rw [decide_eq_false (by omega)]
          simp only [Bool.false_eq_true, if_false, if_true]
          rw [w64_id (by omega) (by omega)]) (by simp only [List.length_map]; rw [if_neg (by omega)])
      simp only [Int.natCast_zero] at this
      refine this.trans ?_
      rw [if_pos (fun _ _ _ => trivial)]
    · rw [onS_next]
      refine (congrArg (fun o => onS o _ Empty.elim fun r => some r) (?_ : _ = some (Step.next ()))).trans ?_
      · refine ite_val (fun h => ?_) (fun _ => rfl)
        obtain ⟨hw, e1, e2, e3⟩ := tog_3 h
        refine eq_of_wp ?_
        refine wp_loop (fun t : Int => 0 ≤ t) (fun t => (300 - t).toNat) (by omega) (by omega) ?_
        intro t ht
        refine wp_ite (fun h3 => ?_) (fun h3 => wp_some (wp_some rfl))
        rw [imin_def] at h3
        rw [q6, Option.bind_some, plsA_of hw ht (by omega)]
        simp only [if_true]
        rw [f6ints_eq _ _ (by simp; omega), Option.bind_some, Option.bind_some]
        rw [decide_eq_false, if_neg (by simp), w64_id (by omega) (by omega)]
        · exact wp_some ⟨by omega, by omega⟩
        · intro he
          obtain ⟨f, hf, _⟩ := Crt.all hw (ws := ws) (t := t) l.length (Nat.le_refl _) ((places_iff e1).1 he)
          exact e3 ⟨f, hf⟩
      · rw [onS_next]
        have hx6 : (if (tog c l ws).2 = 0 then some (decide ((tog c l ws).1 > 100000)) else some true : Option Bool) = some (decide ((tog c l ws).2 = 0 → (tog c l ws).1 > 100000)) := by split <;> simp [*]
        rw [hx6, Option.bind_some]
        simp only [decide_eq_true_eq]
        refine ite_val (fun _ => rfl) (fun h => ?_)
        obtain ⟨h0, h1⟩ := Classical.not_imp.1 h
        obtain ⟨hw, e1, e2, e3⟩ := tog_0 h0
        obtain ⟨g1, g2, g3⟩ := e3.ok hw (Nat.le_refl _)
        rw [q5, Option.bind_some, plsA_of hw g1 (by omega), retA_of hw e2]
        simp only [if_true]
        rw [f6ints_eq _ _ (by simp; omega), Option.bind_some, decide_eq_true ((places_iff e1).2 g3)]
        simp only [if_true]
        rw [decide_eq_true g2]
end Go.Vs.G
