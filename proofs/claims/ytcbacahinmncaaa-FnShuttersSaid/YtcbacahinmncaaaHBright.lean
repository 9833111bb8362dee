/- Brightness: FnLight. No conditions. -/
import Derived.Test.YtcbacahinmncaaaHDraw
import Derived.Test.YtcbacahinmncaaaHSteady
namespace Go.Vs.G
open Go Go.Vs

theorem withinB (n a b : Int) : impl_within n a b = some (decide (a ≤ n ∧ n ≤ b)) := by unfold impl_within; split <;> simp <;> omega
theorem inB (n a b : Int) : spec_l00In n a b = some (decide (a ≤ n ∧ n ≤ b)) := by unfold spec_l00In; split <;> simp <;> omega
theorem maxB (a b : Int) : spec_l00Max a b = some (max a b) := by unfold spec_l00Max; split <;> simp <;> omega
theorem isSide_eq (n : Int) : impl_isSide n = some (decide (1 ≤ n ∧ n ≤ 1000)) := by unfold impl_isSide; rw [withinB]; rfl
theorem l12Far_eq (n : Int) : spec_l12Far n = some (decide (1 ≤ n ∧ n ≤ 1000)) := by unfold spec_l12Far; rw [inB]; rfl
theorem l12Side_eq (n : Int) : spec_l12Side n = some (decide (1 ≤ n ∧ n ≤ 1000)) := by unfold spec_l12Side; rw [inB]; rfl
/-- a brightness -/
def brt (f : GFraction) : Prop := (0 ≤ f.Num ∧ f.Num ≤ 100000) ∧ f.Den ≤ 100000
instance (f : GFraction) : Decidable (brt f) := by unfold brt; infer_instance
instance (f : GFraction) : Decidable f.valid := by unfold GFraction.valid; infer_instance
theorem validD (f : GFraction) : impl_ValidFraction f = some (decide f.valid) := by
  obtain ⟨b, h1, h2⟩ := ValidFraction_eq f
  rw [h1]; congr 1; rw [Bool.eq_iff_iff, h2]; simp
theorem okD (f : GFraction) : spec_l02Ok f = some (decide f.valid) := by
  obtain ⟨b, h1, h2⟩ := l02Ok_eq f
  rw [h1]; congr 1; rw [Bool.eq_iff_iff, h2]; simp
theorem isBrightness_eq (f : GFraction) : impl_isBrightness f = some (decide (brt f)) := by
  unfold impl_isBrightness brt
  rw [withinB, Option.bind_some]
  by_cases h : 0 ≤ f.Num ∧ f.Num ≤ 100000 <;> simp [h]
theorem l12Bright_eq (f : GFraction) : spec_l12Bright f = some (decide (f.valid ∧ brt f)) := by
  unfold spec_l12Bright brt
  rw [okD, Option.bind_some]
  by_cases hv : f.valid
  · simp only [hv, decide_true, if_true, true_and, inB, Option.bind_some]
    by_cases h : 0 ≤ f.Num ∧ f.Num ≤ 100000 <;> simp [h]
  · simp [hv]

theorem BrightnessAt_ok {b : GFraction} {x y : Int} (hv : b.valid) (hb : brt b) (hx : 1 ≤ x) (hx2 : x ≤ 1000) (hy : 1 ≤ y) (hy2 : y ≤ 1000) :
    ∃ f, impl_BrightnessAt b x y = some (f, 0) ∧ spec_BrightnessAt b x y = some (f, 0) ∧ Red (b.Num * x * x) (b.Den * y * y) f := by
  obtain ⟨⟨n0, n1⟩, d1⟩ := hb
  have d0 := hv.1
  have e1 := mul_bd (a := b.Num) (b := x) (A := 100000) (B := 1000) (by omega) (by omega) (by omega) (by omega)
  have e2 := mul_bd (a := b.Num * x) (b := x) (A := 100000000) (B := 1000) (by omega) (by omega) (by omega) (by omega)
  have e3 := mul_bd (a := b.Den) (b := y) (A := 100000) (B := 1000) (by omega) (by omega) (by omega) (by omega)
  have e4 := mul_bd (a := b.Den * y) (b := y) (A := 100000000) (B := 1000) (by omega) (by omega) (by omega) (by omega)
  have p1 : 0 < b.Den * y := Int.mul_pos (by omega) (by omega)
  have p2 : 0 < b.Den * y * y := Int.mul_pos p1 (by omega)
  obtain ⟨f, h1, h2, h3⟩ := make_same (n := b.Num * x * x) (d := b.Den * y * y) p2 (by omega) (by omega)
  refine ⟨f, ?_, ?_, h3⟩
  · unfold impl_BrightnessAt impl_brightnessAt
    rw [validD, Option.bind_some, decide_eq_true hv, if_pos rfl, isBrightness_eq, decide_eq_true (show brt b from ⟨⟨n0, n1⟩, d1⟩)]
    simp only [Option.bind_some, if_true, isSide_eq]
    rw [decide_eq_true ⟨hx, hx2⟩, decide_eq_true ⟨hy, hy2⟩]
    simp only [if_true, Bool.not_true, Option.bind_some, Bool.false_eq_true, if_false]
    rw [w64_id (n := b.Num * x) (by omega) (by omega), w64_id (n := b.Num * x * x) (by omega) (by omega), w64_id (n := b.Den * y) (by omega) (by omega), w64_id (n := b.Den * y * y) (by omega) (by omega), h1]
    rfl
  · unfold spec_BrightnessAt
    rw [okD, Option.bind_some, decide_eq_true hv, if_pos rfl, l12Bright_eq, decide_eq_true (show b.valid ∧ brt b from ⟨hv, ⟨n0, n1⟩, d1⟩)]
    simp only [Option.bind_some, if_true, l12Far_eq]
    rw [decide_eq_true ⟨hx, hx2⟩, decide_eq_true ⟨hy, hy2⟩]
    simp only [if_true, Bool.not_true, Option.bind_some, Bool.false_eq_true, if_false]
    rw [w64_id (n := b.Num * x) (by omega) (by omega), w64_id (n := b.Num * x * x) (by omega) (by omega), w64_id (n := b.Den * y) (by omega) (by omega), w64_id (n := b.Den * y * y) (by omega) (by omega), h2]
    rfl
theorem BrightnessAt_same (b : GFraction) (x y : Int) : ∃ f e, impl_BrightnessAt b x y = some (f, e) ∧ spec_BrightnessAt b x y = some (f, e) := by
  by_cases hv : b.valid
  · by_cases hb : brt b
    · by_cases hx : 1 ≤ x ∧ x ≤ 1000
      · by_cases hy : 1 ≤ y ∧ y ≤ 1000
        · obtain ⟨f, h1, h2, _⟩ := BrightnessAt_ok hv hb hx.1 hx.2 hy.1 hy.2
          exact ⟨_, _, h1, h2⟩
        · refine ⟨⟨0, 0⟩, 2, ?_, ?_⟩
          · unfold impl_BrightnessAt; simp [validD, isBrightness_eq, isSide_eq, hv, hb, hx, hy]
          · unfold spec_BrightnessAt; simp [okD, l12Bright_eq, l12Far_eq, hv, hb, hx, hy]
      · refine ⟨⟨0, 0⟩, 2, ?_, ?_⟩
        · unfold impl_BrightnessAt; simp [validD, isBrightness_eq, isSide_eq, hv, hb, hx]
        · unfold spec_BrightnessAt; simp [okD, l12Bright_eq, l12Far_eq, hv, hb, hx]
    · refine ⟨⟨0, 0⟩, 2, ?_, ?_⟩
      · unfold impl_BrightnessAt; simp [validD, isBrightness_eq, isSide_eq, hv, hb]
      · unfold spec_BrightnessAt; simp [okD, l12Bright_eq, l12Far_eq, hv, hb]
  · refine ⟨⟨0, 0⟩, 1, ?_, ?_⟩
    · unfold impl_BrightnessAt; simp [validD, hv]
    · unfold spec_BrightnessAt; simp [okD, hv]

theorem BrightnessOf_same (n x y : Int) : ∃ f e, impl_BrightnessOf n x y = some (f, e) ∧ spec_BrightnessOf n x y = some (f, e) ∧ (e = 0 → (0 ≤ n ∧ n ≤ 100000) ∧ (1 ≤ x ∧ x ≤ 1000) ∧ (1 ≤ y ∧ y ≤ 1000) ∧ Red n (x * y) f) := by
  by_cases h : (0 ≤ n ∧ n ≤ 100000) ∧ (1 ≤ x ∧ x ≤ 1000) ∧ (1 ≤ y ∧ y ≤ 1000)
  · obtain ⟨hn, hx, hy⟩ := h
    have e1 := mul_bd (a := x) (b := y) (A := 1000) (B := 1000) (by omega) (by omega) (by omega) (by omega)
    have p1 : 0 < x * y := Int.mul_pos (by omega) (by omega)
    obtain ⟨f, h1, h2, h3⟩ := make_same (n := n) (d := x * y) p1 (by omega) (by omega)
    refine ⟨f, 0, ?_, ?_, fun _ => ⟨hn, hx, hy, h3⟩⟩
    · unfold impl_BrightnessOf
      simp only [withinB, isSide_eq, decide_eq_true hn, decide_eq_true hx, decide_eq_true hy, Option.bind_some, if_true, Bool.not_true, Bool.false_eq_true, if_false]
      rw [w64_id (by omega) (by omega), h1]; rfl
    · unfold spec_BrightnessOf
      simp only [inB, l12Side_eq, decide_eq_true hn, decide_eq_true hx, decide_eq_true hy, Option.bind_some, if_true, Bool.not_true, Bool.false_eq_true, if_false]
      rw [w64_id (by omega) (by omega), h2]; rfl
  · refine ⟨⟨0, 0⟩, 2, ?_, ?_, fun h => by cases h⟩
    · unfold impl_BrightnessOf
      by_cases hx : 1 ≤ x ∧ x ≤ 1000 <;> by_cases hy : 1 ≤ y ∧ y ≤ 1000 <;> by_cases hn : 0 ≤ n ∧ n ≤ 100000 <;> simp [withinB, isSide_eq, hx, hy, hn]
      exact (h ⟨hn, hx, hy⟩).elim
    · unfold spec_BrightnessOf
      by_cases hx : 1 ≤ x ∧ x ≤ 1000 <;> by_cases hy : 1 ≤ y ∧ y ≤ 1000 <;> by_cases hn : 0 ≤ n ∧ n ≤ 100000 <;> simp [inB, l12Side_eq, hx, hy, hn]
      exact (h ⟨hn, hx, hy⟩).elim
theorem ScreenArea_same (x y : Int) : ∃ v e, impl_ScreenArea x y = some (v, e) ∧ spec_ScreenArea x y = some (v, e) := by
  unfold impl_ScreenArea spec_ScreenArea
  by_cases hx : 1 ≤ x ∧ x ≤ 1000 <;> by_cases hy : 1 ≤ y ∧ y ≤ 1000 <;> simp [isSide_eq, l12Side_eq, hx, hy]

theorem CornerLight_same (t h : Int) : ∃ f e, impl_CornerLight t h = some (f, e) ∧ spec_CornerLight t h = some (f, e) ∧ (e = 0 → 1 ≤ f.Num ∧ f.Num ≤ f.Den) := by
  by_cases hc : (1 ≤ t ∧ t ≤ 1000) ∧ (0 ≤ h ∧ h ≤ 1000)
  · obtain ⟨ht, hh⟩ := hc
    have e1 := mul_bd (a := t) (b := t) (A := 1000) (B := 1000) (by omega) (by omega) (by omega) (by omega)
    have e2 := mul_bd (a := h) (b := h) (A := 1000) (B := 1000) (by omega) (by omega) (by omega) (by omega)
    have p1 : 0 < t * t := Int.mul_pos (by omega) (by omega)
    have p2 : 0 ≤ h * h := Int.mul_nonneg (by omega) (by omega)
    have a1 : w64 (t * t) = t * t := w64_id (by omega) (by omega)
    have a2 : w64 (h * h) = h * h := w64_id (by omega) (by omega)
    have a3 : w64 (t * t + h * h) = t * t + h * h := w64_id (by omega) (by omega)
    have hND : t * t ≤ t * t + h * h := by omega
    have hDm : t * t + h * h ≤ 2000000 := by omega
    obtain ⟨r, h1, _, h3⟩ := make_same (n := t * t) (d := t * t + h * h) (by omega) (by omega) (by omega)
    have hN0 : 0 < t * t := p1
    have hI : impl_CornerLight t h = (impl_lowest (w64 (r.Num * r.Num)) (w64 (r.Den * r.Den))).bind fun r4 => some (r4, 0) := by
      unfold impl_CornerLight
      simp only [isSide_eq, withinB, decide_eq_true ht, decide_eq_true hh, Option.bind_some, if_true, Bool.not_true, Bool.false_eq_true, if_false]
      rw [a1, a2, a3, h1]; rfl
    have hS : spec_CornerLight t h = (spec_l02Make (w64 (t * t * (t * t))) (w64 ((t * t + h * h) * (t * t + h * h)))).bind fun r3 => some (r3, 0) := by
      unfold spec_CornerLight
      simp only [l12Far_eq, inB, decide_eq_true ht, decide_eq_true hh, Option.bind_some, if_true, Bool.not_true, Bool.false_eq_true, if_false]
      rw [a1, a2, a3]
    rw [hI, hS]
    generalize t * t = N at *
    generalize N + h * h = D at *
    have r1 := h3.pos
    have r2 := h3.den_le (by omega)
    have r3 := h3.num_le (by omega)
    have r4 := h3.eq
    have rn : 0 < r.Num := by
      have : 0 < r.Num * D := by rw [r4]; exact Int.mul_pos hN0 r1
      exact Int.pos_of_mul_pos_left this (by omega) 
    have m1 := mul_bd (a := r.Num) (b := r.Num) (A := 1000000) (B := 1000000) (by omega) (by omega) (by omega) (by omega)
    have m2 := mul_bd (a := r.Den) (b := r.Den) (A := 2000000) (B := 2000000) (by omega) (by omega) (by omega) (by omega)
    have m3 := mul_bd (a := N) (b := N) (A := 1000000) (B := 1000000) (by omega) (by omega) (by omega) (by omega)
    have m4 := mul_bd (a := D) (b := D) (A := 2000000) (B := 2000000) (by omega) (by omega) (by omega) (by omega)
    have q1 : 0 < r.Den * r.Den := Int.mul_pos r1 r1
    have q2 : 0 < D * D := Int.mul_pos (by omega) (by omega)
    have q3 : 0 < N * N := Int.mul_pos hN0 hN0
    obtain ⟨f, f1, _, f3⟩ := make_same (n := r.Num * r.Num) (d := r.Den * r.Den) q1 (by omega) (by omega)
    obtain ⟨g, _, g2, g3⟩ := make_same (n := N * N) (d := D * D) q2 (by omega) (by omega)
    have hR : Red (N * N) (D * D) f := by
      refine ⟨f3.pos, f3.cop, ?_⟩
      have e5 := f3.eq
      refine Int.eq_of_mul_eq_mul_right (a := r.Den * r.Den) (by omega) ?_
      calc f.Num * (D * D) * (r.Den * r.Den) = f.Num * (r.Den * r.Den) * (D * D) := by simp only [Int.mul_assoc, Int.mul_comm, Int.mul_left_comm]
        _ = r.Num * r.Num * f.Den * (D * D) := by rw [e5]
        _ = (r.Num * D) * (r.Num * D) * f.Den := by simp only [Int.mul_assoc, Int.mul_comm, Int.mul_left_comm]
        _ = (N * r.Den) * (N * r.Den) * f.Den := by rw [r4]
        _ = N * N * f.Den * (r.Den * r.Den) := by simp only [Int.mul_assoc, Int.mul_comm, Int.mul_left_comm]
    obtain rfl := Red.same hR g3 (by omega)
    refine ⟨f, 0, ?_, ?_, fun _ => ?_⟩
    · rw [w64_id (by omega) (by omega), w64_id (by omega) (by omega), f1]; rfl
    · rw [w64_id (by omega) (by omega), w64_id (by omega) (by omega), g2]; rfl
    · have e6 := hR.eq
      have fd := hR.pos
      have c1 : 0 < f.Num := by
        have : 0 < f.Num * (D * D) := by rw [e6]; exact Int.mul_pos q3 fd
        exact Int.pos_of_mul_pos_left this (by omega)
      refine ⟨by omega, ?_⟩
      refine Classical.byContradiction fun hgt => ?_
      have c2 : (f.Den + 1) * (D * D) ≤ f.Num * (D * D) := Int.mul_le_mul_of_nonneg_right (by omega) (by omega)
      have c3 : N * N ≤ D * D := Int.mul_le_mul (by omega) (by omega) (by omega) (by omega)
      have c4 : N * N * f.Den ≤ D * D * f.Den := Int.mul_le_mul_of_nonneg_right c3 (by omega)
      rw [Int.add_mul, Int.mul_comm f.Den] at c2
      omega
  · refine ⟨⟨0, 0⟩, 2, ?_, ?_, fun h => by cases h⟩
    · unfold impl_CornerLight
      by_cases ht : 1 ≤ t ∧ t ≤ 1000 <;> by_cases hh : 0 ≤ h ∧ h ≤ 1000 <;> simp [withinB, isSide_eq, ht, hh]
      exact (hc ⟨ht, hh⟩).elim
    · unfold spec_CornerLight
      by_cases ht : 1 ≤ t ∧ t ≤ 1000 <;> by_cases hh : 0 ≤ h ∧ h ≤ 1000 <;> simp [inB, l12Far_eq, ht, hh]
      exact (hc ⟨ht, hh⟩).elim

/- light behind losses -/
def pL (l : List Int) : Nat → Int
  | 0 => 1
  | k + 1 => pL l k * (1000 - l.getD k 0)
theorem getD_at {l : List Int} {k : Nat} (h : k < l.length) : l.getD k 0 = l[k] := by rw [List.getD_eq_getElem?_getD, List.getElem?_eq_getElem h]; rfl
theorem pL_bd {l : List Int} (hl : ∀ x, x ∈ l → 0 ≤ x ∧ x ≤ 1000) : ∀ k, k ≤ l.length → 0 ≤ pL l k ∧ pL l k ≤ 1000 ^ k
  | 0, _ => by simp [pL]
  | k + 1, h => by
    obtain ⟨h1, h2⟩ := pL_bd hl k (by omega)
    have hx := hl l[k] (List.getElem_mem (by omega))
    rw [pL, getD_at (by omega)]
    refine ⟨Int.mul_nonneg h1 (by omega), ?_⟩
    rw [Int.pow_succ]
    exact Int.mul_le_mul h2 (by omega) (by omega) (by omega)
theorem pow4 {k : Nat} (h : k ≤ 4) : 1 ≤ (1000 : Int) ^ k ∧ (1000 : Int) ^ k ≤ 1000000000000 := by
  have h1 : (1000 : Nat) ^ k ≤ 1000 ^ 4 := Nat.pow_le_pow_right (by omega) h
  have h2 : 0 < (1000 : Nat) ^ k := Nat.pow_pos (by omega)
  have h3 : ((1000 ^ k : Nat) : Int) = (1000 : Int) ^ k := by simp
  have h4 : (1000 : Nat) ^ 4 = 1000000000000 := by decide
  omega
theorem lossLoop {n : Int} {l : List Int} (hn : 0 ≤ n) (hn2 : n ≤ 100000) (hl : ∀ x, x ∈ l → 0 ≤ x ∧ x ≤ 1000) (h4 : l.length ≤ 4) {body : Int × Int × Int → Option (Step (Int × Int × Int) (Int × Int) Empty)}
    (hb : ∀ a b i, body (a, b, i) = if i < (l.length : Int) then ((at? l i).bind fun v => some (.next (w64 (a * w64 (1000 - v)), w64 (b * 1000), w64 (i + 1)))) else some (.brk (a, b))) :
    loop body loopLim (n, 1, 0) = some (.brk (n * pL l l.length, 1000 ^ l.length)) := by
  have := loop_brk (body := body) (fun j : Nat => (n * pL l j, (1000 : Int) ^ j, (j : Int))) (b := (n * pL l l.length, 1000 ^ l.length)) l.length (by omega) (fun j hj => by
    have hx := hl l[j] (List.getElem_mem hj)
    obtain ⟨p0, p1⟩ := pL_bd hl (j + 1) (by omega)
    obtain ⟨q0, q1⟩ := pow4 (k := j + 1) (by omega)
    have m1 := mul_bd (a := n) (b := pL l (j + 1)) (A := 100000) (B := 1000000000000) (by omega) (by omega) (by omega) (by omega)
    rw [hb, if_pos (by omega), at_of hj, Option.bind_some, w64_id (n := 1000 - l[j]) (by omega) (by omega), show n * pL l j * (1000 - l[j]) = n * pL l (j + 1) by rw [pL, getD_at hj, Int.mul_assoc], show (1000 : Int) ^ j * 1000 = 1000 ^ (j + 1) from (Int.pow_succ ..).symm, w64_id (n := n * pL l (j + 1)) (by omega) (by omega), w64_id (n := (1000 : Int) ^ (j + 1)) (by omega) (by omega), w64_id (by omega) (by omega)]
    rfl) (by rw [hb, if_neg (by omega)])
  simpa [pL] using this
theorem LightThrough_same (n : Int) (l : List Int) (hl : l.length ≤ 1000000) : ∃ f e, impl_LightThrough n l = some (f, e) ∧ spec_LightThrough n l = some (f, e) ∧ (e = 0 → 0 ≤ f.Num ∧ f.Num ≤ n * f.Den ∧ 0 ≤ n ∧ n ≤ 100000 ∧ 1 ≤ f.Den ∧ f.Den ≤ 1000000000000) := by
  have hcf : slices_ContainsFunc_int64_int64_796 l (fun a0 => impl_LightThrough_1 a0) = some (l.any fun v => !(decide (0 ≤ v ∧ v ≤ 1000))) := by
    unfold slices_ContainsFunc_int64_int64_796 slices_IndexFunc_int64_int64_818
    exact contS _ l (fun x _ => by unfold impl_LightThrough_1; rw [withinB]; rfl) (by omega) (fun _ => rfl)
  have hS : spec_LightThrough n l = (if decide (0 ≤ n ∧ n ≤ 100000) = true then (if ∀ x, x ∈ l → decide (0 ≤ x ∧ x ≤ 1000) = true then (if (l.length : Int) > 4 then (some ((GFraction.mk 0 0), 2))
 else
 onL (loop (S := (Int × Int × Int)) (B := (Int × Int)) (R := Empty) (fun ((num1, den1, i2) : Int × Int × Int) =>
 if i2 < (l.length : Int) then
 ((at? l i2).bind fun v2 =>
 some (.next (w64 (num1 * (w64 (1000 - v2))), w64 (den1 * 1000), w64 (i2 + 1))))
 else
 some (.brk (num1, den1))) loopLim (n, 1, 0))
 (fun ((num2, den2) : Int × Int) => (spec_l02Make num2 den2).bind fun r3 =>
 some (r3, 0)) Empty.elim) else some ((GFraction.mk 0 0), 2)) else some ((GFraction.mk 0 0), 2) : Option (GFraction × Int)) := by
    unfold spec_LightThrough
    rw [inB, Option.bind_some]
    by_cases h : 0 ≤ n ∧ n ≤ 100000
    · simp only [decide_eq_true h, if_true]
      rw [allS (f := fun v => spec_l00In v 0 1000) (fun v => decide (0 ≤ v ∧ v ≤ 1000)) l (fun x _ => inB x 0 1000) (by omega) (fun _ => rfl)]
    · simp [h]
  rw [hS]
  unfold impl_LightThrough
  rw [withinB, hcf, Option.bind_some]
  by_cases hn : 0 ≤ n ∧ n ≤ 100000
  · simp only [decide_eq_true hn, if_true]
    by_cases h4 : (l.length : Int) > 4
    · refine ⟨⟨0, 0⟩, 2, ?_, ?_, fun h => by cases h⟩
      · simp only [h4, if_true, Option.bind_some]
      · simp only [h4, if_true, ite_self]
    · simp only [h4, if_false, Option.bind_some]
      by_cases hall : ∀ x, x ∈ l → decide (0 ≤ x ∧ x ≤ 1000) = true
      · have hany : l.any (fun v => !(decide (0 ≤ v ∧ v ≤ 1000))) = false := by
          rw [List.any_eq_false]; intro x hx; rw [hall x hx]; simp
        have hall2 : ∀ x, x ∈ l → 0 ≤ x ∧ x ≤ 1000 := fun x hx => of_decide_eq_true (hall x hx)
        rw [hany, if_pos hall]
        simp only [Bool.false_eq_true, if_false]
        rw [lossLoop hn.1 hn.2 hall2 (by omega) (fun _ _ _ => rfl), onL_brk]
        obtain ⟨p0, p1⟩ := pL_bd hall2 l.length (by omega)
        obtain ⟨q0, q1⟩ := pow4 (k := l.length) (by omega)
        generalize pL l l.length = p at *
        generalize (1000 : Int) ^ l.length = d at *
        have m1 := mul_bd (a := n) (b := p) (A := 100000) (B := 1000000000000) (by omega) (by omega) (by omega) (by omega)
        have m0 : 0 ≤ n * p := Int.mul_nonneg hn.1 p0
        obtain ⟨f, h1, h2, h3⟩ := make_same (n := n * p) (d := d) (by omega) (by omega) (by omega)
        refine ⟨f, 0, by simp only; rw [h1]; rfl, by simp only [onL_brk]; rw [h2]; rfl, fun _ => ?_⟩
        have fd := h3.pos
        have fe := h3.eq
        have fl := h3.den_le (by omega)
        have f0 : 0 ≤ f.Num := by
          have : 0 ≤ f.Num * d := by rw [fe]; exact Int.mul_nonneg m0 (by omega)
          exact Int.nonneg_of_mul_nonneg_left this (by omega)
        refine ⟨f0, ?_, hn.1, hn.2, by omega, by omega⟩
        refine Classical.byContradiction fun hgt => ?_
        have c1 : (n * f.Den + 1) * d ≤ f.Num * d := Int.mul_le_mul_of_nonneg_right (by omega) (by omega)
        have c2 : n * p ≤ n * d := Int.mul_le_mul_of_nonneg_left p1 hn.1
        have c3 : n * p * f.Den ≤ n * d * f.Den := Int.mul_le_mul_of_nonneg_right c2 (by omega)
        rw [Int.add_mul, show n * f.Den * d = n * d * f.Den by simp only [Int.mul_assoc, Int.mul_comm, Int.mul_left_comm]] at c1
        omega
      · have hany : l.any (fun v => !(decide (0 ≤ v ∧ v ≤ 1000))) = true := by
          refine Classical.byContradiction fun hc => hall fun x hx => ?_
          have hf : l.any (fun v => !(decide (0 ≤ v ∧ v ≤ 1000))) = false := by simpa using hc
          rw [List.any_eq_false] at hf
          have := hf x hx
          simpa using this
        rw [hany, if_neg hall]
        exact ⟨⟨0, 0⟩, 2, rfl, rfl, fun h => by cases h⟩
  · refine ⟨⟨0, 0⟩, 2, ?_, ?_, fun h => by cases h⟩ <;> simp [hn]

/- the farthest -/
def FarR (c : Int → Bool) (r : Int × Int) : Prop := (r.2 = 0 ∧ 1 ≤ r.1 ∧ r.1 ≤ 1000 ∧ c r.1 = true ∧ ∀ t, r.1 < t → t ≤ 1000 → c t = false) ∨ (r = (0, 3) ∧ ∀ t, 1 ≤ t → t ≤ 1000 → c t = false)
theorem FarR.unique {c : Int → Bool} {r r' : Int × Int} (h : FarR c r) (h' : FarR c r') : r = r' := by
  obtain ⟨v, e⟩ := r
  obtain ⟨v', e'⟩ := r'
  rcases h with ⟨h1, h2, h3, h4, h5⟩ | ⟨h1, h2⟩ <;> rcases h' with ⟨k1, k2, k3, k4, k5⟩ | ⟨k1, k2⟩ <;> (try simp only at *)
  · subst h1 k1
    rcases Int.lt_trichotomy v v' with hh | hh | hh
    · rw [h5 v' hh k3] at k4; cases k4
    · rw [hh]
    · rw [k5 v hh h3] at h4; cases h4
  · rw [k2 v h2 h3] at h4; cases h4
  · rw [h2 v' k2 k3] at k4; cases k4
  · rw [h1, k1]
theorem downLoop {c : Int → Bool} {body : Int → Option (Step Int Unit (Int × Int))}
    (hb : ∀ t, 0 ≤ t → t ≤ 1000 → body t = if t ≥ 1 then (if c t = true then some (.ret (t, 0)) else some (.next (w64 (t - 1)))) else some (.brk ())) :
    wp (onL (loop body loopLim 1000) (fun (_ : Unit) => some ((0 : Int), (3 : Int))) (fun r => some r)) (FarR c) := by
  refine wp_loop (fun t : Int => 0 ≤ t ∧ t ≤ 1000 ∧ ∀ u, t < u → u ≤ 1000 → c u = false) (fun t => t.toNat) ⟨by omega, by omega, fun u h1 h2 => by omega⟩ (by omega) ?_
  rintro t ⟨h0, h1, h2⟩
  rw [hb t h0 h1]
  refine wp_ite (fun h => ?_) (fun h => ?_)
  · refine wp_ite (fun h3 => ?_) (fun h3 => ?_)
    · exact wp_some (wp_some (.inl ⟨rfl, h, h1, h3, h2⟩))
    · rw [w64_id (by omega) (by omega)]
      refine wp_some ⟨⟨by omega, by omega, fun u g1 g2 => ?_⟩, by omega⟩
      rcases Int.lt_or_le t u with g3 | g3
      · exact h2 u g3 g2
      · obtain rfl : u = t := by omega
        simpa using h3
  · exact wp_some (wp_some (.inr ⟨rfl, fun u g1 g2 => h2 u (by omega) g2⟩))
def enough (b : GFraction) (x : Int) (l : GFraction) (t : Int) : Bool := decide ((b.Num * l.Den) * (x * x) ≥ (l.Num * b.Den) * (t * t))
theorem FarthestFor_same (b : GFraction) (x : Int) (l : GFraction) : ∃ v e, impl_FarthestFor b x l = some (v, e) ∧ spec_FarthestFor b x l = some (v, e) ∧ (e = 0 → b.valid ∧ brt b ∧ l.valid ∧ brt l ∧ (1 ≤ x ∧ x ≤ 1000) ∧ (1 ≤ v ∧ v ≤ 1000) ∧ ∀ t, v < t → t ≤ 1000 → enough b x l t = false) := by
  by_cases hv : b.valid ∧ l.valid
  · obtain ⟨hv, hv2⟩ := hv
    by_cases hc : brt b ∧ (1 ≤ x ∧ x ≤ 1000) ∧ brt l
    · obtain ⟨hb, hx, hb2⟩ := hc
      obtain ⟨⟨n0, n1⟩, d1⟩ := id hb
      obtain ⟨⟨m0, m1⟩, f1⟩ := id hb2
      have d0 := hv.1
      have f0 := hv2.1
      have a1 := mul_bd (a := b.Num) (b := l.Den) (A := 100000) (B := 100000) (by omega) (by omega) (by omega) (by omega)
      have a0 : 0 ≤ b.Num * l.Den := Int.mul_nonneg (by omega) (by omega)
      have b1 := mul_bd (a := l.Num) (b := b.Den) (A := 100000) (B := 100000) (by omega) (by omega) (by omega) (by omega)
      have b0 : 0 ≤ l.Num * b.Den := Int.mul_nonneg (by omega) (by omega)
      have x1 := mul_bd (a := x) (b := x) (A := 1000) (B := 1000) (by omega) (by omega) (by omega) (by omega)
      have hI : wp (impl_FarthestFor b x l) (FarR (enough b x l)) := by
        unfold impl_FarthestFor
        simp only [validD, isBrightness_eq, isSide_eq, decide_eq_true hv, decide_eq_true hv2, decide_eq_true hb, decide_eq_true hb2, decide_eq_true hx, Option.bind_some, if_true, Bool.not_true, Bool.false_eq_true, if_false]
        refine downLoop fun t t0 t1 => ?_
        have y1 := mul_bd (a := b.Num) (b := x) (A := 100000) (B := 1000) (by omega) (by omega) (by omega) (by omega)
        have y2 := mul_bd (a := b.Num * x) (b := x) (A := 100000000) (B := 1000) (by omega) (by omega) (by omega) (by omega)
        have y3 := mul_bd (a := b.Num * x * x) (b := l.Den) (A := 100000000000) (B := 100000) (by omega) (by omega) (by omega) (by omega)
        have z1 := mul_bd (a := l.Num * b.Den) (b := t) (A := 10000000000) (B := 1000) (by omega) (by omega) (by omega) (by omega)
        have z2 := mul_bd (a := l.Num * b.Den * t) (b := t) (A := 10000000000000) (B := 1000) (by omega) (by omega) (by omega) (by omega)
        rw [w64_id (n := b.Num * x) (by omega) (by omega), w64_id (n := b.Num * x * x) (by omega) (by omega), w64_id (n := b.Num * x * x * l.Den) (by omega) (by omega), w64_id (n := l.Num * b.Den) (by omega) (by omega), w64_id (n := l.Num * b.Den * t) (by omega) (by omega), w64_id (n := l.Num * b.Den * t * t) (by omega) (by omega)]
        have e1 : b.Num * x * x * l.Den = b.Num * l.Den * (x * x) := by simp only [Int.mul_assoc, Int.mul_comm, Int.mul_left_comm]
        rw [e1, Int.mul_assoc (l.Num * b.Den)]
        simp only [enough, decide_eq_true_eq]
      have hS : wp (spec_FarthestFor b x l) (FarR (enough b x l)) := by
        unfold spec_FarthestFor
        simp only [okD, l12Bright_eq, l12Far_eq, decide_eq_true hv, decide_eq_true hv2, decide_eq_true (And.intro hv hb), decide_eq_true (And.intro hv2 hb2), decide_eq_true hx, Option.bind_some, if_true, Bool.not_true, Bool.false_eq_true, if_false]
        rw [w64_id (n := b.Num * l.Den) (by omega) (by omega), w64_id (n := l.Num * b.Den) (by omega) (by omega), spec_l00Gcd_eq a0 b0 (by omega), Option.bind_some, maxB, Option.bind_some]
        have hG : ∃ G p q, max 1 (Int.gcd (b.Num * l.Den) (l.Num * b.Den) : Int) = G ∧ 1 ≤ G ∧ b.Num * l.Den = G * p ∧ l.Num * b.Den = G * q := by
          rcases Nat.eq_zero_or_pos (Int.gcd (b.Num * l.Den) (l.Num * b.Den)) with h0 | h0
          · refine ⟨1, b.Num * l.Den, l.Num * b.Den, by rw [h0]; rfl, by omega, by omega, by omega⟩
          · obtain ⟨p, hp⟩ := Int.gcd_dvd_left (a := b.Num * l.Den) (b := l.Num * b.Den)
            obtain ⟨q, hq⟩ := Int.gcd_dvd_right (a := b.Num * l.Den) (b := l.Num * b.Den)
            exact ⟨_, p, q, Int.max_eq_right (by omega), by omega, hp, hq⟩
        obtain ⟨G, p, q, hm, hG1, hp, hq⟩ := hG
        have p0 : 0 ≤ p := by
          rw [hp] at a0; exact Int.nonneg_of_mul_nonneg_right a0 (by omega)
        have q0 : 0 ≤ q := by
          rw [hq] at b0; exact Int.nonneg_of_mul_nonneg_right b0 (by omega)
        have p1 : p ≤ G * p := by
          have := Int.mul_le_mul_of_nonneg_right (a := 1) (b := G) (c := p) hG1 p0
          omega
        have q1 : q ≤ G * q := by
          have := Int.mul_le_mul_of_nonneg_right (a := 1) (b := G) (c := q) hG1 q0
          omega
        rw [hm, div_ok (by omega), Option.bind_some, div_ok (by omega), Option.bind_some, hp, hq, Int.mul_tdiv_cancel_left _ (by omega), Int.mul_tdiv_cancel_left _ (by omega), show IntKind.wrap .i64 p = p from w64_id (by omega) (by omega), show IntKind.wrap .i64 q = q from w64_id (by omega) (by omega)]
        refine downLoop fun t t0 t1 => ?_
        have t2 := mul_bd (a := t) (b := t) (A := 1000) (B := 1000) (by omega) (by omega) (by omega) (by omega)
        have u1 := mul_bd (a := p) (b := x * x) (A := 10000000000) (B := 1000000) (by omega) (by omega) (by omega) (by omega)
        have u2 := mul_bd (a := q) (b := t * t) (A := 10000000000) (B := 1000000) (by omega) (by omega) (by omega) (by omega)
        unfold spec_l12Enough
        rw [w64_id (n := x * x) (by omega) (by omega), w64_id (n := t * t) (by omega) (by omega), w64_id (n := p * (x * x)) (by omega) (by omega), w64_id (n := q * (t * t)) (by omega) (by omega)]
        have hiff : enough b x l t = decide (p * (x * x) ≥ q * (t * t)) := by
          unfold enough
          rw [hp, hq, decide_eq_decide, Int.mul_assoc G, Int.mul_assoc G]
          constructor
          · intro h; exact Int.le_of_mul_le_mul_left h (by omega)
          · intro h; exact Int.mul_le_mul_of_nonneg_left h (by omega)
        rw [hiff]
        rfl
      obtain ⟨r, h1, h2⟩ := hI
      obtain ⟨r', h1', h2'⟩ := hS
      obtain rfl := h2.unique h2'
      refine ⟨r.1, r.2, h1, h1', fun he => ?_⟩
      rcases h2 with ⟨g1, g2, g3, g4, g5⟩ | ⟨g1, g2⟩
      · exact ⟨hv, hb, hv2, hb2, hx, ⟨g2, g3⟩, g5⟩
      · rw [g1] at he; cases he
    · refine ⟨0, 2, ?_, ?_, fun h => by cases h⟩
      · unfold impl_FarthestFor
        by_cases h1 : brt b <;> by_cases h2 : 1 ≤ x ∧ x ≤ 1000 <;> by_cases h3 : brt l <;> simp [validD, isBrightness_eq, isSide_eq, hv, hv2, h1, h2, h3]
        exact (hc ⟨h1, h2, h3⟩).elim
      · unfold spec_FarthestFor
        by_cases h1 : brt b <;> by_cases h2 : 1 ≤ x ∧ x ≤ 1000 <;> by_cases h3 : brt l <;> simp [okD, l12Bright_eq, l12Far_eq, hv, hv2, h1, h2, h3]
        exact (hc ⟨h1, h2, h3⟩).elim
  · refine ⟨0, 1, ?_, ?_, fun h => by cases h⟩
    · unfold impl_FarthestFor
      by_cases h1 : b.valid <;> by_cases h2 : l.valid <;> simp [validD, h1, h2]
      exact (hv ⟨h1, h2⟩).elim
    · unfold spec_FarthestFor
      by_cases h1 : b.valid <;> by_cases h2 : l.valid <;> simp [okD, h1, h2]
      exact (hv ⟨h1, h2⟩).elim

/- draws -/
theorem l12DrawBright_ok {B : Int} {s : GL00Src} (h : SrcOk B s) (hB : B ≤ 4611686018427360000) : wp (spec_l12DrawBright s) (fun r => SrcOk (B + 20) r.2) := by
  unfold spec_l12DrawBright
  repeat' first
    | ((with_reducible apply wp_pick); assumption; omega; intro _ _ _ _ _; try simp only)
    | ((with_reducible apply wp_one); assumption; omega; intro _ _ _; try simp only)
    | ((with_reducible apply wp_among); assumption; omega; simp; simp; intro _ _ _ _; try simp only)
    | ((with_reducible apply wp_bent); assumption; omega; intro _ _ _; try simp only)
    | ((with_reducible apply wp_draw02); assumption; omega; intro _ _ _; try simp only)
    | ((with_reducible apply wp_from); assumption; omega; intro _ _; try simp only)
    | ((with_reducible refine wp_app ?_ ?_); ((try simp only [List.length_append, List.length_cons, List.length_nil]); omega); try simp only)
    | (with_reducible refine wp_ite ?_ ?_) <;> intro _
    | ((with_reducible refine wp_bind (wp_ite ?_ ?_))) <;> intro _
    | ((with_reducible refine wp_bind (wp_some ?_)); try simp only)
    | ((with_reducible refine wp_some ?_); try simp only)
    | exact trivial
    | exact SrcOk.mono (by assumption) (by omega)
  rw [w64_id (by omega) (by omega), w64_id (by omega) (by omega)]
  exact wp_make (by omega) (by omega) (by omega) fun f _ => wp_some (SrcOk.mono (by assumption) (by omega))
theorem l12DrawFar_ok {B : Int} {s : GL00Src} (h : SrcOk B s) (hB : B ≤ 4611686018427360000) : wp (spec_l12DrawFar s) (fun r => SrcOk (B + 20) r.2) := by
  unfold spec_l12DrawFar
  repeat' first
    | ((with_reducible apply wp_pick); assumption; omega; intro _ _ _ _ _; try simp only)
    | ((with_reducible apply wp_one); assumption; omega; intro _ _ _; try simp only)
    | ((with_reducible apply wp_among); assumption; omega; simp; simp; intro _ _ _ _; try simp only)
    | ((with_reducible apply wp_bent); assumption; omega; intro _ _ _; try simp only)
    | ((with_reducible apply wp_draw02); assumption; omega; intro _ _ _; try simp only)
    | ((with_reducible apply wp_from); assumption; omega; intro _ _; try simp only)
    | ((with_reducible refine wp_app ?_ ?_); ((try simp only [List.length_append, List.length_cons, List.length_nil]); omega); try simp only)
    | (with_reducible refine wp_ite ?_ ?_) <;> intro _
    | ((with_reducible refine wp_bind (wp_ite ?_ ?_))) <;> intro _
    | ((with_reducible refine wp_bind (wp_some ?_)); try simp only)
    | ((with_reducible refine wp_some ?_); try simp only)
    | exact trivial
    | exact SrcOk.mono (by assumption) (by omega)
theorem l12DrawLumens_ok {B : Int} {s : GL00Src} (h : SrcOk B s) (hB : B ≤ 4611686018427360000) : wp (spec_l12DrawLumens s) (fun r => SrcOk (B + 20) r.2) := by
  unfold spec_l12DrawLumens
  repeat' first
    | ((with_reducible apply wp_pick); assumption; omega; intro _ _ _ _ _; try simp only)
    | ((with_reducible apply wp_one); assumption; omega; intro _ _ _; try simp only)
    | ((with_reducible apply wp_among); assumption; omega; simp; simp; intro _ _ _ _; try simp only)
    | ((with_reducible apply wp_bent); assumption; omega; intro _ _ _; try simp only)
    | ((with_reducible apply wp_draw02); assumption; omega; intro _ _ _; try simp only)
    | ((with_reducible apply wp_from); assumption; omega; intro _ _; try simp only)
    | ((with_reducible refine wp_app ?_ ?_); ((try simp only [List.length_append, List.length_cons, List.length_nil]); omega); try simp only)
    | (with_reducible refine wp_ite ?_ ?_) <;> intro _
    | ((with_reducible refine wp_bind (wp_ite ?_ ?_))) <;> intro _
    | ((with_reducible refine wp_bind (wp_some ?_)); try simp only)
    | ((with_reducible refine wp_some ?_); try simp only)
    | exact trivial
    | exact SrcOk.mono (by assumption) (by omega)
theorem l12DrawSide_ok {B : Int} {s : GL00Src} (h : SrcOk B s) (hB : B ≤ 4611686018427360000) : wp (spec_l12DrawSide s) (fun r => SrcOk (B + 20) r.2) := by
  unfold spec_l12DrawSide
  repeat' first
    | ((with_reducible apply wp_pick); assumption; omega; intro _ _ _ _ _; try simp only)
    | ((with_reducible apply wp_one); assumption; omega; intro _ _ _; try simp only)
    | ((with_reducible apply wp_among); assumption; omega; simp; simp; intro _ _ _ _; try simp only)
    | ((with_reducible apply wp_bent); assumption; omega; intro _ _ _; try simp only)
    | ((with_reducible apply wp_draw02); assumption; omega; intro _ _ _; try simp only)
    | ((with_reducible apply wp_from); assumption; omega; intro _ _; try simp only)
    | ((with_reducible refine wp_app ?_ ?_); ((try simp only [List.length_append, List.length_cons, List.length_nil]); omega); try simp only)
    | (with_reducible refine wp_ite ?_ ?_) <;> intro _
    | ((with_reducible refine wp_bind (wp_ite ?_ ?_))) <;> intro _
    | ((with_reducible refine wp_bind (wp_some ?_)); try simp only)
    | ((with_reducible refine wp_some ?_); try simp only)
    | exact trivial
    | exact SrcOk.mono (by assumption) (by omega)
section
variable {code : List Int} (hc : okL (okI .u8) code) (hl : code.length ≤ 1000000)
include hc hl
theorem DrawBrightnessAt_ok : wp (spec_DrawBrightnessAt code) (fun _ => True) := by
  unfold spec_DrawBrightnessAt
  repeat' first
    | ((with_reducible apply wp_pick); assumption; omega; intro _ _ _ _ _; try simp only)
    | ((with_reducible apply wp_one); assumption; omega; intro _ _ _; try simp only)
    | ((with_reducible apply wp_among); assumption; omega; simp; simp; intro _ _ _ _; try simp only)
    | ((with_reducible apply wp_bent); assumption; omega; intro _ _ _; try simp only)
    | ((with_reducible apply wp_draw02); assumption; omega; intro _ _ _; try simp only)
    | ((with_reducible apply wp_from); assumption; omega; intro _ _; try simp only)
    | ((with_reducible apply wp_sub (fun h hB => l12DrawBright_ok h hB)); assumption; omega; intro _ _ _; try simp only)
    | ((with_reducible apply wp_sub (fun h hB => l12DrawFar_ok h hB)); assumption; omega; intro _ _ _; try simp only)
    | ((with_reducible refine wp_app ?_ ?_); ((try simp only [List.length_append, List.length_cons, List.length_nil]); omega); try simp only)
    | (with_reducible refine wp_ite ?_ ?_) <;> intro _
    | ((with_reducible refine wp_bind (wp_ite ?_ ?_))) <;> intro _
    | ((with_reducible refine wp_bind (wp_some ?_)); try simp only)
    | ((with_reducible refine wp_some ?_); try simp only)
    | exact trivial
    | exact SrcOk.mono (by assumption) (by omega)
theorem DrawBrightnessOf_ok : wp (spec_DrawBrightnessOf code) (fun _ => True) := by
  unfold spec_DrawBrightnessOf
  repeat' first
    | ((with_reducible apply wp_pick); assumption; omega; intro _ _ _ _ _; try simp only)
    | ((with_reducible apply wp_one); assumption; omega; intro _ _ _; try simp only)
    | ((with_reducible apply wp_among); assumption; omega; simp; simp; intro _ _ _ _; try simp only)
    | ((with_reducible apply wp_bent); assumption; omega; intro _ _ _; try simp only)
    | ((with_reducible apply wp_draw02); assumption; omega; intro _ _ _; try simp only)
    | ((with_reducible apply wp_from); assumption; omega; intro _ _; try simp only)
    | ((with_reducible apply wp_sub (fun h hB => l12DrawLumens_ok h hB)); assumption; omega; intro _ _ _; try simp only)
    | ((with_reducible apply wp_sub (fun h hB => l12DrawSide_ok h hB)); assumption; omega; intro _ _ _; try simp only)
    | ((with_reducible refine wp_app ?_ ?_); ((try simp only [List.length_append, List.length_cons, List.length_nil]); omega); try simp only)
    | (with_reducible refine wp_ite ?_ ?_) <;> intro _
    | ((with_reducible refine wp_bind (wp_ite ?_ ?_))) <;> intro _
    | ((with_reducible refine wp_bind (wp_some ?_)); try simp only)
    | ((with_reducible refine wp_some ?_); try simp only)
    | exact trivial
    | exact SrcOk.mono (by assumption) (by omega)
theorem DrawCornerLight_ok : wp (spec_DrawCornerLight code) (fun _ => True) := by
  unfold spec_DrawCornerLight
  repeat' first
    | ((with_reducible apply wp_pick); assumption; omega; intro _ _ _ _ _; try simp only)
    | ((with_reducible apply wp_one); assumption; omega; intro _ _ _; try simp only)
    | ((with_reducible apply wp_among); assumption; omega; simp; simp; intro _ _ _ _; try simp only)
    | ((with_reducible apply wp_bent); assumption; omega; intro _ _ _; try simp only)
    | ((with_reducible apply wp_draw02); assumption; omega; intro _ _ _; try simp only)
    | ((with_reducible apply wp_from); assumption; omega; intro _ _; try simp only)
    | ((with_reducible apply wp_sub (fun h hB => l12DrawFar_ok h hB)); assumption; omega; intro _ _ _; try simp only)
    | ((with_reducible refine wp_app ?_ ?_); ((try simp only [List.length_append, List.length_cons, List.length_nil]); omega); try simp only)
    | (with_reducible refine wp_ite ?_ ?_) <;> intro _
    | ((with_reducible refine wp_bind (wp_ite ?_ ?_))) <;> intro _
    | ((with_reducible refine wp_bind (wp_some ?_)); try simp only)
    | ((with_reducible refine wp_some ?_); try simp only)
    | exact trivial
    | exact SrcOk.mono (by assumption) (by omega)
theorem DrawFarthestFor_ok : wp (spec_DrawFarthestFor code) (fun _ => True) := by
  unfold spec_DrawFarthestFor
  repeat' first
    | ((with_reducible apply wp_pick); assumption; omega; intro _ _ _ _ _; try simp only)
    | ((with_reducible apply wp_one); assumption; omega; intro _ _ _; try simp only)
    | ((with_reducible apply wp_among); assumption; omega; simp; simp; intro _ _ _ _; try simp only)
    | ((with_reducible apply wp_bent); assumption; omega; intro _ _ _; try simp only)
    | ((with_reducible apply wp_draw02); assumption; omega; intro _ _ _; try simp only)
    | ((with_reducible apply wp_from); assumption; omega; intro _ _; try simp only)
    | ((with_reducible apply wp_sub (fun h hB => l12DrawBright_ok h hB)); assumption; omega; intro _ _ _; try simp only)
    | ((with_reducible apply wp_sub (fun h hB => l12DrawFar_ok h hB)); assumption; omega; intro _ _ _; try simp only)
    | ((with_reducible refine wp_app ?_ ?_); ((try simp only [List.length_append, List.length_cons, List.length_nil]); omega); try simp only)
    | (with_reducible refine wp_ite ?_ ?_) <;> intro _
    | ((with_reducible refine wp_bind (wp_ite ?_ ?_))) <;> intro _
    | ((with_reducible refine wp_bind (wp_some ?_)); try simp only)
    | ((with_reducible refine wp_some ?_); try simp only)
    | exact trivial
    | exact SrcOk.mono (by assumption) (by omega)
theorem DrawScreenArea_ok : wp (spec_DrawScreenArea code) (fun _ => True) := by
  unfold spec_DrawScreenArea
  repeat' first
    | ((with_reducible apply wp_pick); assumption; omega; intro _ _ _ _ _; try simp only)
    | ((with_reducible apply wp_one); assumption; omega; intro _ _ _; try simp only)
    | ((with_reducible apply wp_among); assumption; omega; simp; simp; intro _ _ _ _; try simp only)
    | ((with_reducible apply wp_bent); assumption; omega; intro _ _ _; try simp only)
    | ((with_reducible apply wp_draw02); assumption; omega; intro _ _ _; try simp only)
    | ((with_reducible apply wp_from); assumption; omega; intro _ _; try simp only)
    | ((with_reducible apply wp_sub (fun h hB => l12DrawSide_ok h hB)); assumption; omega; intro _ _ _; try simp only)
    | ((with_reducible refine wp_app ?_ ?_); ((try simp only [List.length_append, List.length_cons, List.length_nil]); omega); try simp only)
    | (with_reducible refine wp_ite ?_ ?_) <;> intro _
    | ((with_reducible refine wp_bind (wp_ite ?_ ?_))) <;> intro _
    | ((with_reducible refine wp_bind (wp_some ?_)); try simp only)
    | ((with_reducible refine wp_some ?_); try simp only)
    | exact trivial
    | exact SrcOk.mono (by assumption) (by omega)
theorem DrawLightThrough_ok : wp (spec_DrawLightThrough code) (fun r => r.2.length ≤ 1000) := by
  unfold spec_DrawLightThrough
  have key : ∀ (n : Int) (s : GL00Src) (m : Int), SrcOk 100 s → 0 ≤ n → n ≤ 10 → wp (onL (loop (S := (GL00Src × (List Int) × Int)) (B := (GL00Src × (List Int))) (R := Empty) (fun ((s2, losses1, k1) : GL00Src × (List Int) × Int) =>
 if k1 > 0 then
 ((spec_l00Src_pick s2 20).bind fun r6 =>
 (app? losses1 ([w64 (50 * r6.1)] : List Int)).bind fun l1 =>
 some (.next (r6.2, l1, w64 (k1 - 1))))
 else
 some (.brk (s2, losses1))) loopLim (s, [], n))
 (fun ((s3, losses2) : GL00Src × (List Int)) => ((if n > 0 then
 ((spec_l00Src_one s3 10).bind fun r7 =>
 some (r7.2, r7.1))
 else
 some (s3, false)) : Option (GL00Src × Bool)).bind fun ((s4, x1) : GL00Src × Bool) =>
 if x1 then
 ((spec_l00Src_among s4 [(-1), 0, 1000, 1001]).bind fun r8 =>
 (at? losses2 0).bind fun v1 =>
 some (m, losses2.set ((0 : Int).toNat) r8.1))
 else
 some (m, losses2)) Empty.elim) (fun r => r.2.length ≤ 1000) := by
    intro n s m hs h0 h1
    refine wp_loop (fun t : GL00Src × List Int × Int => SrcOk (1000 - t.2.2 * 10) t.1 ∧ 0 ≤ t.2.2 ∧ t.2.2 ≤ n ∧ (t.2.1.length : Int) = n - t.2.2) (fun t => t.2.2.toNat) ⟨hs.mono (by simp only; omega), h0, by simp only; omega, by simp⟩ (by simp only; omega) ?_
    rintro ⟨s, l, k⟩ ⟨h2, h3, h4, h5⟩
    simp only at h2 h3 h4 h5 ⊢
    refine wp_ite (fun h6 => ?_) (fun h6 => ?_)
    · refine wp_pick h2 (by omega) fun v s' v0 v1 h7 => ?_
      simp only
      refine wp_app (by simp; omega) ?_
      rw [w64_id (n := k - 1) (by omega) (by omega)]
      exact wp_some ⟨⟨h7.mono (by simp only; omega), by simp only; omega, by simp only; omega, by simp; omega⟩, by simp only; omega⟩
    · refine wp_some ?_
      simp only
      refine wp_bind ?_
      refine wp_ite (fun h7 => ?_) (fun h7 => ?_)
      · refine wp_one h2 (by omega) fun v s' h8 => wp_some ?_
        simp only
        refine wp_ite (fun h9 => ?_) (fun h9 => ?_)
        · refine wp_among h8 (by omega) (by simp) (by simp) fun u s'' _ h10 => ?_
          rw [at_ok (by omega) (by simp; omega), Option.bind_some]
          exact wp_some (by simp; omega)
        · exact wp_some (by simp only; omega)
      · refine wp_some ?_
        simp only [Bool.false_eq_true, if_false]
        exact wp_some (by simp only; omega)
  refine wp_from hc hl fun s hs => ?_
  refine wp_seq (l12DrawLumens_ok hs (by omega)) fun r hr => ?_
  refine wp_pick hr (by omega) fun v s' v0 v1 h7 => ?_
  refine wp_one h7 (by omega) fun b s'' h8 => ?_
  simp only
  refine wp_bind (wp_ite (fun _ => ?_) (fun _ => ?_))
  · refine wp_pick h8 (by omega) fun u s3 u0 u1 h9 => wp_some ?_
    simp only
    rw [w64_id (by omega) (by omega)]
    exact key _ _ _ (h9.mono (by omega)) (by omega) (by omega)
  · refine wp_some ?_
    exact key _ _ _ (h8.mono (by omega)) (by omega) (by omega)
end

theorem laws_FnLight_true {code : List Int} (hc : okL (okI .u8) code) : laws_FnLight code = some true := by
  unfold laws_FnLight laws_f6big
  rw [Option.bind_some]
  refine ite_val (fun _ => rfl) (fun hl => ?_)
  simp only [decide_eq_true_eq] at hl
  obtain ⟨⟨n1, l1⟩, d1, hl1⟩ := DrawLightThrough_ok hc (by omega)
  obtain ⟨⟨b2, x2, y2⟩, d2, _⟩ := DrawBrightnessAt_ok hc (by omega)
  obtain ⟨⟨b3, x3, m3⟩, d3, _⟩ := DrawFarthestFor_ok hc (by omega)
  obtain ⟨⟨n4, x4, y4⟩, d4, _⟩ := DrawBrightnessOf_ok hc (by omega)
  obtain ⟨⟨t5, h5⟩, d5, _⟩ := DrawCornerLight_ok hc (by omega)
  obtain ⟨⟨x6, y6⟩, d6, _⟩ := DrawScreenArea_ok hc (by omega)
  obtain ⟨f1, e1, p1, q1, r1⟩ := LightThrough_same n1 l1 (by simp only at hl1; omega)
  obtain ⟨f2, e2, p2, q2⟩ := BrightnessAt_same b2 x2 y2
  obtain ⟨v3, e3, p3, q3, r3⟩ := FarthestFor_same b3 x3 m3
  obtain ⟨f4, e4, p4, q4, r4⟩ := BrightnessOf_same n4 x4 y4
  obtain ⟨f5, e5, p5, q5, r5⟩ := CornerLight_same t5 h5
  obtain ⟨v6, e6, p6, q6⟩ := ScreenArea_same x6 y6
  simp only [d1, d2, d3, d4, d5, d6, p1, q1, p2, q2, p3, q3, p4, q4, p5, q5, p6, q6, Option.bind_some, if_true, fr_beqL, decide_true, Bool.not_true, Bool.false_eq_true, if_false]
  have hx2 : (if e1 = 0 then if f1.Num > w64 (n1 * f1.Den) then some true else some (decide (f1.Num < 0)) else some false : Option Bool) = some false := by
    refine ite_val (fun h => ?_) (fun _ => rfl)
    obtain ⟨g1, g2, g3, g4, g5, g6⟩ := r1 h
    have := mul_bd (a := n1) (b := f1.Den) (A := 100000) (B := 1000000000000) (by omega) (by omega) (by omega) (by omega)
    rw [w64_id (by omega) (by omega), if_neg (by omega), decide_eq_false (by omega)]
  have hx3 : (if e5 = 0 then if f5.Num > f5.Den then some true else some (decide (f5.Num < 1)) else some false : Option Bool) = some false := by
    refine ite_val (fun h => ?_) (fun _ => rfl)
    obtain ⟨g1, g2⟩ := r5 h
    rw [if_neg (by omega), decide_eq_false (by omega)]
  have hx4 : (if e4 = 0 then some (!decide (w64 (w64 (f4.Num * x4) * y4) = w64 (n4 * f4.Den))) else some false : Option Bool) = some false := by
    refine ite_val (fun h => ?_) (fun _ => rfl)
    obtain ⟨g1, g2, g3, g4⟩ := r4 h
    have w1 := mul_bd (a := x4) (b := y4) (A := 1000) (B := 1000) (by omega) (by omega) (by omega) (by omega)
    have w0 : 0 < x4 * y4 := Int.mul_pos (by omega) (by omega)
    have w2 := g4.den_le (by omega)
    have w3 := g4.num_le (by omega)
    have w4 := g4.pos
    have w5 := mul_bd (a := f4.Num) (b := x4) (A := 100000) (B := 1000) (by omega) (by omega) (by omega) (by omega)
    have w6 := mul_bd (a := f4.Num * x4) (b := y4) (A := 100000000) (B := 1000) (by omega) (by omega) (by omega) (by omega)
    have w7 := mul_bd (a := n4) (b := f4.Den) (A := 100000) (B := 1000000) (by omega) (by omega) (by omega) (by omega)
    have := g4.eq
    rw [← Int.mul_assoc] at this
    rw [w64_id (n := f4.Num * x4) (by omega) (by omega), w64_id (n := f4.Num * x4 * y4) (by omega) (by omega), w64_id (n := n4 * f4.Den) (by omega) (by omega), this]
    simp
  simp only [hx2, hx3, hx4, Option.bind_some, Bool.false_eq_true, if_false]
  have hx5 : (if e3 = 0 then some (decide (v3 < 1000)) else some false : Option Bool) = some (decide (e3 = 0 ∧ v3 < 1000)) := by split <;> simp [*]
  rw [hx5, Option.bind_some]
  simp only [decide_eq_true_eq]
  refine ite_val (fun h => ?_) (fun _ => rfl)
  obtain ⟨g1, g2, g3, g4, g5, g6, g7⟩ := r3 h.1
  have hn := g7 (v3 + 1) (by omega) (by omega)
  obtain ⟨f, u1, _, u3⟩ := BrightnessAt_ok (y := v3 + 1) g1 g2 g5.1 g5.2 (by omega) (by omega)
  rw [w64_id (by omega) (by omega), u1, Option.bind_some]
  obtain ⟨⟨k0, k1⟩, k2⟩ := g2
  obtain ⟨⟨i0, i1⟩, i2⟩ := g4
  have k3 := g1.1
  have i3 := g3.1
  have j1 := mul_bd (a := b3.Num) (b := x3) (A := 100000) (B := 1000) (by omega) (by omega) (by omega) (by omega)
  have j2 := mul_bd (a := b3.Num * x3) (b := x3) (A := 100000000) (B := 1000) (by omega) (by omega) (by omega) (by omega)
  have j3 := mul_bd (a := b3.Den) (b := v3 + 1) (A := 100000) (B := 1000) (by omega) (by omega) (by omega) (by omega)
  have j4 := mul_bd (a := b3.Den * (v3 + 1)) (b := v3 + 1) (A := 100000000) (B := 1000) (by omega) (by omega) (by omega) (by omega)
  have j5 : 0 < b3.Den * (v3 + 1) := Int.mul_pos (by omega) (by omega)
  have j6 : 0 < b3.Den * (v3 + 1) * (v3 + 1) := Int.mul_pos j5 (by omega)
  have j7 : 0 ≤ b3.Num * x3 * x3 := Int.mul_nonneg (Int.mul_nonneg (by omega) (by omega)) (by omega)
  have o1 := u3.pos
  have o2 := u3.den_le (by omega)
  have o3 := u3.num_le (by omega)
  have o4 := u3.eq
  have o5 : 0 ≤ f.Num := by
    have : 0 ≤ f.Num * (b3.Den * (v3 + 1) * (v3 + 1)) := by rw [o4]; exact Int.mul_nonneg j7 (by omega)
    exact Int.nonneg_of_mul_nonneg_left this (by omega)
  simp only [if_true]
  rw [if_neg (by omega), if_neg (by omega), if_neg (by omega), if_neg (by omega), Option.bind_some, decide_eq_false (by omega)]
  simp only [Bool.false_eq_true, if_false]
  rw [div_ok (by omega), Option.bind_some, div_ok (by omega), Option.bind_some, if_neg]
  have q0 : 0 ≤ f.Num / f.Den := Int.ediv_nonneg o5 (by omega)
  have q1 : f.Num / f.Den ≤ f.Num := Int.ediv_le_self _ o5
  have q2 : 0 ≤ m3.Num / m3.Den := Int.ediv_nonneg i0 (by omega)
  have q3 : m3.Num / m3.Den ≤ m3.Num := Int.ediv_le_self _ i0
  rw [Int.tdiv_eq_ediv_of_nonneg o5, Int.tdiv_eq_ediv_of_nonneg i0, show IntKind.wrap .i64 (f.Num / f.Den) = f.Num / f.Den from w64_id (by omega) (by omega), show IntKind.wrap .i64 (m3.Num / m3.Den) = m3.Num / m3.Den from w64_id (by omega) (by omega)]
  have hlt : b3.Num * m3.Den * (x3 * x3) < m3.Num * b3.Den * ((v3 + 1) * (v3 + 1)) := by
    unfold enough at hn
    have := of_decide_eq_false hn
    omega
  have hfin : f.Num * m3.Den < m3.Num * f.Den := by
    refine Int.lt_of_mul_lt_mul_right (a := b3.Den * (v3 + 1) * (v3 + 1)) ?_ (by omega)
    calc f.Num * m3.Den * (b3.Den * (v3 + 1) * (v3 + 1)) = (f.Num * (b3.Den * (v3 + 1) * (v3 + 1))) * m3.Den := by simp only [Int.mul_assoc, Int.mul_comm, Int.mul_left_comm]
      _ = (b3.Num * x3 * x3 * f.Den) * m3.Den := by rw [o4]
      _ = (b3.Num * m3.Den * (x3 * x3)) * f.Den := by simp only [Int.mul_assoc, Int.mul_comm, Int.mul_left_comm]
      _ < (m3.Num * b3.Den * ((v3 + 1) * (v3 + 1))) * f.Den := Int.mul_lt_mul_of_pos_right hlt o1
      _ = m3.Num * f.Den * (b3.Den * (v3 + 1) * (v3 + 1)) := by simp only [Int.mul_assoc, Int.mul_comm, Int.mul_left_comm]
  have hle : f.Num / f.Den ≤ m3.Num / m3.Den := by
    rw [Int.le_ediv_iff_mul_le (by omega)]
    have e9 : f.Num / f.Den * f.Den ≤ f.Num := Int.ediv_mul_le _ (by omega)
    refine Int.le_of_mul_le_mul_right (a := f.Den) ?_ o1
    calc f.Num / f.Den * m3.Den * f.Den = (f.Num / f.Den * f.Den) * m3.Den := by simp only [Int.mul_assoc, Int.mul_comm, Int.mul_left_comm]
      _ ≤ f.Num * m3.Den := Int.mul_le_mul_of_nonneg_right e9 (by omega)
      _ ≤ m3.Num * f.Den := Int.le_of_lt hfin
  omega
end Go.Vs.G
