/- Wheels of a rack. No conditions. -/
import Derived.Test.YtoeekebkinljpaaHSteady
namespace Go.Vs.G
open Go Go.Vs

def wok (crank : Int) (l : List GWheel) : Prop := 2 ≤ crank ∧ crank ≤ 200 ∧ l.length ≤ 8 ∧ ∀ w ∈ l, 2 ≤ w.Teeth ∧ w.Teeth ≤ 200
open Classical in
theorem ValidWheels_eq {c : Int} {l : List GWheel} (hl : l.length ≤ 1000000) : impl_ValidWheels c l = some (decide (wok c l)) := by
  unfold impl_ValidWheels
  rw [within_eqR, Option.bind_some]
  by_cases h1 : 2 ≤ c ∧ c ≤ 200
  · rw [decide_eq_true h1, if_pos rfl]
    by_cases h2 : l.length ≤ 8
    · rw [if_pos (by omega)]
      have key : slices_IndexFunc_impl_Wheel_impl_Wheel_829 l (fun a0 => impl_ValidWheels_1 a0) = some (if ∀ w ∈ l, 2 ≤ w.Teeth ∧ w.Teeth ≤ 200 then -1 else ((slices_IndexFunc_impl_Wheel_impl_Wheel_829 l (fun a0 => impl_ValidWheels_1 a0)).getD 0)) ∧ (¬ (∀ w ∈ l, 2 ≤ w.Teeth ∧ w.Teeth ≤ 200) → 0 ≤ ((slices_IndexFunc_impl_Wheel_impl_Wheel_829 l (fun a0 => impl_ValidWheels_1 a0)).getD 0)) := by
        have w : wp (slices_IndexFunc_impl_Wheel_impl_Wheel_829 l (fun a0 => impl_ValidWheels_1 a0)) (fun r => (r = -1 ∧ ∀ w ∈ l, 2 ≤ w.Teeth ∧ w.Teeth ≤ 200) ∨ (0 ≤ r ∧ ¬ ∀ w ∈ l, 2 ≤ w.Teeth ∧ w.Teeth ≤ 200)) := by
          unfold slices_IndexFunc_impl_Wheel_impl_Wheel_829
          refine wp_loop (fun t : Int => ∃ k : Nat, t = (k : Int) ∧ k ≤ l.length ∧ ∀ w ∈ l.take k, 2 ≤ w.Teeth ∧ w.Teeth ≤ 200) (fun t => (l.length - t).toNat) ⟨0, rfl, by omega, by simp⟩ (by omega) ?_
          rintro i ⟨k, rfl, hk, hall⟩
          refine wp_ite (fun h => ?_) (fun h => ?_)
          · have hk2 : k < l.length := by omega
            rw [at_of hk2, Option.bind_some]
            simp only [impl_ValidWheels_1, within_eqR, Option.bind_some]
            refine wp_ite (fun h3 => ?_) (fun h3 => ?_)
            · refine wp_some (wp_some (Or.inr ⟨by omega, fun hc => ?_⟩))
              have := hc _ (List.getElem_mem hk2)
              simp [this] at h3
            · rw [w64_succ hk2 (by omega)]
              refine wp_some ⟨⟨k + 1, rfl, by omega, ?_⟩, by omega⟩
              intro w hw
              rw [List.take_add_one, List.getElem?_eq_getElem hk2] at hw
              simp only [Option.toList, List.mem_append, List.mem_singleton] at hw
              rcases hw with hw | hw
              · exact hall w hw
              · subst hw; simpa using h3
          · refine wp_some (wp_some (Or.inl ⟨rfl, ?_⟩))
            obtain rfl : k = l.length := by omega
            rwa [List.take_length] at hall
        obtain ⟨r, hr, hc⟩ := w
        rw [hr]
        rcases hc with ⟨rfl, hc⟩ | ⟨h0, hc⟩
        · exact ⟨by rw [if_pos hc], fun h => absurd hc h⟩
        · exact ⟨by rw [if_neg hc]; rfl, fun _ => h0⟩
      unfold slices_ContainsFunc_impl_Wheel_impl_Wheel_807
      obtain ⟨k1, k2⟩ := key
      rw [k1]
      simp only [Option.bind_some]
      by_cases h3 : ∀ w ∈ l, 2 ≤ w.Teeth ∧ w.Teeth ≤ 200
      · rw [if_pos h3, decide_eq_true (show wok c l from ⟨h1.1, h1.2, h2, h3⟩)]; rfl
      · rw [if_neg h3, decide_eq_false (show ¬ wok c l from fun h => h3 h.2.2.2), decide_eq_true (k2 h3)]; rfl
    · rw [if_neg (by omega), decide_eq_false (show ¬ wok c l from fun h => h2 h.2.2.1)]
  · rw [decide_eq_false h1, decide_eq_false (show ¬ wok c l from fun h => h1 ⟨h.1, h.2.1⟩)]; rfl
theorem l14Teeth_eq (n : Int) : spec_l14Teeth n = some (decide (2 ≤ n ∧ n ≤ 200)) := by
  unfold spec_l14Teeth; rw [l00In_eqB]; rfl
open Classical in
theorem l14Ok_eq {c : Int} {l : List GWheel} (hl : l.length ≤ 1000000) : spec_l14Ok c l = some (decide (wok c l)) := by
  refine eq_of_wp ?_
  unfold spec_l14Ok
  refine wp_loop (fun t : Int => ∃ k : Nat, t = (k : Int) ∧ k ≤ l.length ∧ ∀ w ∈ l.take k, 2 ≤ w.Teeth ∧ w.Teeth ≤ 200) (fun t => (l.length - t).toNat) ⟨0, rfl, by omega, by simp⟩ (by omega) ?_
  rintro i ⟨k, rfl, hk, hall⟩
  refine wp_ite (fun h => ?_) (fun h => ?_)
  · have hk2 : k < l.length := by omega
    rw [at_of hk2, Option.bind_some, l14Teeth_eq, Option.bind_some]
    refine wp_ite (fun h3 => ?_) (fun h3 => ?_)
    · rw [w64_succ hk2 (by omega)]
      refine wp_some ⟨⟨k + 1, rfl, by omega, ?_⟩, by omega⟩
      intro w hw
      rw [List.take_add_one, List.getElem?_eq_getElem hk2] at hw
      simp only [Option.toList, List.mem_append, List.mem_singleton] at hw
      rcases hw with hw | hw
      · exact hall w hw
      · subst hw; simpa using h3
    · refine wp_some (wp_some ?_)
      symm; rw [decide_eq_false_iff_not]
      intro hc
      have := hc.2.2.2 _ (List.getElem_mem hk2)
      simp [this] at h3
  · obtain rfl : k = l.length := by omega
    rw [List.take_length] at hall
    refine wp_some ?_
    rw [l14Teeth_eq, Option.bind_some]
    refine wp_ite (fun h3 => ?_) (fun h3 => ?_)
    · rw [decide_eq_true_eq] at h3
      refine wp_some ?_
      rw [decide_eq_decide]
      exact ⟨fun h => ⟨h3.1, h3.2, by omega, hall⟩, fun h => by have := h.2.2.1; omega⟩
    · refine wp_some ?_
      symm; rw [decide_eq_false_iff_not]
      intro hc; exact h3 (by rw [decide_eq_true_eq]; exact ⟨hc.1, hc.2.1⟩)

/-- the place after some teeth -/
def pl (w : GWheel) (t : Int) : Int := if w.Back then (w.Teeth - t % w.Teeth) % w.Teeth else t % w.Teeth
theorem pl_rng {w : GWheel} {t : Int} (h : 1 ≤ w.Teeth) : 0 ≤ pl w t ∧ pl w t < w.Teeth := by
  unfold pl; split <;> exact ⟨Int.emod_nonneg _ (by omega), Int.emod_lt_of_pos _ (by omega)⟩
theorem place_eq {w : GWheel} {t : Int} (h : 1 ≤ w.Teeth) (h2 : w.Teeth ≤ 9223372036854775807) (ht : 0 ≤ t) : impl_Wheel_place w t = some (pl w t) := by
  unfold impl_Wheel_place pl
  have m0 := Int.emod_nonneg t (b := w.Teeth) (by omega)
  have m1 := Int.emod_lt_of_pos t (b := w.Teeth) (by omega)
  split
  · rw [mod_ok (by omega), Option.bind_some, Int.tmod_eq_emod_of_nonneg ht, w64_id (by omega) (by omega), mod_ok (by omega), Option.bind_some, Int.tmod_eq_emod_of_nonneg (by omega)]
  · rw [mod_ok (by omega), Option.bind_some, Int.tmod_eq_emod_of_nonneg ht]
theorem pl_alt {w : GWheel} {t : Int} (h : 1 ≤ w.Teeth) : pl w t = if w.Back = true ∧ t % w.Teeth > 0 then w.Teeth - t % w.Teeth else t % w.Teeth := by
  unfold pl
  have m0 := Int.emod_nonneg t (b := w.Teeth) (by omega)
  have m1 := Int.emod_lt_of_pos t (b := w.Teeth) (by omega)
  by_cases hb : w.Back = true
  · by_cases hp : t % w.Teeth > 0
    · rw [if_pos hb, if_pos ⟨hb, hp⟩]
      exact Int.emod_eq_of_lt (by omega) (by omega)
    · rw [if_pos hb, if_neg (fun h => hp h.2)]
      have : t % w.Teeth = 0 := by omega
      rw [this]; simp
  · rw [if_neg hb, if_neg (fun h => hb h.1)]
theorem l14Place_eq {w : GWheel} {t : Int} (h : 1 ≤ w.Teeth) (h2 : w.Teeth ≤ 9223372036854775807) (ht : 0 ≤ t) : spec_l14Place w t = some (pl w t) := by
  unfold spec_l14Place
  rw [pl_alt h]
  have m0 := Int.emod_nonneg t (b := w.Teeth) (by omega)
  have m1 := Int.emod_lt_of_pos t (b := w.Teeth) (by omega)
  rw [mod_ok (by omega), Option.bind_some, Int.tmod_eq_emod_of_nonneg ht]
  cases w.Back
  · simp
  · by_cases hp : t % w.Teeth > 0
    · simp [hp]; rw [w64_id (by omega) (by omega)]
    · simp [hp]

/-- half around at most, and no more than what is lost -/
theorem slack_ok {w : GWheel} {t x : Int} (h : 2 ≤ w.Teeth) (hx : 0 ≤ x) :
    min ((pl w t - pl w (t - x)).natAbs : Int) (w.Teeth - ((pl w t - pl w (t - x)).natAbs : Int)) ≤ x := by
  rw [pl_alt (by omega), pl_alt (by omega)]
  have m0 := Int.emod_nonneg t (b := w.Teeth) (by omega)
  have m1 := Int.emod_lt_of_pos t (b := w.Teeth) (by omega)
  have n0 := Int.emod_nonneg (t - x) (b := w.Teeth) (by omega)
  have n1 := Int.emod_lt_of_pos (t - x) (b := w.Teeth) (by omega)
  have e1 := Int.emod_add_mul_ediv t w.Teeth
  have e2 := Int.emod_add_mul_ediv (t - x) w.Teeth
  generalize t % w.Teeth = a at *
  generalize (t - x) % w.Teeth = b at *
  generalize t / w.Teeth = q at *
  generalize (t - x) / w.Teeth = r at *
  have key : a - b ≤ x ∧ (b ≤ a ∧ a - b ≤ x ∨ w.Teeth + (a - b) ≤ x) := by
    have hxe : x = w.Teeth * (q - r) + (a - b) := by rw [Int.mul_sub]; omega
    have hcase : 0 < q - r ∨ q - r ≤ 0 := by omega
    rcases hcase with hq | hq
    · have := Int.mul_le_mul_of_nonneg_left (a := 1) (b := q - r) (c := w.Teeth) (by omega) (by omega)
      omega
    · rcases Int.lt_or_eq_of_le hq with hq | hq
      · have := Int.mul_le_mul_of_nonneg_left (a := q - r) (b := -1) (c := w.Teeth) (by omega) (by omega)
        omega
      · rw [hq, Int.mul_zero] at hxe; omega
  cases w.Back
  · simp only [Bool.false_eq_true, false_and, if_false]; omega
  · simp only [true_and]
    split <;> split <;> omega

/- codes -/
open Classical in
theorem wheelCode_eq {c : Int} {l : List GWheel} (hl : l.length ≤ 1000000) (k n : Int) : impl_wheelCode c l k n = some (if wok c l then (if (0 ≤ k ∧ k < l.length) ∧ 0 ≤ n ∧ n ≤ 100000 then 0 else 2) else 1) := by
  unfold impl_wheelCode
  rw [ValidWheels_eq hl, Option.bind_some]
  by_cases h : wok c l
  · rw [decide_eq_true h, if_pos rfl, if_pos h, w64_id (by omega) (by omega), within_eqR, within_eqR, Option.bind_some, Option.bind_some]
    by_cases h1 : 0 ≤ k ∧ k < l.length
    · rw [decide_eq_true (show 0 ≤ k ∧ k ≤ (l.length : Int) - 1 by omega), if_pos rfl]
      by_cases h2 : 0 ≤ n ∧ n ≤ 100000
      · rw [decide_eq_true h2, if_pos (show (0 ≤ k ∧ k < (l.length : Int)) ∧ 0 ≤ n ∧ n ≤ 100000 from ⟨h1, h2⟩)]; rfl
      · rw [decide_eq_false h2, if_neg (show ¬ ((0 ≤ k ∧ k < (l.length : Int)) ∧ 0 ≤ n ∧ n ≤ 100000) from fun h => h2 h.2)]; rfl
    · rw [decide_eq_false (show ¬ (0 ≤ k ∧ k ≤ (l.length : Int) - 1) by omega), if_neg (show ¬ ((0 ≤ k ∧ k < (l.length : Int)) ∧ 0 ≤ n ∧ n ≤ 100000) from fun h => h1 h.1)]; rfl
  · rw [decide_eq_false h, if_neg h]; rfl
open Classical in
theorem l14One_eq {c : Int} {l : List GWheel} (hl : l.length ≤ 1000000) (k : Int) : spec_l14One c l k = some (if wok c l then (if 0 ≤ k ∧ k < l.length then 0 else 2) else 1) := by
  unfold spec_l14One
  rw [l14Ok_eq hl, Option.bind_some]
  by_cases h : wok c l
  · rw [decide_eq_true h, if_pos rfl, if_pos h, w64_id (by omega) (by omega), l00In_eqB, Option.bind_some]
    by_cases h1 : 0 ≤ k ∧ k < l.length
    · rw [decide_eq_true (show 0 ≤ k ∧ k ≤ (l.length : Int) - 1 by omega), if_pos h1]; rfl
    · rw [decide_eq_false (show ¬ (0 ≤ k ∧ k ≤ (l.length : Int) - 1) by omega), if_neg h1]; rfl
  · rw [decide_eq_false h, if_neg h]; rfl
theorem l14Many_eq (n : Int) : spec_l14Many n = some (decide (0 ≤ n ∧ n ≤ 100000)) := by
  unfold spec_l14Many; rw [l00In_eqB]; rfl

theorem Red.neg {n d : Int} {f : GFraction} (h : Red n d f) : Red (0 - n) d (GFraction.mk (w64 (0 - f.Num)) f.Den) ∨ ¬ (-9223372036854775807 ≤ f.Num ∧ f.Num ≤ 9223372036854775807) := by
  by_cases hb : -9223372036854775807 ≤ f.Num ∧ f.Num ≤ 9223372036854775807
  · left
    rw [w64_id (by omega) (by omega)]
    refine ⟨h.pos, ?_, ?_⟩
    · simp only [Int.zero_sub]; rw [Int.neg_gcd]; exact h.cop
    · simp only [Int.zero_sub, Int.neg_mul]; rw [h.eq]
  · right; exact hb
/-- turns of a wheel -/
theorem TurnsOf_same {c : Int} {l : List GWheel} (hl : l.length ≤ 1000000) (k n : Int) : ∃ f e, impl_TurnsOf c l k n = some (f, e) ∧ spec_TurnsOf c l k n = some (f, e) ∧
    (e = 0 → ∃ w, at? l k = some w ∧ 2 ≤ w.Teeth ∧ w.Teeth ≤ 200 ∧ 2 ≤ c ∧ c ≤ 200 ∧ 0 ≤ n ∧ n ≤ 100000 ∧ Red (if w.Back then 0 - n * c else n * c) w.Teeth f) := by
  classical
  unfold impl_TurnsOf spec_TurnsOf
  rw [wheelCode_eq hl, l14One_eq hl, l14Many_eq, Option.bind_some, Option.bind_some]
  by_cases h : wok c l
  · rw [if_pos h, if_pos h]
    by_cases h1 : 0 ≤ k ∧ k < l.length
    · by_cases h2 : 0 ≤ n ∧ n ≤ 100000
      · obtain ⟨c1, c2, c3, c4⟩ := h
        have hk : k.toNat < l.length := by omega
        have hw := c4 _ (List.getElem_mem hk)
        rw [if_pos (show (0 ≤ k ∧ k < (l.length : Int)) ∧ 0 ≤ n ∧ n ≤ 100000 from ⟨h1, h2⟩), if_pos h1, if_pos rfl, if_pos rfl, decide_eq_true h2, at_ok h1.1 hk]
        generalize l[k.toNat] = w at hw ⊢
        have hb := mul_bd (a := n) (b := c) (A := 100000) (B := 200) (by omega) (by omega) (by omega) (by omega)
        simp only [Option.bind_some, Bool.not_true, Bool.false_eq_true, if_false, if_true]
        rw [w64_id (n := n * c) (by omega) (by omega)]
        obtain ⟨f, g1, g2, g3⟩ := make_same (n := n * c) (d := w.Teeth) (by omega) (by omega) (by omega)
        have hn1 := g3.num_le (by omega)
        by_cases hbk : w.Back = true
        · simp only [if_pos hbk, Option.bind_some]
          rw [w64_id (n := 0 - n * c) (by omega) (by omega)]
          obtain ⟨f', g1', g2', g3'⟩ := make_same (n := 0 - n * c) (d := w.Teeth) (by omega) (by omega) (by omega)
          have hR : Red (0 - n * c) w.Teeth (GFraction.mk (w64 (0 - f.Num)) f.Den) := by
            rcases g3.neg with h | h
            · exact h
            · omega
          rw [g1, Option.bind_some, g2']
          obtain rfl := Red.same g3' hR (by omega)
          exact ⟨_, _, rfl, rfl, fun _ => ⟨w, rfl, hw.1, hw.2, c1, c2, h2.1, h2.2, by rw [if_pos hbk]; exact hR⟩⟩
        · simp only [if_neg hbk, Option.bind_some]
          rw [g1, Option.bind_some, g2]
          exact ⟨f, 0, rfl, rfl, fun _ => ⟨w, rfl, hw.1, hw.2, c1, c2, h2.1, h2.2, by rw [if_neg hbk]; exact g3⟩⟩
      · rw [if_neg (show ¬ ((0 ≤ k ∧ k < (l.length : Int)) ∧ 0 ≤ n ∧ n ≤ 100000) from fun h => h2 h.2), if_pos h1, if_pos rfl, decide_eq_false h2]
        exact ⟨_, 2, rfl, rfl, fun h => by cases h⟩
    · rw [if_neg (show ¬ ((0 ≤ k ∧ k < (l.length : Int)) ∧ 0 ≤ n ∧ n ≤ 100000) from fun h => h1 h.1), if_neg h1]
      exact ⟨_, 2, rfl, rfl, fun h => by cases h⟩
  · rw [if_neg h, if_neg h]
    exact ⟨_, 1, rfl, rfl, fun h => by cases h⟩

theorem apart_eq {a b : Int} (ha : -4611686018427387904 ≤ a) (ha2 : a ≤ 4611686018427387903) (hb : -4611686018427387904 ≤ b) (hb2 : b ≤ 4611686018427387903) : impl_apart a b = some ((a - b).natAbs : Int) := by
  unfold impl_apart
  rw [w64_id (by omega) (by omega), w64_id (by omega) (by omega), imax_def]
  congr 1; omega
theorem l00Size_eq {n : Int} (h : -9223372036854775807 ≤ n) (h2 : n ≤ 9223372036854775807) : spec_l00Size n = some (n.natAbs : Int) := by
  unfold spec_l00Size; split
  · rw [w64_id (by omega) (by omega)]; congr 1; omega
  · congr 1; omega
theorem f6abs_eq {n : Int} (h : -9223372036854775807 ≤ n) (h2 : n ≤ 9223372036854775807) : laws_f6abs n = some (n.natAbs : Int) := by
  unfold laws_f6abs; split
  · rw [w64_id (by omega) (by omega)]; congr 1; omega
  · congr 1; omega
/-- slack -/
theorem SlackOf_same {c : Int} {l : List GWheel} (hl : l.length ≤ 1000000) (k n x : Int) : ∃ v e, impl_SlackOf c l k n x = some (v, e) ∧ spec_SlackOf c l k n x = some (v, e) ∧
    (e = 0 → ∃ w, at? l k = some w ∧ 2 ≤ w.Teeth ∧ w.Teeth ≤ 200 ∧ 0 ≤ v ∧ v ≤ x ∧ 2 * v ≤ w.Teeth) := by
  classical
  unfold impl_SlackOf spec_SlackOf
  rw [wheelCode_eq hl, l14One_eq hl, l14Many_eq, l00In_eqB, within_eqR, Option.bind_some, Option.bind_some]
  by_cases h : wok c l
  · rw [if_pos h, if_pos h]
    by_cases h1 : 0 ≤ k ∧ k < l.length
    · by_cases h2 : 0 ≤ n ∧ n ≤ 100000
      · rw [if_pos (show (0 ≤ k ∧ k < (l.length : Int)) ∧ 0 ≤ n ∧ n ≤ 100000 from ⟨h1, h2⟩), if_pos h1, decide_eq_true h2]
        simp only [if_true, Option.bind_some]
        by_cases h3 : 0 ≤ x ∧ x ≤ n
        · obtain ⟨c1, c2, c3, c4⟩ := h
          have hk : k.toNat < l.length := by omega
          have hw := c4 _ (List.getElem_mem hk)
          rw [decide_eq_true h3, at_ok h1.1 hk]
          generalize l[k.toNat] = w at hw ⊢
          simp only [Option.bind_some, Bool.not_true, Bool.false_eq_true, if_false, if_true]
          rw [w64_id (n := n - x) (by omega) (by omega), place_eq (by omega) (by omega) h2.1, place_eq (by omega) (by omega) (by omega), l14Place_eq (by omega) (by omega) h2.1, l14Place_eq (by omega) (by omega) (by omega)]
          have r1 := pl_rng (w := w) (t := n) (by omega)
          have r2 := pl_rng (w := w) (t := n - x) (by omega)
          have r3 := slack_ok (w := w) (t := n) (x := x) hw.1 h3.1
          generalize pl w n = a at *
          generalize pl w (n - x) = b at *
          simp only [Option.bind_some]
          rw [apart_eq (by omega) (by omega) (by omega) (by omega), w64_id (n := a - b) (by omega) (by omega), l00Size_eq (by omega) (by omega)]
          simp only [Option.bind_some]
          rw [w64_id (by omega) (by omega), imin_def]
          have hmin : spec_l00Min ((a - b).natAbs : Int) (w.Teeth - ((a - b).natAbs : Int)) = some (min ((a - b).natAbs : Int) (w.Teeth - ((a - b).natAbs : Int))) := by
            unfold spec_l00Min; split <;> congr 1 <;> omega
          rw [hmin]
          exact ⟨_, _, rfl, rfl, fun _ => ⟨w, rfl, hw.1, hw.2, by omega, r3, by omega⟩⟩
        · rw [decide_eq_false h3]
          exact ⟨_, 2, rfl, rfl, fun h => by cases h⟩
      · rw [if_neg (show ¬ ((0 ≤ k ∧ k < (l.length : Int)) ∧ 0 ≤ n ∧ n ≤ 100000) from fun h => h2 h.2), if_pos h1, decide_eq_false h2]
        exact ⟨_, 2, rfl, rfl, fun h => by cases h⟩
    · rw [if_neg (show ¬ ((0 ≤ k ∧ k < (l.length : Int)) ∧ 0 ≤ n ∧ n ≤ 100000) from fun h => h1 h.1), if_neg h1]
      exact ⟨_, 2, rfl, rfl, fun h => by cases h⟩
  · rw [if_neg h, if_neg h]
    exact ⟨_, 1, rfl, rfl, fun h => by cases h⟩

/- the wheel that is nearest -/
def werr (c : Int) (f : GFraction) (t : Int) : Int := ((c * f.Den - f.Num * t).natAbs : Int)
/-- the best of 2 .. k+2 -/
def bw (c : Int) (f : GFraction) : Nat → Int
  | 0 => 2
  | k + 1 => if werr c f ((k : Int) + 3) * bw c f k < werr c f (bw c f k) * ((k : Int) + 3) then (k : Int) + 3 else bw c f k
theorem bw_rng (c : Int) (f : GFraction) : ∀ k, 2 ≤ bw c f k ∧ bw c f k ≤ (k : Int) + 2
  | 0 => ⟨by simp [bw], by simp [bw]⟩
  | k + 1 => by
    have := bw_rng c f k
    rw [bw]; split <;> omega
theorem bw_best (c : Int) (f : GFraction) : ∀ (k : Nat) (t : Int), 2 ≤ t → t ≤ (k : Int) + 2 → werr c f (bw c f k) * t ≤ werr c f t * bw c f k
  | 0, t, h1, h2 => by
    obtain rfl : t = 2 := by omega
    exact Int.le_refl _
  | k + 1, t, h1, h2 => by
    have hr := bw_rng c f k
    have ih := bw_best c f k
    rw [bw]
    split
    · rename_i h
      rcases Int.lt_or_eq_of_le h2 with h3 | h3
      · have i1 := ih t h1 (by omega)
        refine Int.le_of_mul_le_mul_right (a := bw c f k) ?_ (by omega)
        calc werr c f ((k : Int) + 3) * t * bw c f k = (werr c f ((k : Int) + 3) * bw c f k) * t := by simp only [Int.mul_assoc, Int.mul_comm, Int.mul_left_comm]
          _ ≤ (werr c f (bw c f k) * ((k : Int) + 3)) * t := Int.mul_le_mul_of_nonneg_right (by omega) (by omega)
          _ = (werr c f (bw c f k) * t) * ((k : Int) + 3) := by simp only [Int.mul_assoc, Int.mul_comm, Int.mul_left_comm]
          _ ≤ (werr c f t * bw c f k) * ((k : Int) + 3) := Int.mul_le_mul_of_nonneg_right i1 (by omega)
          _ = werr c f t * ((k : Int) + 3) * bw c f k := by simp only [Int.mul_assoc, Int.mul_comm, Int.mul_left_comm]
      · obtain rfl : t = (k : Int) + 3 := by omega
        exact Int.le_refl _
    · rename_i h
      rcases Int.lt_or_eq_of_le h2 with h3 | h3
      · exact ih t h1 (by omega)
      · obtain rfl : t = (k : Int) + 3 := by omega
        omega
@[irreducible] def bwAll (c : Int) (f : GFraction) : Int := bw c f 198
theorem bwAll_eq (c : Int) (f : GFraction) : ∃ N : Nat, N = 198 ∧ bwAll c f = bw c f N := ⟨198, rfl, by unfold bwAll; rfl⟩
theorem bwAll_rng (c : Int) (f : GFraction) : 2 ≤ bwAll c f ∧ bwAll c f ≤ 200 := by
  obtain ⟨N, hN, e⟩ := bwAll_eq c f
  have := bw_rng c f N
  rw [e]; omega
theorem bwAll_best (c : Int) (f : GFraction) (t : Int) (h1 : 2 ≤ t) (h2 : t ≤ 200) : werr c f (bwAll c f) * t ≤ werr c f t * bwAll c f := by
  obtain ⟨N, hN, e⟩ := bwAll_eq c f
  rw [e]; exact bw_best c f N t h1 (by omega)
theorem werr_bd {c : Int} {f : GFraction} {t : Int} (hc : 2 ≤ c) (hc2 : c ≤ 200) (hd : 1 ≤ f.Den) (hd2 : f.Den ≤ 1000) (hn : 1 ≤ f.Num) (hn2 : f.Num ≤ 1000) (ht : 0 ≤ t) (ht2 : t ≤ 200) :
    -200000 ≤ c * f.Den ∧ c * f.Den ≤ 200000 ∧ -200000 ≤ f.Num * t ∧ f.Num * t ≤ 200000 ∧ 0 ≤ werr c f t ∧ werr c f t ≤ 400000 := by
  have h1 := mul_bd (a := c) (b := f.Den) (A := 200) (B := 1000) (by omega) (by omega) (by omega) (by omega)
  have h2 := mul_bd (a := f.Num) (b := t) (A := 1000) (B := 200) (by omega) (by omega) (by omega) (by omega)
  unfold werr
  omega
theorem bwLoop {α : Type} {c : Int} {f : GFraction} {N : Nat} (hN : N ≤ 1000) {kb : Int → Option α} {kr : Empty → Option α} {body : Int × Int → Option (Step (Int × Int) Int Empty)}
    (hb : ∀ (k : Nat) (b : Int), k < N → 2 ≤ b → b ≤ (k : Int) + 2 → body (b, (k : Int) + 3) = some (.next (if werr c f ((k : Int) + 3) * b < werr c f b * ((k : Int) + 3) then ((k : Int) + 3, (k : Int) + 4) else (b, (k : Int) + 4)))) (he : ∀ b, body (b, (N : Int) + 3) = some (.brk b)) :
    onL (loop body loopLim (2, 3)) kb kr = kb (bw c f N) := by
  have := loop_brk (body := body) (fun j => (bw c f j, (j : Int) + 3)) (b := bw c f N) N (by omega) (fun j hj => by
    have hr := bw_rng c f j
    rw [hb _ _ hj hr.1 hr.2, bw]
    have e : ((j + 1 : Nat) : Int) + 3 = (j : Int) + 4 := by omega
    rw [e]
    split <;> rfl) (he _)
  have e0 : (bw c f 0, ((0 : Nat) : Int) + 3) = (2, 3) := rfl
  rw [e0] at this
  rw [this, onL_brk]
theorem WheelFor_same (c : Int) (f : GFraction) : ∃ v e, impl_WheelFor c f = some (v, e) ∧ spec_WheelFor c f = some (v, e) ∧ (e = 0 → 2 ≤ c ∧ c ≤ 200 ∧ 1 ≤ f.Num ∧ f.Num ≤ 1000 ∧ 1 ≤ f.Den ∧ f.Den ≤ 1000 ∧ v = bwAll c f) := by
  classical
  unfold impl_WheelFor spec_WheelFor
  obtain ⟨u, g1, g2⟩ := ValidFraction_eq f
  obtain ⟨v, k1, k2⟩ := l02Ok_eq f
  obtain rfl : u = v := by rw [Bool.eq_iff_iff, g2, k2]
  rw [ValidWheels_eq (by simp), g1, k1, l14Teeth_eq, within_eqR, l00In_eqB]
  simp only [Option.bind_some]
  have hwk : decide (wok c []) = decide (2 ≤ c ∧ c ≤ 200) := by
    rw [decide_eq_decide]
    unfold wok
    simp
  rw [hwk]
  by_cases h1 : 2 ≤ c ∧ c ≤ 200
  · rw [decide_eq_true h1]
    cases u with
    | false => exact ⟨0, 1, rfl, rfl, fun h => by cases h⟩
    | true =>
      have hv := g2.1 rfl
      simp only [if_true, Bool.not_true, Option.bind_some, Bool.false_eq_true, if_false]
      by_cases h2 : 1 ≤ f.Num ∧ f.Num ≤ 1000
      · rw [decide_eq_true h2]
        by_cases h3 : f.Den > 1000
        · simp only [if_true, Option.bind_some, h3, decide_true]
          exact ⟨0, 2, rfl, rfl, fun h => by cases h⟩
        · simp only [if_true, Option.bind_some, h3, decide_false, Bool.false_eq_true, if_false]
          have hd1 := hv.1
          have hd2 : f.Den ≤ 1000 := by omega
          refine ⟨bwAll c f, 0, ?_, ?_, fun _ => ⟨h1.1, h1.2, h2.1, h2.2, hd1, hd2, rfl⟩⟩
          · -- the program's loop has the error beside the best
            have hfst : ∀ (body : Int × Int × Int → Option (Step (Int × Int × Int) Int Empty)) (N : Nat), N ≤ 1000 → body (0, 0, 2) = some (.next (2, werr c f 2, 3)) →
                (∀ (k : Nat) (b : Int), k < N → 2 ≤ b → b ≤ (k : Int) + 2 → body (b, werr c f b, (k : Int) + 3) = some (.next (if werr c f ((k : Int) + 3) * b < werr c f b * ((k : Int) + 3) then ((k : Int) + 3, werr c f ((k : Int) + 3), (k : Int) + 4) else (b, werr c f b, (k : Int) + 4)))) →
                (∀ b x, body (b, x, (N : Int) + 3) = some (.brk b)) → onL (loop body loopLim (0, 0, 2)) (fun best2 => some (best2, 0)) Empty.elim = some (bw c f N, (0 : Int)) := by
              intro body N hN b0 bk be
              have := loop_brk (body := body) (fun j => match j with | 0 => (0, 0, 2) | j + 1 => (bw c f j, werr c f (bw c f j), (j : Int) + 3)) (b := bw c f N) (N + 1) (by omega) (fun j hj => by
                cases j with
                | zero => simp only; exact b0
                | succ j =>
                  simp only
                  have hr := bw_rng c f j
                  rw [bk _ _ (by omega) hr.1 hr.2, bw]
                  have e : ((j + 1 : Nat) : Int) + 3 = (j : Int) + 4 := by omega
                  rw [e]
                  split <;> rfl) (be _ _)
              simp only at this
              rw [this, onL_brk]
            obtain ⟨N, hN, e198⟩ := bwAll_eq c f
            rw [e198]
            refine hfst _ N (by omega) ?_ (fun k b hk b1 b2 => ?_) (fun b x => ?_)
            · have hb := werr_bd (t := 2) h1.1 h1.2 hd1 hd2 h2.1 h2.2 (by omega) (by omega)
              simp only
              rw [if_pos (by decide), w64_id (n := c * f.Den) (by omega) (by omega), w64_id (n := f.Num * 2) (by omega) (by omega), apart_eq (by omega) (by omega) (by omega) (by omega), Option.bind_some, if_pos trivial, Option.bind_some, if_pos rfl, w64_id (by omega) (by omega)]
              rfl
            · have hkk : (k : Int) + 3 ≤ 200 := by omega
              have hb := werr_bd (t := (k : Int) + 3) h1.1 h1.2 hd1 hd2 h2.1 h2.2 (by omega) (by omega)
              have hb2 := werr_bd (t := b) h1.1 h1.2 hd1 hd2 h2.1 h2.2 (by omega) (by omega)
              have q1 := mul_bd (a := werr c f ((k : Int) + 3)) (b := b) (A := 400000) (B := 200) (by omega) (by omega) (by omega) (by omega)
              have q2 := mul_bd (a := werr c f b) (b := (k : Int) + 3) (A := 400000) (B := 200) (by omega) (by omega) (by omega) (by omega)
              simp only
              rw [if_pos hkk, w64_id (n := c * f.Den) (by omega) (by omega), w64_id (n := f.Num * ((k : Int) + 3)) (by omega) (by omega), apart_eq (by omega) (by omega) (by omega) (by omega), Option.bind_some, if_neg (by omega), Option.bind_some]
              rw [show ((c * f.Den - f.Num * ((k : Int) + 3)).natAbs : Int) = werr c f ((k : Int) + 3) from rfl, w64_id (by omega) (by omega), w64_id (by omega) (by omega), w64_id (by omega) (by omega)]
              simp only [decide_eq_true_eq]
              rw [show (k : Int) + 3 + 1 = (k : Int) + 4 by omega]
              split <;> rfl
            · simp [hN]
          · obtain ⟨N, hN, e198⟩ := bwAll_eq c f
            rw [e198]
            refine bwLoop (c := c) (f := f) (N := N) (by omega) (fun k b hk b1 b2 => ?_) (fun b => by simp [hN])
            have hkk : (k : Int) + 3 ≤ 200 := by omega
            have hb := werr_bd (t := (k : Int) + 3) h1.1 h1.2 hd1 hd2 h2.1 h2.2 (by omega) (by omega)
            have hb2 := werr_bd (t := b) h1.1 h1.2 hd1 hd2 h2.1 h2.2 (by omega) (by omega)
            have q1 := mul_bd (a := werr c f ((k : Int) + 3)) (b := b) (A := 400000) (B := 200) (by omega) (by omega) (by omega) (by omega)
            have q2 := mul_bd (a := werr c f b) (b := (k : Int) + 3) (A := 400000) (B := 200) (by omega) (by omega) (by omega) (by omega)
            simp only
            rw [if_pos hkk, w64_id (n := c * f.Den) (by omega) (by omega), w64_id (n := f.Num * ((k : Int) + 3)) (by omega) (by omega), w64_id (n := f.Num * b) (by omega) (by omega), w64_id (n := c * f.Den - f.Num * ((k : Int) + 3)) (by omega) (by omega), w64_id (n := c * f.Den - f.Num * b) (by omega) (by omega), l00Size_eq (by omega) (by omega), Option.bind_some, l00Size_eq (by omega) (by omega), Option.bind_some]
            rw [show ((c * f.Den - f.Num * ((k : Int) + 3)).natAbs : Int) = werr c f ((k : Int) + 3) from rfl, show ((c * f.Den - f.Num * b).natAbs : Int) = werr c f b from rfl, w64_id (n := werr c f ((k : Int) + 3) * b) (by omega) (by omega), w64_id (n := werr c f b * ((k : Int) + 3)) (by omega) (by omega), w64_id (n := (k : Int) + 3 + 1) (by omega) (by omega)]
            rw [show (k : Int) + 3 + 1 = (k : Int) + 4 by omega]
            split <;> rfl
      · rw [decide_eq_false h2]
        exact ⟨0, 2, rfl, rfl, fun h => by cases h⟩
  · rw [decide_eq_false h1]
    refine ⟨0, 1, rfl, ?_, fun h => by cases h⟩
    cases u <;> rfl
end Go.Vs.G
