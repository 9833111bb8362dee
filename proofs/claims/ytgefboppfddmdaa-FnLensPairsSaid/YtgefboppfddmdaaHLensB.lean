/- FnLensPairs. No conditions. -/
import Derived.Test.YtgefboppfddmdaaHLens
namespace Go.Vs.G
open Go Go.Vs

theorem imax_abs {a b : Int} (ha : -4611686018427387904 ≤ a) (ha2 : a ≤ 4611686018427387903) (hb : -4611686018427387904 ≤ b) (hb2 : b ≤ 4611686018427387903) : imax (w64 (a - b)) (w64 (b - a)) = ((a - b).natAbs : Int) := by
  rw [w64_id (by omega) (by omega), w64_id (by omega) (by omega), imax_def]; omega
theorem imax_abs0 {x : Int} (ha : -4611686018427387904 ≤ x) (ha2 : x ≤ 4611686018427387903) : imax (w64 x) (w64 (0 - w64 x)) = (x.natAbs : Int) := by
  rw [w64_id (n := x) (by omega) (by omega), w64_id (by omega) (by omega), imax_def]; omega
theorem pM_w {a b W : Int} (ha : 10 ≤ a) (ha2 : a ≤ 400) (hb : 10 ≤ b) (hb2 : b ≤ 400) (h1 : 10 ≤ W) (h2 : W ≤ 400) :
    imax (w64 (w64 (a * b) - w64 (W * w64 (a + b)))) (w64 (0 - w64 (w64 (a * b) - w64 (W * w64 (a + b))))) = ((a * b - W * (a + b)).natAbs : Int) ∧ ((a * b - W * (a + b)).natAbs : Int) ≤ 1000000 ∧ w64 (a + b) = a + b := by
  have m := mul_bd (a := a) (b := b) (A := 400) (B := 400) (by omega) (by omega) (by omega) (by omega)
  have mW := mul_bd (a := W) (b := a + b) (A := 400) (B := 800) (by omega) (by omega) (by omega) (by omega)
  rw [w64_id (n := a + b) (by omega) (by omega), w64_id (n := a * b) (by omega) (by omega), w64_id (n := W * (a + b)) (by omega) (by omega), imax_abs0 (by omega) (by omega)]
  exact ⟨rfl, by omega, rfl⟩
/-- two lenses are shorter than each of them -/
theorem join_short {a b : Int} (ha : 10 ≤ a) (hb : 10 ≤ b) {f : GFraction} (hR : Red (a * b) (a + b) f) : f.Num < f.Den * min a b := by
  have he := hR.eq
  have hp := hR.pos
  refine Int.lt_of_mul_lt_mul_right (a := a + b) ?_ (by omega)
  rw [he, Int.mul_assoc f.Den, Int.mul_comm f.Den]
  refine Int.mul_lt_mul_of_pos_right ?_ hp
  rcases Int.le_total a b with h | h
  · rw [Int.min_eq_left h, Int.mul_add]
    have := Int.mul_pos (show 0 < a by omega) (show 0 < a by omega)
    omega
  · rw [Int.min_eq_right h, Int.mul_add, Int.mul_comm b a]
    have := Int.mul_pos (show 0 < b by omega) (show 0 < b by omega)
    omega

theorem laws_FnLensPairs_true {code more : List Int} (h1 : okL (okI .u8) code) (h2 : okL (okI .u8) more) : laws_FnLensPairs code more = some true := by
  refine eq_of_wp ?_
  unfold laws_FnLensPairs
  obtain ⟨r, hr, hr2⟩ := a2Long_eq code more
  rw [hr, Option.bind_some]
  refine wp_ite (fun h => wp_some rfl) (fun h => ?_)
  obtain ⟨l1, l2⟩ := hr2 (by simpa using h)
  obtain ⟨l, hd, hl⟩ := A2Lenses_ok h1 l1
  obtain ⟨q, hq, q1, q2⟩ := a2At_ok h2 l2 (i := 0) (n := 40) (by omega) (by omega)
  rw [hd, Option.bind_some, hq, Option.bind_some, w64_id (n := 1 + q) (by omega) (by omega), w64_id (n := 10 * (1 + q)) (by omega) (by omega)]
  have w1 : 10 ≤ 10 * (1 + q) := by omega
  have w2 : 10 * (1 + q) ≤ 400 := by omega
  generalize 10 * (1 + q) = W at w1 w2 ⊢
  have h6 := hl.1
  have L : ∃ u c, impl_NearestLens l W = some (u, c) ∧ ((0 < l.length ∧ c = 0 ∧ ∃ b : Nat, u = (b : Int) ∧ b < l.length ∧ ∀ i, i < l.length → ld l W b ≤ ld l W i ∧ (ld l W i = ld l W b → b ≤ i)) ∨ (l.length = 0 ∧ c = 3)) := by
    rcases NearestLens_ok hl w1 w2 with ⟨a1, a2⟩ | ⟨a1, b, a2, a3, a4⟩
    · exact ⟨_, _, a2, Or.inr ⟨a1, rfl⟩⟩
    · exact ⟨_, _, a2, Or.inl ⟨a1, rfl, b, rfl, a3, a4⟩⟩
  have P : ∃ u v c, impl_NearestPair l W = some (u, v, c) ∧ ((2 ≤ l.length ∧ c = 0 ∧ ∃ p q : Nat, u = (p : Int) ∧ v = (q : Int) ∧ p < q ∧ q < l.length ∧ ∀ i j, i < j → j < l.length → pM l W p q * pS l i j ≤ pM l W i j * pS l p q) ∨ (l.length < 2 ∧ c = 3)) := by
    rcases NearestPair_ok hl w1 w2 with ⟨a1, a2⟩ | ⟨a1, p, q, a2, a3, a4, a5⟩
    · exact ⟨_, _, _, a2, Or.inr ⟨a1, rfl⟩⟩
    · exact ⟨_, _, _, a2, Or.inl ⟨a1, rfl, p, q, rfl, rfl, a3, a4, a5⟩⟩
  obtain ⟨u, c, e1, HL⟩ := L
  obtain ⟨a, b, c', e2, HP⟩ := P
  rw [e1, Option.bind_some, e2, Option.bind_some]
  simp only
  have hx1 : (if ((decide (c = 0)) == (decide ((l.length : Int) > 0))) = true then (if ((decide (c' = 0)) == (decide ((l.length : Int) > 1))) = true then (if c = 0 then (if c' = 0 then (some false) else some (!(decide (c' = 3)))) else if c = 3 then (if c' = 0 then (some false) else some (!(decide (c' = 3)))) else some true) else some true) else some true : Option Bool) = some false := by
    have i1 : ((decide (c = 0)) == (decide ((l.length : Int) > 0))) = true := by
      rw [beq_iff_eq, decide_eq_decide]
      rcases HL with ⟨k1, k2, _⟩ | ⟨k1, k2⟩ <;> omega
    have i2 : ((decide (c' = 0)) == (decide ((l.length : Int) > 1))) = true := by
      rw [beq_iff_eq, decide_eq_decide]
      rcases HP with ⟨k1, k2, _⟩ | ⟨k1, k2⟩ <;> omega
    rw [if_pos i1, if_pos i2]
    rcases HL with ⟨_, rfl, _⟩ | ⟨_, rfl⟩ <;> rcases HP with ⟨_, rfl, _⟩ | ⟨_, rfl⟩ <;> rfl
  have hx2 : (if c = 0 then (if u < 0 then (some true) else if u ≥ (l.length : Int) then (some true) else if c' = 0 then (if a < 0 then (some true) else if b ≤ a then (some true) else some (decide (b ≥ (l.length : Int)))) else some false)
      else if c' = 0 then (if a < 0 then (some true) else if b ≤ a then (some true) else some (decide (b ≥ (l.length : Int)))) else some false : Option Bool) = some false := by
    have i1 : (if c' = 0 then (if a < 0 then (some true) else if b ≤ a then (some true) else some (decide (b ≥ (l.length : Int)))) else some false : Option Bool) = some false := by
      rcases HP with ⟨_, rfl, p, q, rfl, rfl, k1, k2, _⟩ | ⟨_, rfl⟩
      · rw [if_pos rfl, if_neg (by omega), if_neg (by omega), decide_eq_false (by omega)]
      · rfl
    rw [i1]
    rcases HL with ⟨_, rfl, b, rfl, k1, _⟩ | ⟨_, rfl⟩
    · rw [if_pos rfl, if_neg (by omega), if_neg (by omega)]
    · rfl
  rw [hx1, Option.bind_some, if_neg (by simp), hx2, Option.bind_some, if_neg (by simp)]
  refine wp_loop (fun t : Int => ∃ k : Nat, t = (k : Int) ∧ k ≤ l.length) (fun t => (l.length - t).toNat) ⟨0, rfl, by omega⟩ (by omega) ?_
  rintro i' ⟨i, rfl, hi⟩
  refine wp_ite (fun h => ?_) (fun h => wp_some (wp_some rfl))
  have hi2 : i < l.length := by omega
  obtain ⟨_, rfl, m, rfl, m1, m2⟩ : (0 < l.length ∧ c = 0 ∧ ∃ b : Nat, u = (b : Int) ∧ b < l.length ∧ ∀ i, i < l.length → ld l W b ≤ ld l W i ∧ (ld l W i = ld l W b → b ≤ i)) := by
    rcases HL with h | h
    · exact h
    · omega
  have ri := lv_rng hl hi2
  have rm := lv_rng hl m1
  rw [at_lv hi2, at_lv m1]
  simp only [Option.bind_some]
  rw [imax_abs (by omega) (by omega) (by omega) (by omega), imax_abs (by omega) (by omega) (by omega) (by omega)]
  obtain ⟨b1, b2⟩ := m2 i hi2
  have hx3 : (if ((lv l i - W).natAbs : Int) < ((lv l m - W).natAbs : Int) then some true else if ((lv l i - W).natAbs : Int) = ((lv l m - W).natAbs : Int) then some (decide ((i : Int) < (m : Int))) else some false : Option Bool) = some false := by
    change ((lv l m - W).natAbs : Int) ≤ ((lv l i - W).natAbs : Int) at b1
    rw [if_neg (by omega)]
    split
    · rename_i he
      have := b2 he
      rw [decide_eq_false (by omega)]
    · rfl
  rw [hx3, Option.bind_some, if_neg (by simp), w64_id (n := (i : Int) + 1) (by omega) (by omega)]
  refine wp_loop (fun t : Int => ∃ k : Nat, t = (k : Int) ∧ i < k ∧ k ≤ l.length) (fun t => (l.length - t).toNat) ⟨i + 1, rfl, by omega, by omega⟩ (by omega) ?_
  rintro j' ⟨j, rfl, hij, hj⟩
  refine wp_ite (fun h3 => ?_) (fun h3 => wp_some (wp_some ⟨⟨i + 1, rfl, by omega⟩, by omega⟩))
  have hj2 : j < l.length := by omega
  obtain ⟨_, rfl, p, q, rfl, rfl, k1, k2, k3⟩ : (2 ≤ l.length ∧ c' = 0 ∧ ∃ p q : Nat, a = (p : Int) ∧ b = (q : Int) ∧ p < q ∧ q < l.length ∧ ∀ i j, i < j → j < l.length → pM l W p q * pS l i j ≤ pM l W i j * pS l p q) := by
    rcases HP with h | h
    · exact h
    · omega
  have rj := lv_rng hl hj2
  have rp := lv_rng hl (show p < l.length by omega)
  have rq := lv_rng hl k2
  rw [at_lv hj2, at_lv (show p < l.length by omega), at_lv k2]
  simp only [Option.bind_some]
  obtain ⟨f, f1, hR, f3, f4, f5⟩ := JoinLenses_ok ri.1 ri.2 rj.1 rj.2
  have f6 := hR.pos
  rw [f1, Option.bind_some]
  obtain ⟨z1, z2, z3⟩ := pM_w ri.1 ri.2 rj.1 rj.2 w1 w2
  obtain ⟨y1, y2, y3⟩ := pM_w rp.1 rp.2 rq.1 rq.2 w1 w2
  rw [z1, y1, z3, y3]
  have n1 := mul_bd (a := f.Num) (b := lv l i + lv l j) (A := 160000) (B := 800) (by omega) (by omega) (by omega) (by omega)
  have n2 := mul_bd (a := lv l i) (b := lv l j) (A := 400) (B := 400) (by omega) (by omega) (by omega) (by omega)
  have n3 := mul_bd (a := lv l i * lv l j) (b := f.Den) (A := 160000) (B := 800) (by omega) (by omega) (by omega) (by omega)
  have n4 := mul_bd (a := f.Den) (b := min (lv l i) (lv l j)) (A := 800) (B := 400) (by omega) (by omega) (by omega) (by omega)
  have hs := join_short ri.1 rj.1 hR
  have hx4 : (if True then (if f.Den < 1 then some true else if w64 (f.Num * (lv l i + lv l j)) = w64 (w64 (lv l i * lv l j) * f.Den) then some (decide (f.Num ≥ w64 (f.Den * imin (lv l i) (lv l j)))) else some true) else some true : Option Bool) = some false := by
    rw [if_pos trivial, if_neg (by omega), w64_id (n := f.Num * (lv l i + lv l j)) (by omega) (by omega), w64_id (n := lv l i * lv l j) (by omega) (by omega), w64_id (n := lv l i * lv l j * f.Den) (by omega) (by omega), if_pos hR.eq, imin_def, w64_id (by omega) (by omega), decide_eq_false (by omega)]
  simp only
  rw [hx4, Option.bind_some, if_neg (by simp)]
  have u1 := mul_bd (a := ((lv l i * lv l j - W * (lv l i + lv l j)).natAbs : Int)) (b := lv l p + lv l q) (A := 1000000) (B := 800) (by omega) (by omega) (by omega) (by omega)
  have u2 := mul_bd (a := ((lv l p * lv l q - W * (lv l p + lv l q)).natAbs : Int)) (b := lv l i + lv l j) (A := 1000000) (B := 800) (by omega) (by omega) (by omega) (by omega)
  have hm := k3 i j hij hj2
  unfold pM pS at hm
  rw [w64_id (by omega) (by omega), w64_id (by omega) (by omega), if_neg (by omega), w64_id (by omega) (by omega)]
  exact wp_some ⟨⟨j + 1, rfl, by omega, by omega⟩, by omega⟩
end Go.Vs.G
