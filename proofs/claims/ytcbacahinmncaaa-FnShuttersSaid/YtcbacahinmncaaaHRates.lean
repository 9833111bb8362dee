/- Rates: whole turns, gears, the common time. No conditions. -/
import Derived.Test.YtcbacahinmncaaaHFrac
namespace Go.Vs.G
open Go Go.Vs

theorem mul_bd {a b A B : Int} (h1 : -A ≤ a) (h2 : a ≤ A) (h3 : -B ≤ b) (h4 : b ≤ B) : -(A * B) ≤ a * b ∧ a * b ≤ A * B := by
  have ha : a.natAbs ≤ A.natAbs := by omega
  have hb : b.natAbs ≤ B.natAbs := by omega
  have := Nat.mul_le_mul ha hb
  rw [← Int.natAbs_mul, ← Int.natAbs_mul] at this
  have h5 : 0 ≤ A * B := Int.mul_nonneg (by omega) (by omega)
  omega
theorem within_eqR (n a b : Int) : impl_within n a b = some (decide (a ≤ n ∧ n ≤ b)) := by
  unfold impl_within; split <;> simp <;> omega

theorem WholeTurns_eq {a : GFraction} (ha : a.valid) {s : Int} (h0 : 0 ≤ s) (h1 : s ≤ 1000000) : impl_WholeTurns a s = some (if a.Num < 0 then (0, 6) else (a.Num * s / a.Den, 0)) := by
  unfold impl_WholeTurns
  rw [ValidFraction_true ha, Option.bind_some, within_eqR]
  simp only [Option.bind_some, if_true, h0, h1, and_self, decide_true]
  split
  · rfl
  · obtain ⟨g1, g2, g3, g4, g5⟩ := ha
    have hb := mul_bd (a := a.Num) (b := s) (A := 1000000) (B := 1000000) g3 g4 (by omega) h1
    rw [w64_id (by omega) (by omega), div_ok (by omega), Option.bind_some]
    have hnn : 0 ≤ a.Num * s := Int.mul_nonneg (by omega) h0
    rw [Int.tdiv_eq_ediv_of_nonneg hnn]
    have h2 : a.Num * s / a.Den ≤ a.Num * s := Int.ediv_le_self _ hnn
    have h3 : 0 ≤ a.Num * s / a.Den := Int.ediv_nonneg hnn (by omega)
    have : IntKind.wrap .i64 (a.Num * s / a.Den) = a.Num * s / a.Den := w64_id (by omega) (by omega)
    rw [this]

theorem GearedRate_eq {a : GFraction} (ha : a.valid) {p q : Int} (hp : 1 ≤ p) (hp2 : p ≤ 1000) (hq : 1 ≤ q) (hq2 : q ≤ 1000) (hn : -1000 ≤ a.Num) (hn2 : a.Num ≤ 1000) (hd : a.Den ≤ 1000) :
    ∃ f, impl_GearedRate a p q = some (f, 0) ∧ Red (a.Num * p) (a.Den * q) f ∧ f.valid := by
  unfold impl_GearedRate
  rw [ValidFraction_true ha, Option.bind_some]
  obtain ⟨g1, g2, g3, g4, g5⟩ := ha
  have hb1 := mul_bd (a := a.Num) (b := p) (A := 1000) (B := 1000) hn hn2 (by omega) hp2
  have hb2 := mul_bd (a := a.Den) (b := q) (A := 1000) (B := 1000) (by omega) hd (by omega) hq2
  have hpos : 0 < a.Den * q := Int.mul_pos (by omega) (by omega)
  simp only [within_eqR, Option.bind_some, if_true, hp, hp2, hq, hq2, and_self, decide_true, Bool.not_true, Bool.false_eq_true, if_false]
  rw [w64_id (n := a.Num * p) (by omega) (by omega), w64_id (n := a.Den * q) (by omega) (by omega)]
  obtain ⟨f, h1, h2⟩ := impl_lowest_eq (n := a.Num * p) (d := a.Den * q) (by omega) (by omega) (by omega)
  have h3 := h2.den_le (by omega)
  have h4 := h2.num_le (by omega)
  have h5 := h2.pos
  have hv : f.valid := ⟨by omega, by omega, by omega, by omega, h2.cop⟩
  rw [h1, Option.bind_some, checked_ok hv]
  exact ⟨f, rfl, h2, hv⟩

/-- a pair of wheels and its opposite lead back -/
theorem geared_back {a f g : GFraction} {p q : Int} (ha : a.valid) (hp : 0 < p) (hq : 0 < q) (h1 : Red (a.Num * p) (a.Den * q) f) (h2 : Red (f.Num * q) (f.Den * p) g) : g = a := by
  obtain ⟨g1, g2, g3, g4, g5⟩ := ha
  refine Red.unique h2.pos (by omega) h2.cop g5 ?_
  have e1 := h1.eq
  have e2 := h2.eq
  have hc : 0 < f.Den * p := Int.mul_pos h1.pos hp
  refine Int.eq_of_mul_eq_mul_left (a := f.Den * p) (by omega) ?_
  calc f.Den * p * (g.Num * a.Den) = (g.Num * (f.Den * p)) * a.Den := by simp only [Int.mul_assoc, Int.mul_comm, Int.mul_left_comm]
    _ = (f.Num * (a.Den * q)) * g.Den := by rw [e2]; simp only [Int.mul_assoc, Int.mul_comm, Int.mul_left_comm]
    _ = f.Den * p * (a.Num * g.Den) := by rw [e1]; simp only [Int.mul_assoc, Int.mul_comm, Int.mul_left_comm]

theorem cop_of {a b : Int} : Int.gcd a b = 1 ↔ Nat.Coprime a.natAbs b.natAbs := Iff.rfl

/-- the common time -/
theorem CommonTime_eq {a b : GFraction} (ha : Drawn a) (hb : Drawn b) (h1 : 0 < a.Num) (h2 : 0 < b.Num) :
    ∃ t m1 m2 : Int, ∃ f, impl_CommonTime a b = some (f, 0) ∧ 1 ≤ f.Num ∧ f.Num ≤ 400 ∧ 1 ≤ f.Den ∧ f.Den ≤ 44 ∧ a.Num * f.Num = m1 * (a.Den * f.Den) ∧ b.Num * f.Num = m2 * (b.Den * f.Den) ∧ Int.gcd m1 m2 = 1 := by
  obtain ⟨a1, a2, a3, a4, a5⟩ := id ha
  obtain ⟨b1, b2, b3, b4, b5⟩ := id hb
  unfold impl_CommonTime
  rw [ValidFraction_true ha.valid, ValidFraction_true hb.valid]
  simp only [Option.bind_some, if_true, Bool.not_true, Bool.false_eq_true, if_false]
  rw [if_neg (by omega)]
  simp only [Option.bind_some]
  rw [if_neg (by simp; omega), impl_gcd_eq (by omega) (by omega), Option.bind_some]
  have hg : 0 < (Int.gcd a.Den b.Den : Int) := by
    have : Int.gcd a.Den b.Den ≠ 0 := by
      intro h; rw [Int.gcd_eq_zero_iff] at h; omega
    omega
  have hG : 0 < (Int.gcd a.Num b.Num : Int) := by
    have : Int.gcd a.Num b.Num ≠ 0 := by
      intro h; rw [Int.gcd_eq_zero_iff] at h; omega
    omega
  obtain ⟨q, s, hq, hs, hqs⟩ := div_gcd (a := a.Den) (b := b.Den) _ hg rfl
  obtain ⟨p, r, hp, hr, hpr⟩ := div_gcd (a := a.Num) (b := b.Num) _ hG rfl
  have hGle : (Int.gcd a.Num b.Num : Int) ≤ 44 := by
    have := gcd_le (a := a.Num) (b := b.Num) (B := 44) (by omega) (by omega)
    omega
  rw [impl_gcd_eq (a := a.Num) (b := b.Num) (by omega) (by omega)]
  generalize (Int.gcd a.Den b.Den : Int) = g at hg hq hs ⊢
  generalize (Int.gcd a.Num b.Num : Int) = G at hG hp hr hGle ⊢
  have hq0 : 0 < q := pos_of_mul hg (by omega)
  have hs0 : 0 < s := pos_of_mul hg (by omega)
  have hp0 : 0 < p := pos_of_mul hG (by omega)
  have hr0 : 0 < r := pos_of_mul hG (by omega)
  have hql : q ≤ a.Den := by
    have := Int.mul_le_mul_of_nonneg_right (show (1 : Int) ≤ g by omega) (show 0 ≤ q by omega)
    omega
  rw [div_ok (by omega), Option.bind_some, Option.bind_some]
  have e1 : a.Den.tdiv g = q := by rw [hq, Int.mul_tdiv_cancel_left _ (by omega)]
  have e2 : IntKind.wrap .i64 q = q := w64_id (by omega) (by omega)
  rw [e1, e2]
  have hb1 := mul_bd (a := q) (b := b.Den) (A := 20) (B := 20) (by omega) (by omega) (by omega) b2
  have hpos : 0 < q * b.Den := Int.mul_pos hq0 (by omega)
  rw [w64_id (by omega) (by omega)]
  obtain ⟨f, f1, f2⟩ := impl_lowest_eq (n := q * b.Den) (d := G) (by omega) (by omega) (by omega)
  have f3 := f2.den_le (by omega)
  have f4 := f2.num_le (by omega)
  have f5 := f2.pos
  have f6 := f2.eq
  have f7 : 0 < f.Num := by
    refine pos_of_mul (g := G) hG ?_
    rw [Int.mul_comm, f6]; exact Int.mul_pos hpos f5
  have hv : f.valid := ⟨by omega, by omega, by omega, by omega, f2.cop⟩
  rw [f1, Option.bind_some, checked_ok hv, Option.bind_some]
  refine ⟨0, p * s, r * q, f, rfl, by omega, by omega, by omega, by omega, ?_, ?_, ?_⟩
  · calc a.Num * f.Num = p * (f.Num * G) := by rw [hp]; simp only [Int.mul_assoc, Int.mul_comm, Int.mul_left_comm]
      _ = p * (q * (g * s) * f.Den) := by rw [f6, ← hs]
      _ = p * s * (a.Den * f.Den) := by rw [hq]; simp only [Int.mul_assoc, Int.mul_comm, Int.mul_left_comm]
  · calc b.Num * f.Num = r * (f.Num * G) := by rw [hr]; simp only [Int.mul_assoc, Int.mul_comm, Int.mul_left_comm]
      _ = r * (q * b.Den * f.Den) := by rw [f6]
      _ = r * q * (b.Den * f.Den) := by simp only [Int.mul_assoc, Int.mul_comm, Int.mul_left_comm]
  · rw [cop_of, Int.natAbs_mul, Int.natAbs_mul]
    rw [cop_of] at hqs hpr
    have cpq : Nat.Coprime p.natAbs q.natAbs := by
      have h : Nat.Coprime a.Num.natAbs a.Den.natAbs := a5
      rw [hp, hq, Int.natAbs_mul, Int.natAbs_mul] at h
      exact (h.coprime_dvd_left (Nat.dvd_mul_left ..)).coprime_dvd_right (Nat.dvd_mul_left ..)
    have crs : Nat.Coprime r.natAbs s.natAbs := by
      have h : Nat.Coprime b.Num.natAbs b.Den.natAbs := b5
      rw [hr, hs, Int.natAbs_mul, Int.natAbs_mul] at h
      exact (h.coprime_dvd_left (Nat.dvd_mul_left ..)).coprime_dvd_right (Nat.dvd_mul_left ..)
    exact Nat.Coprime.mul_left (Nat.Coprime.mul_right hpr cpq) (Nat.Coprime.mul_right crs.symm hqs.symm)

theorem mod_zero {a m : Int} (hm : 0 < m) (ha : 0 ≤ a) : a.tmod m = 0 ↔ m ∣ a := by
  rw [Int.tmod_eq_emod_of_nonneg ha]
  exact ⟨Int.dvd_of_emod_eq_zero, Int.emod_eq_zero_of_dvd⟩

theorem laws_FnRates_true {code more : List Int} (hc : okL (okI .u8) code) (hm : okL (okI .u8) more) : laws_FnRates code more = some true := by
  obtain ⟨r, h1, h2⟩ := a2Long_eq code more
  unfold laws_FnRates
  rw [h1, Option.bind_some]
  cases r with
  | true => rfl
  | false =>
    obtain ⟨hcl, hml⟩ := h2 rfl
    simp only [Bool.false_eq_true, if_false]
    obtain ⟨a, ha, da⟩ := A2Fraction_ok hc hcl
    obtain ⟨b, hb, db⟩ := A2Fraction_ok hm hml
    obtain ⟨s, hs, s0, s1⟩ := a2At_ok hm hml (i := 0) (n := 200) (by omega) (by omega)
    obtain ⟨p, hp, p0, p1⟩ := a2At_ok hm hml (i := 1) (n := 40) (by omega) (by omega)
    obtain ⟨q, hq, q0, q1⟩ := a2At_ok hm hml (i := 2) (n := 40) (by omega) (by omega)
    rw [ha, Option.bind_some, hb, Option.bind_some, hs, Option.bind_some, WholeTurns_eq da.valid s0 (by omega), Option.bind_some]
    obtain ⟨a1, a2, a3, a4, a5⟩ := id da
    obtain ⟨b1, b2, b3, b4, b5⟩ := id db
    -- whole turns
    have hstep : (if a.Num < 0 then (if (if a.Num < 0 then ((0 : Int), (6 : Int)) else (a.Num * s / a.Den, 0)).2 = 6 then (some (.next ())) else some (.ret false)) else
       if (if a.Num < 0 then ((0 : Int), (6 : Int)) else (a.Num * s / a.Den, 0)).2 = 0 then
       (if (if a.Num < 0 then ((0 : Int), (6 : Int)) else (a.Num * s / a.Den, 0)).1 < 0 then (some (.ret false)) else
       if (if a.Num < 0 then ((0 : Int), (6 : Int)) else (a.Num * s / a.Den, 0)).1 > 1000000 then (some (.ret false)) else
       if (w64 ((if a.Num < 0 then ((0 : Int), (6 : Int)) else (a.Num * s / a.Den, 0)).1 * a.Den)) > (w64 (a.Num * s)) then (some (.ret false)) else
       if (w64 ((w64 ((if a.Num < 0 then ((0 : Int), (6 : Int)) else (a.Num * s / a.Den, 0)).1 + 1)) * a.Den)) ≤ (w64 (a.Num * s)) then (some (.ret false)) else some (.next ()))
       else some (.ret false) : Option (Step Unit Empty Bool)) = some (.next ()) := by
      by_cases hn : a.Num < 0
      · simp [hn]
      · simp only [hn, if_false, if_true]
        have hb1 := mul_bd (a := a.Num) (b := s) (A := 44) (B := 200) (by omega) (by omega) (by omega) (by omega)
        have hnn : 0 ≤ a.Num * s := Int.mul_nonneg (by omega) s0
        have k1 : a.Num * s / a.Den ≤ a.Num * s := Int.ediv_le_self _ hnn
        have k2 : 0 ≤ a.Num * s / a.Den := Int.ediv_nonneg hnn (by omega)
        have k3 : a.Num * s / a.Den * a.Den ≤ a.Num * s := Int.ediv_mul_le _ (by omega)
        have k4 : a.Num * s < (a.Num * s / a.Den + 1) * a.Den := Int.lt_ediv_add_one_mul_self _ (by omega)
        have k5 := mul_bd (a := a.Num * s / a.Den) (b := a.Den) (A := 8800) (B := 20) (by omega) (by omega) (by omega) a2
        have k6 := mul_bd (a := a.Num * s / a.Den + 1) (b := a.Den) (A := 8801) (B := 20) (by omega) (by omega) (by omega) a2
        rw [if_neg (by omega), if_neg (by omega), w64_id (n := a.Num * s) (by omega) (by omega), w64_id (n := a.Num * s / a.Den * a.Den) (by omega) (by omega), w64_id (n := a.Num * s / a.Den + 1) (by omega) (by omega), w64_id (by omega) (by omega), if_neg (by omega), if_neg (by omega)]
    rw [hstep, onS_next, hp, Option.bind_some, hq, Option.bind_some, w64_id (n := 8 + p) (by omega) (by omega), w64_id (n := 8 + q) (by omega) (by omega)]
    -- gears
    obtain ⟨f, f1, f2, f3⟩ := GearedRate_eq da.valid (p := 8 + p) (q := 8 + q) (by omega) (by omega) (by omega) (by omega) (by omega) (by omega) (by omega)
    have hbp := mul_bd (a := a.Num) (b := 8 + p) (A := 44) (B := 47) (by omega) (by omega) (by omega) (by omega)
    have hbq := mul_bd (a := a.Den) (b := 8 + q) (A := 20) (B := 47) (by omega) (by omega) (by omega) (by omega)
    have hposq : 0 < a.Den * (8 + q) := Int.mul_pos (by omega) (by omega)
    have f4 := f2.den_le (by omega)
    have f5 := f2.num_le (by omega)
    have f6 := f2.pos
    rw [f1, Option.bind_some]
    have hv2 : ∃ g, impl_GearedRate f (8 + q) (8 + p) = some (g, 0) ∧ Red (f.Num * (8 + q)) (f.Den * (8 + p)) g := by
      unfold impl_GearedRate
      rw [ValidFraction_true f3]
      have hb1 := mul_bd (a := f.Num) (b := 8 + q) (A := 2068) (B := 47) (by omega) (by omega) (by omega) (by omega)
      have hb2 := mul_bd (a := f.Den) (b := 8 + p) (A := 940) (B := 47) (by omega) (by omega) (by omega) (by omega)
      have hpos : 0 < f.Den * (8 + p) := Int.mul_pos (by omega) (by omega)
      simp only [within_eqR, Option.bind_some, if_true, show (1 : Int) ≤ 8 + q by omega, show 8 + q ≤ 1000 by omega, show (1 : Int) ≤ 8 + p by omega, show 8 + p ≤ 1000 by omega, and_self, decide_true, Bool.not_true, Bool.false_eq_true, if_false]
      rw [w64_id (n := f.Num * (8 + q)) (by omega) (by omega), w64_id (n := f.Den * (8 + p)) (by omega) (by omega)]
      obtain ⟨g, g1, g2⟩ := impl_lowest_eq (n := f.Num * (8 + q)) (d := f.Den * (8 + p)) (by omega) (by omega) (by omega)
      have h3 := g2.den_le (by omega)
      have h4 := g2.num_le (by omega)
      have h5 := g2.pos
      rw [g1, Option.bind_some, checked_ok ⟨by omega, by omega, by omega, by omega, g2.cop⟩]
      exact ⟨g, rfl, g2⟩
    obtain ⟨g, g1, g2⟩ := hv2
    have hga : g = a := geared_back da.valid (by omega) (by omega) f2 g2
    subst hga
    rw [g1, Option.bind_some]
    have hgear : ((w64 ((w64 (f.Num * g.Den)) * (8 + q))) = (w64 ((w64 (g.Num * (8 + p))) * f.Den))) := by
      have hb1 := mul_bd (a := f.Num) (b := g.Den) (A := 2068) (B := 20) (by omega) (by omega) (by omega) (by omega)
      rw [w64_id (n := f.Num * g.Den) (by omega) (by omega), w64_id (n := g.Num * (8 + p)) (by omega) (by omega)]
      congr 1
      have := f2.eq
      rw [← this]; simp only [Int.mul_assoc]
    simp only [if_true, hgear, beq_self_eq_true, Bool.and_self, Bool.not_true, Option.bind_some, Bool.false_eq_true, if_false]
    -- the common time
    by_cases hz : g.Num ≤ 0 ∨ b.Num ≤ 0
    · have hct : impl_CommonTime g b = some (GFraction.mk 0 0, 6) := by
        unfold impl_CommonTime
        rw [ValidFraction_true da.valid, ValidFraction_true db.valid]
        simp only [Option.bind_some, if_true, Bool.not_true, Bool.false_eq_true, if_false]
        split
        · rfl
        · rename_i h
          have : b.Num ≤ 0 := by omega
          simp [this]
      rw [hct, Option.bind_some]
      split
      · simp
      · rename_i h
        have : b.Num ≤ 0 := by omega
        simp [this]
    · have hz1 : 0 < g.Num := by omega
      have hz2 : 0 < b.Num := by omega
      obtain ⟨_, m1, m2, t, t1, t2, t3, t4, t5, t6, t7, t8⟩ := CommonTime_eq da db hz1 hz2
      rw [t1, Option.bind_some, if_neg (by omega)]
      simp only [Option.bind_some]
      rw [if_neg (by simp; omega)]
      simp only [if_true]
      rw [if_neg (by omega), if_neg (by omega), if_neg (by omega), if_neg (by omega)]
      have c1 := mul_bd (a := g.Num) (b := t.Num) (A := 44) (B := 400) (by omega) (by omega) (by omega) (by omega)
      have c2 := mul_bd (a := g.Den) (b := t.Den) (A := 20) (B := 44) (by omega) (by omega) (by omega) (by omega)
      have c3 := mul_bd (a := b.Num) (b := t.Num) (A := 44) (B := 400) (by omega) (by omega) (by omega) (by omega)
      have c4 := mul_bd (a := b.Den) (b := t.Den) (A := 20) (B := 44) (by omega) (by omega) (by omega) (by omega)
      have d1 : 0 < g.Num * t.Num := Int.mul_pos (by omega) (by omega)
      have d2 : 0 < g.Den * t.Den := Int.mul_pos (by omega) (by omega)
      have d3 : 0 < b.Num * t.Num := Int.mul_pos (by omega) (by omega)
      have d4 : 0 < b.Den * t.Den := Int.mul_pos (by omega) (by omega)
      rw [w64_id (n := g.Num * t.Num) (by omega) (by omega), w64_id (n := g.Den * t.Den) (by omega) (by omega), w64_id (n := b.Num * t.Num) (by omega) (by omega), w64_id (n := b.Den * t.Den) (by omega) (by omega)]
      rw [mod_ok (by omega), Option.bind_some, if_pos ((mod_zero d2 (by omega)).2 ⟨m1, by rw [t6, Int.mul_comm]⟩), mod_ok (by omega), Option.bind_some]
      rw [(mod_zero d4 (by omega)).2 ⟨m2, by rw [t7, Int.mul_comm]⟩]
      simp only [decide_true, Bool.not_true, Option.bind_some, Bool.false_eq_true, if_false]
      refine (scan (s := 2) (n := 61) (c := fun _ => true) (r := false) (by omega) (by omega) ?_ (by simp)).trans ?_
      · intro k hk1 hk2
        have e1 := mul_bd (a := g.Den * t.Den) (b := (k : Int)) (A := 880) (B := 60) (by omega) (by omega) (by omega) (by omega)
        have e2 := mul_bd (a := b.Den * t.Den) (b := (k : Int)) (A := 880) (B := 60) (by omega) (by omega) (by omega) (by omega)
        have p1 : 0 < g.Den * t.Den * k := Int.mul_pos d2 (by omega)
        have p2 : 0 < b.Den * t.Den * k := Int.mul_pos d4 (by omega)
        rw [if_pos (by omega), w64_id (n := g.Den * t.Den * k) (by omega) (by omega), w64_id (n := b.Den * t.Den * k) (by omega) (by omega), mod_ok (by omega), mod_ok (by omega), w64_id (n := (k : Int) + 1) (by omega) (by omega)]
        simp only [Option.bind_some, if_true]
        by_cases q1 : (g.Num * t.Num).tmod (g.Den * t.Den * k) = 0
        · rw [if_pos q1, Option.bind_some]
          by_cases q2 : (b.Num * t.Num).tmod (b.Den * t.Den * k) = 0
          · exfalso
            rw [mod_zero p1 (by omega), t6] at q1
            rw [mod_zero p2 (by omega), t7] at q2
            rw [Int.mul_comm m1] at q1
            rw [Int.mul_comm m2] at q2
            have r1 := Int.dvd_of_mul_dvd_mul_left (by omega) q1
            have r2 := Int.dvd_of_mul_dvd_mul_left (by omega) q2
            have r3 : (k : Int).natAbs ∣ Int.gcd m1 m2 := Nat.dvd_gcd (Int.natAbs_dvd_natAbs.2 r1) (Int.natAbs_dvd_natAbs.2 r2)
            rw [t8] at r3
            have := Nat.le_of_dvd (by omega) r3
            omega
          · simp [q2]
        · rw [if_neg q1]; rfl
      · rw [if_pos (by simp)]
end Go.Vs.G
