/- Greatest common divisors and fractions in lowest terms. No conditions. -/
import Derived.Test.YtcbacahinmncaaaHSrc
namespace Go.Vs.G
open Go Go.Vs

theorem gcd_tmod (a b : Int) : Int.gcd b (a.tmod b) = Int.gcd a b := by
  rw [Int.gcd_comm b, Int.gcd, Int.natAbs_tmod, Int.gcd, Nat.gcd_comm a.natAbs, Nat.gcd_rec b.natAbs a.natAbs]
theorem tmod_lt (a b : Int) (hb : b ≠ 0) : (a.tmod b).natAbs < b.natAbs := by
  rw [Int.natAbs_tmod]; exact Nat.mod_lt _ (by omega)

theorem gcdLoop {a b : Int} {kb : Int → Option Int} {kr : Empty → Option Int} {Q : Int → Prop} (hb : b.natAbs < 9223372036854775808)
    (hk : ∀ g : Int, g.natAbs = Int.gcd a b → (0 ≤ a → 0 ≤ b → 0 ≤ g) → wp (kb g) Q) :
    wp (onL (loop (S := (Int × Int)) (B := Int) (R := Empty) (fun ((a2, b2) : Int × Int) => if b2 = 0 then (some (.brk a2)) else (mod? a2 b2).bind fun q1 => some (.next (b2, q1))) loopLim (a, b)) kb kr) Q := by
  refine wp_loop (fun s : Int × Int => Int.gcd s.1 s.2 = Int.gcd a b ∧ s.2.natAbs ≤ b.natAbs ∧ (0 ≤ a → 0 ≤ b → 0 ≤ s.1 ∧ 0 ≤ s.2)) (fun s => s.2.natAbs) ⟨rfl, Nat.le_refl _, fun h1 h2 => ⟨h1, h2⟩⟩ (by simp only; omega) ?_
  rintro ⟨a2, b2⟩ ⟨h1, h2, h3⟩
  simp only at h1 h2 h3 ⊢
  refine wp_ite (fun h => ?_) (fun h => ?_)
  · subst h
    exact wp_some (hk a2 (by rw [← h1]; simp) (fun g1 g2 => (h3 g1 g2).1))
  · rw [mod_ok h, Option.bind_some]
    have ht := tmod_lt a2 b2 h
    refine wp_some ⟨⟨by simp only; rw [gcd_tmod, h1], by simp only; omega, fun g1 g2 => ⟨(h3 g1 g2).2, Int.tmod_nonneg _ (h3 g1 g2).1⟩⟩, by simp only; omega⟩

theorem gcd_le {a b : Int} {B : Nat} (ha : a.natAbs ≤ B) (hb : b.natAbs ≤ B) : Int.gcd a b ≤ B := by
  by_cases h : a = 0
  · subst h; simpa using hb
  · exact Nat.le_trans (Nat.gcd_le_left _ (by omega)) ha
theorem impl_gcd_eq {a b : Int} (ha : a.natAbs ≤ 9223372036854775807) (hb : b.natAbs ≤ 9223372036854775807) : impl_gcd a b = some (Int.gcd a b : Int) := by
  refine eq_of_wp ?_
  unfold impl_gcd
  refine gcdLoop (by omega) fun g hg _ => wp_some ?_
  have := gcd_le ha hb
  rw [imax_def, w64_id (by omega) (by omega)]; omega
theorem spec_l00Gcd_eq {a b : Int} (ha : 0 ≤ a) (hb : 0 ≤ b) (hb2 : b.natAbs ≤ 9223372036854775807) : spec_l00Gcd a b = some (Int.gcd a b : Int) := by
  refine eq_of_wp ?_
  unfold spec_l00Gcd
  refine gcdLoop (by omega) fun g hg h0 => wp_some ?_
  have := h0 ha hb
  omega

/-- f is n / d in lowest terms -/
structure Red (n d : Int) (f : GFraction) : Prop where
  pos : 0 < f.Den
  cop : Int.gcd f.Num f.Den = 1
  eq : f.Num * d = n * f.Den

theorem dvd_of_cop {a b c : Int} (h : Int.gcd a b = 1) (hd : b ∣ a * c) : b ∣ c := by
  rw [← Int.natAbs_dvd_natAbs] at hd ⊢
  rw [Int.natAbs_mul] at hd
  have : Nat.Coprime b.natAbs a.natAbs := by rw [Nat.coprime_comm]; exact h
  exact this.dvd_of_dvd_mul_left hd
theorem Red.den_dvd {n d : Int} {f : GFraction} (h : Red n d f) : f.Den ∣ d := dvd_of_cop h.cop ⟨n, by rw [h.eq, Int.mul_comm]⟩
theorem Red.num_dvd {n d : Int} {f : GFraction} (h : Red n d f) : f.Num ∣ n := by
  refine dvd_of_cop (a := f.Den) (by rw [Int.gcd_comm]; exact h.cop) ⟨d, by rw [h.eq, Int.mul_comm]⟩
theorem Red.den_le {n d : Int} {f : GFraction} (h : Red n d f) (hd : d ≠ 0) : f.Den ≤ d.natAbs := by
  have := Nat.le_of_dvd (by omega) (Int.natAbs_dvd_natAbs.2 h.den_dvd)
  have := h.pos
  omega
theorem Red.num_le {n d : Int} {f : GFraction} (h : Red n d f) (hd : d ≠ 0) : f.Num.natAbs ≤ n.natAbs := by
  by_cases hn : n = 0
  · subst hn
    have h1 := h.eq
    rw [Int.zero_mul] at h1
    rcases Int.mul_eq_zero.1 h1 with h2 | h2
    · omega
    · exact absurd h2 hd
  · exact Nat.le_of_dvd (by omega) (Int.natAbs_dvd_natAbs.2 h.num_dvd)
theorem Red.unique {f g : GFraction} (hf : 0 < f.Den) (hg : 0 < g.Den) (cf : Int.gcd f.Num f.Den = 1) (cg : Int.gcd g.Num g.Den = 1) (h : f.Num * g.Den = g.Num * f.Den) : f = g := by
  have h1 : f.Den ∣ g.Den := dvd_of_cop cf ⟨g.Num, by rw [h, Int.mul_comm]⟩
  have h2 : g.Den ∣ f.Den := dvd_of_cop cg ⟨f.Num, by rw [← h, Int.mul_comm]⟩
  have hd : f.Den = g.Den := Int.le_antisymm (Int.le_of_dvd hg h1) (Int.le_of_dvd hf h2)
  have hn : f.Num = g.Num := by
    rw [hd] at h
    exact Int.eq_of_mul_eq_mul_right (by omega) h
  cases f; cases g
  simp_all

theorem pos_of_mul {g q : Int} (hg : 0 < g) (h : 0 < g * q) : 0 < q := by
  refine Classical.byContradiction fun hc => ?_
  have := Int.mul_nonneg (a := g) (b := -q) (by omega) (by omega)
  rw [Int.mul_neg] at this
  omega
theorem div_gcd {a b : Int} (g : Int) (hg : 0 < g) (hgd : g = (Int.gcd a b : Int)) : ∃ p q, a = g * p ∧ b = g * q ∧ Int.gcd p q = 1 := by
  have h1 : g ∣ a := by rw [hgd]; exact Int.gcd_dvd_left ..
  have h2 : g ∣ b := by rw [hgd]; exact Int.gcd_dvd_right ..
  obtain ⟨p, rfl⟩ := h1
  obtain ⟨q, rfl⟩ := h2
  refine ⟨p, q, rfl, rfl, ?_⟩
  rw [Int.gcd_mul_left] at hgd
  have h3 : (g.natAbs : Int) = g := by omega
  have h4 : g.natAbs * 1 = g.natAbs * p.gcd q := by
    have : (g.natAbs * p.gcd q : Nat) = g.natAbs := by omega
    omega
  exact (Nat.eq_of_mul_eq_mul_left (by omega) h4).symm

theorem impl_lowest_eq {n d : Int} (hd : d ≠ 0) (hn1 : n.natAbs ≤ 9223372036854775807) (hd1 : d.natAbs ≤ 9223372036854775807) : ∃ f, impl_lowest n d = some f ∧ Red n d f := by
  have hw1 : w64 (0 - n) = 0 - n := w64_id (by omega) (by omega)
  have hw2 : w64 (0 - d) = 0 - d := w64_id (by omega) (by omega)
  have hs : ∃ n' d', (if d < 0 then some (w64 (0 - n), w64 (0 - d)) else some (n, d)) = some (n', d') ∧ 0 < d' ∧ n'.natAbs ≤ 9223372036854775807 ∧ d'.natAbs ≤ 9223372036854775807 ∧ n' * d = n * d' := by
    split
    · refine ⟨_, _, rfl, by omega, by omega, by omega, ?_⟩
      rw [hw1, hw2]; simp [Int.neg_mul, Int.mul_neg]
    · exact ⟨_, _, rfl, by omega, hn1, hd1, rfl⟩
  obtain ⟨n', d', h1, h2, h3, h4, h5⟩ := hs
  unfold impl_lowest
  rw [h1, Option.bind_some]
  simp only
  rw [impl_gcd_eq h3 h4, Option.bind_some]
  have hg : 0 < (Int.gcd n' d' : Int) := by
    have : Int.gcd n' d' ≠ 0 := by
      intro h; rw [Int.gcd_eq_zero_iff] at h; omega
    omega
  obtain ⟨p, q, hp, hq, hpq⟩ := div_gcd _ hg rfl
  generalize (Int.gcd n' d' : Int) = g at hg hp hq
  subst hp hq
  rw [div_ok (by omega), Option.bind_some, div_ok (by omega), Option.bind_some]
  rw [Int.mul_tdiv_cancel_left _ (by omega), Int.mul_tdiv_cancel_left _ (by omega)]
  have hbp : p.natAbs ≤ (g * p).natAbs := by rw [Int.natAbs_mul]; exact Nat.le_mul_of_pos_left _ (by omega)
  have hbq : q.natAbs ≤ (g * q).natAbs := by rw [Int.natAbs_mul]; exact Nat.le_mul_of_pos_left _ (by omega)
  have e1 : IntKind.wrap .i64 p = p := w64_id (by omega) (by omega)
  have e2 : IntKind.wrap .i64 q = q := w64_id (by omega) (by omega)
  rw [e1, e2]
  refine ⟨_, rfl, pos_of_mul hg h2, hpq, ?_⟩
  · simp only
    have : g * (p * d) = g * (n * q) := by rw [← Int.mul_assoc, h5, ← Int.mul_assoc, ← Int.mul_assoc, Int.mul_comm g n]
    exact Int.eq_of_mul_eq_mul_left (by omega) this

/-- a valid fraction -/
def GFraction.valid (f : GFraction) : Prop := 1 ≤ f.Den ∧ f.Den ≤ 1000000 ∧ -1000000 ≤ f.Num ∧ f.Num ≤ 1000000 ∧ Int.gcd f.Num f.Den = 1
theorem ValidFraction_eq (f : GFraction) : ∃ b, impl_ValidFraction f = some b ∧ (b = true ↔ f.valid) := by
  unfold impl_ValidFraction
  have hw : ∀ n a b, impl_within n a b = some (decide (a ≤ n ∧ n ≤ b)) := fun n a b => by unfold impl_within; split <;> simp <;> omega
  simp only [hw, Option.bind_some, decide_eq_true_eq, GFraction.valid]
  split
  · split
    · rw [impl_gcd_eq (by omega) (by omega)]
      exact ⟨_, rfl, by simp; omega⟩
    · exact ⟨_, rfl, by simp; omega⟩
  · exact ⟨_, rfl, by simp; omega⟩
theorem ValidFraction_true {f : GFraction} (h : f.valid) : impl_ValidFraction f = some true := by
  obtain ⟨b, h1, h2⟩ := ValidFraction_eq f
  rw [h1, h2.2 h]
theorem checked_ok {f : GFraction} (h : f.valid) : impl_checked f = some (f, 0) := by
  unfold impl_checked; rw [ValidFraction_true h]; rfl

/-- a drawn fraction -/
structure Drawn (f : GFraction) : Prop where
  d0 : 1 ≤ f.Den
  d1 : f.Den ≤ 20
  n0 : -15 ≤ f.Num
  n1 : f.Num ≤ 44
  cop : Int.gcd f.Num f.Den = 1
theorem Drawn.valid {f : GFraction} (h : Drawn f) : f.valid := ⟨h.d0, by have := h.d1; omega, by have := h.n0; omega, by have := h.n1; omega, h.cop⟩
theorem l02Make_eq {n d : Int} (hd : 0 < d) (hn1 : n.natAbs ≤ 9223372036854775807) (hd1 : d ≤ 9223372036854775807) : ∃ f, spec_l02Make n d = some f ∧ Red n d f := by
  unfold spec_l02Make
  have hs : spec_l00Size n = some (n.natAbs : Int) := by
    unfold spec_l00Size; split
    · rw [w64_id (by omega) (by omega)]; congr 1; omega
    · congr 1; omega
  rw [hs, Option.bind_some, spec_l00Gcd_eq (by omega) (by omega) (by omega), Option.bind_some]
  have hg0 : Int.gcd (n.natAbs : Int) d = Int.gcd n d := by simp [Int.gcd]
  rw [hg0]
  have hg : 0 < (Int.gcd n d : Int) := by
    have : Int.gcd n d ≠ 0 := by
      intro h; rw [Int.gcd_eq_zero_iff] at h; omega
    omega
  obtain ⟨p, q, hp, hq, hpq⟩ := div_gcd _ hg rfl
  generalize (Int.gcd n d : Int) = g at hg hp hq
  subst hp hq
  rw [div_ok (by omega), Option.bind_some, div_ok (by omega), Option.bind_some]
  rw [Int.mul_tdiv_cancel_left _ (by omega), Int.mul_tdiv_cancel_left _ (by omega)]
  have hbp : p.natAbs ≤ (g * p).natAbs := by rw [Int.natAbs_mul]; exact Nat.le_mul_of_pos_left _ (by omega)
  have hbq : q.natAbs ≤ (g * q).natAbs := by rw [Int.natAbs_mul]; exact Nat.le_mul_of_pos_left _ (by omega)
  have e1 : IntKind.wrap .i64 p = p := w64_id (by omega) (by omega)
  have e2 : IntKind.wrap .i64 q = q := w64_id (by omega) (by omega)
  rw [e1, e2]
  refine ⟨_, rfl, pos_of_mul hg hd, hpq, ?_⟩
  simp only
  rw [← Int.mul_assoc, Int.mul_comm p g]
theorem A2Fraction_ok {code : List Int} (h : okL (okI .u8) code) (hl : code.length ≤ 3000) : ∃ f, spec_A2Fraction code = some f ∧ Drawn f := by
  unfold spec_A2Fraction
  rw [l00From_eq, Option.bind_some]
  have h0 := srcOk_from h (by omega)
  unfold spec_l02Draw
  obtain ⟨v, s1, e1, v0, v1, k1⟩ := pick_ok h0 (by omega) 60
  rw [e1, Option.bind_some]
  obtain ⟨u, s2, e2, u0, u1, k2⟩ := pick_ok k1 (by omega) 20
  simp only
  rw [e2, Option.bind_some, w64_id (by omega) (by omega), w64_id (by simp only; omega) (by simp only; omega)]
  obtain ⟨f, hf, hr⟩ := l02Make_eq (n := v - 15) (d := 1 + u) (by omega) (by omega) (by omega)
  rw [hf, Option.bind_some, Option.bind_some]
  refine ⟨f, rfl, ?_⟩
  have hd := hr.den_le (by omega)
  have hp := hr.pos
  have hnd := hr.num_le (by omega)
  refine ⟨by omega, by omega, ?_, by omega, hr.cop⟩
  -- the sign is that of the number drawn
  refine Classical.byContradiction fun hc => ?_
  have he := hr.eq
  have h1 : f.Num * (1 + u) < 0 := Int.mul_neg_of_neg_of_pos (by omega) (by omega)
  rw [he] at h1
  have h2 : v - 15 < 0 := by
    refine Classical.byContradiction fun hc2 => ?_
    have := Int.mul_nonneg (a := v - 15) (b := f.Den) (by omega) (by omega)
    omega
  omega
end Go.Vs.G
