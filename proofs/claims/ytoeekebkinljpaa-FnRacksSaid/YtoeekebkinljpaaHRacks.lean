/- Racks: when all wheels are back. No conditions. -/
import Derived.Test.YtoeekebkinljpaaHWheelsB
namespace Go.Vs.G
open Go Go.Vs

def wv (l : List GWheel) (i : Nat) : GWheel := l.getD i ⟨1, false⟩
theorem at_wv {l : List GWheel} {i : Nat} (h : i < l.length) : at? l (i : Int) = some (wv l i) := by
  unfold wv; rw [at_of h, List.getD_eq_getElem?_getD, List.getElem?_eq_getElem h]; rfl
theorem wv_rng {c : Int} {l : List GWheel} {i : Nat} (hl : wok c l) (h : i < l.length) : 2 ≤ (wv l i).Teeth ∧ (wv l i).Teeth ≤ 200 := by
  unfold wv; rw [List.getD_eq_getElem?_getD, List.getElem?_eq_getElem h]; exact hl.2.2.2 _ (List.getElem_mem h)
/-- the common length of the first k wheels -/
def lc (l : List GWheel) : Nat → Nat
  | 0 => 1
  | k + 1 => Nat.lcm (lc l k) (wv l k).Teeth.toNat
theorem lc_pos {c : Int} {l : List GWheel} (hl : wok c l) : ∀ k, k ≤ l.length → 0 < lc l k
  | 0, _ => by simp [lc]
  | k + 1, h => by
    have := lc_pos hl k (by omega)
    have hr := wv_rng hl (i := k) (by omega)
    exact Nat.lcm_pos this (by omega)
theorem lcm_eq (a b : Nat) (ha : 0 < a) : Nat.lcm a b = a / Nat.gcd a b * b := by
  have hg : 0 < Nat.gcd a b := Nat.gcd_pos_of_pos_left _ ha
  obtain ⟨p, hp⟩ := Nat.gcd_dvd_left a b
  unfold Nat.lcm
  generalize Nat.gcd a b = g at *
  subst hp
  rw [Nat.mul_assoc, Nat.mul_div_cancel_left _ hg, Nat.mul_div_cancel_left _ hg]
theorem lc_le {c : Int} {l : List GWheel} (hl : wok c l) : ∀ k, k ≤ l.length → lc l k ≤ 200 ^ k
  | 0, _ => by simp [lc]
  | k + 1, h => by
    have ih := lc_le hl k (by omega)
    have hp := lc_pos hl k (by omega)
    have hr := wv_rng hl (i := k) (by omega)
    rw [lc, lcm_eq _ _ hp, Nat.pow_succ]
    have h1 : lc l k / Nat.gcd (lc l k) (wv l k).Teeth.toNat ≤ lc l k := Nat.div_le_self ..
    exact Nat.mul_le_mul (by omega) (by omega)
theorem lc_dvd {l : List GWheel} (k : Nat) : lc l k ∣ lc l (k + 1) := Nat.dvd_lcm_left ..
theorem lc_dvd' {l : List GWheel} {j : Nat} : ∀ {k : Nat}, j ≤ k → lc l j ∣ lc l k
  | 0, h => by rw [show j = 0 by omega]; exact Nat.dvd_refl _
  | k + 1, h => by
    rcases Nat.lt_or_ge j (k + 1) with h1 | h1
    · exact Nat.dvd_trans (lc_dvd' (by omega)) (lc_dvd k)
    · rw [show j = k + 1 by omega]; exact Nat.dvd_refl _
theorem teeth_dvd {l : List GWheel} {j k : Nat} (h : j < k) : (wv l j).Teeth.toNat ∣ lc l k := Nat.dvd_trans (show (wv l j).Teeth.toNat ∣ lc l (j + 1) from Nat.dvd_lcm_right (lc l j) _) (lc_dvd' (k := k) (by omega))
theorem lc_le' {c : Int} {l : List GWheel} (hl : wok c l) {j k : Nat} (h : j ≤ k) (hk : k ≤ l.length) : lc l j ≤ lc l k := Nat.le_of_dvd (lc_pos hl k hk) (lc_dvd' h)
theorem lc_big {c : Int} {l : List GWheel} (hl : wok c l) {k : Nat} (hk : k ≤ l.length) : (lc l k : Int) ≤ 2560000000000000000 := by
  have h1 := lc_le hl k hk
  have h2 : 200 ^ k ≤ 200 ^ 8 := Nat.pow_le_pow_right (by omega) (by have := hl.2.2.1; omega)
  have h3 : (200 : Nat) ^ 8 = 2560000000000000000 := by decide
  omega
theorem commonLength_eq {a b : Nat} (ha : 0 < a) (ha2 : a ≤ 2560000000000000000) (hb : 0 < b) (hb2 : b ≤ 200) (hc : Nat.lcm a b ≤ 2560000000000000000) : impl_commonLength (a : Int) (b : Int) = some (Nat.lcm a b : Int) := by
  unfold impl_commonLength
  have hg : 0 < Nat.gcd a b := Nat.gcd_pos_of_pos_left _ ha
  have hgi : (Int.gcd (a : Int) (b : Int) : Int) = (Nat.gcd a b : Int) := by simp [Int.gcd]
  rw [impl_gcd_eq (by omega) (by omega), Option.bind_some, hgi, div_ok (by omega), Option.bind_some, Int.tdiv_eq_ediv_of_nonneg (by omega)]
  have e : ((a : Int) / (Nat.gcd a b : Int)) = ((a / Nat.gcd a b : Nat) : Int) := (Int.natCast_ediv _ _).symm
  have hd : a / Nat.gcd a b ≤ a := Nat.div_le_self ..
  rw [lcm_eq a b ha] at hc ⊢
  rw [e]
  generalize a / Nat.gcd a b = q at *
  rw [show IntKind.wrap .i64 (q : Int) = (q : Int) from w64_id (by omega) (by omega), ← Int.natCast_mul, w64_id (by omega) (by omega)]
theorem returnAfter_eq {c : Int} {l : List GWheel} (hl : wok c l) : impl_returnAfter l = some (lc l l.length : Int) := by
  refine eq_of_wp ?_
  unfold impl_returnAfter
  have h8 := hl.2.2.1
  refine wp_loop (fun t : Int × Int => ∃ k : Nat, t = ((lc l k : Int), (k : Int)) ∧ k ≤ l.length) (fun t => (l.length - t.2).toNat) ⟨0, by simp [lc], by omega⟩ (by simp only; omega) ?_
  rintro ⟨a, i⟩ ⟨k, hk, hk2⟩
  simp only [Prod.mk.injEq] at hk
  obtain ⟨rfl, rfl⟩ := hk
  simp only
  refine wp_ite (fun h => ?_) (fun h => ?_)
  · have hk3 : k < l.length := by omega
    have hr := wv_rng hl hk3
    have hb := lc_big hl (k := k) (by omega)
    have hb2 := lc_big hl (k := k + 1) (by omega)
    have hp := lc_pos hl k (by omega)
    have ht : (wv l k).Teeth = ((wv l k).Teeth.toNat : Int) := by omega
    have hcl : impl_commonLength (lc l k : Int) (wv l k).Teeth = some (lc l (k + 1) : Int) := by
      rw [ht]; exact commonLength_eq hp (by omega) (by omega) (by omega) (by rw [lc] at hb2; omega)
    rw [at_wv hk3, Option.bind_some, hcl, Option.bind_some, w64_id (by omega) (by omega)]
    exact wp_some ⟨⟨k + 1, rfl, by omega⟩, by simp only; omega⟩
  · obtain rfl : k = l.length := by omega
    exact wp_some (wp_some rfl)
theorem l14Return_eq {c : Int} {l : List GWheel} (hl : wok c l) : spec_l14Return l = some (if (lc l l.length : Int) > 1000000000 then 0 else (lc l l.length : Int)) := by
  refine eq_of_wp ?_
  unfold spec_l14Return
  have h8 := hl.2.2.1
  refine wp_loop (fun t : Int × Int => ∃ k : Nat, t = ((lc l k : Int), (k : Int)) ∧ k ≤ l.length ∧ (lc l k : Int) ≤ 1000000000) (fun t => (l.length - t.2).toNat) ⟨0, by simp [lc], by omega, by simp [lc]⟩ (by simp only; omega) ?_
  rintro ⟨a, i⟩ ⟨k, hk, hk2, hle⟩
  simp only [Prod.mk.injEq] at hk
  obtain ⟨rfl, rfl⟩ := hk
  simp only
  refine wp_ite (fun h => ?_) (fun h => ?_)
  · have hk3 : k < l.length := by omega
    have hr := wv_rng hl hk3
    have hp := lc_pos hl k (by omega)
    have hb2 := lc_big hl (k := k + 1) (by omega)
    have hT : ((wv l k).Teeth.toNat : Int) = (wv l k).Teeth := by omega
    have hg : 0 < Nat.gcd (lc l k) (wv l k).Teeth.toNat := Nat.gcd_pos_of_pos_left _ hp
    have hgi : (Int.gcd (lc l k : Int) (wv l k).Teeth : Int) = (Nat.gcd (lc l k) (wv l k).Teeth.toNat : Int) := by
      show ((Nat.gcd (lc l k : Int).natAbs (wv l k).Teeth.natAbs : Nat) : Int) = _
      rw [show (lc l k : Int).natAbs = lc l k from rfl, show (wv l k).Teeth.natAbs = (wv l k).Teeth.toNat by omega]
    have hd : lc l k / Nat.gcd (lc l k) (wv l k).Teeth.toNat ≤ lc l k := Nat.div_le_self ..
    have e : ((lc l k : Int) / (Nat.gcd (lc l k) (wv l k).Teeth.toNat : Int)) = ((lc l k / Nat.gcd (lc l k) (wv l k).Teeth.toNat : Nat) : Int) := (Int.natCast_ediv _ _).symm
    have hlc : (lc l (k + 1) : Int) = ((lc l k / Nat.gcd (lc l k) (wv l k).Teeth.toNat : Nat) : Int) * (wv l k).Teeth := by
      rw [lc, lcm_eq _ _ hp, Int.natCast_mul, hT]
    rw [at_wv hk3, Option.bind_some, spec_l00Gcd_eq (by omega) (by omega) (by omega), Option.bind_some, hgi, div_ok (by omega), Option.bind_some, Int.tdiv_eq_ediv_of_nonneg (by omega), e]
    generalize lc l k / Nat.gcd (lc l k) (wv l k).Teeth.toNat = q at hd e hlc ⊢
    rw [show IntKind.wrap .i64 (q : Int) = (q : Int) from w64_id (by omega) (by omega), Option.bind_some, ← hlc, w64_id (n := (lc l (k + 1) : Int)) (by omega) (by omega), w64_id (n := (k : Int) + 1) (by omega) (by omega)]
    refine wp_ite (fun h3 => ?_) (fun h3 => ?_)
    · refine wp_some (wp_some ?_)
      have := lc_le' hl (show k + 1 ≤ l.length by omega) (Nat.le_refl _)
      rw [if_pos (by omega)]
    · exact wp_some ⟨⟨k + 1, rfl, by omega, by omega⟩, by simp only; omega⟩
  · obtain rfl : k = l.length := by omega
    refine wp_some (wp_some ?_)
    rw [if_neg (by omega)]
end Go.Vs.G
