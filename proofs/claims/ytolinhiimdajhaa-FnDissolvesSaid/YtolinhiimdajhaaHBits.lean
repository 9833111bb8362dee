/- Sets as bits of numbers. No conditions. -/
import Derived.Test.YtolinhiimdajhaaHBright
namespace Go.Vs
open Go

theorem and_one {q : Nat} (h : q < 9223372036854775808) : bit_and .i64 (q : Int) 1 = ((q % 2 : Nat) : Int) := by
  show IntKind.wrap .i64 (((BitVec.ofInt 64 (q : Int) &&& BitVec.ofInt 64 1).toNat : Nat) : Int) = _
  rw [BitVec.toNat_and, BitVec.toNat_ofInt, BitVec.toNat_ofInt]
  have h1 : ((q : Int) % ((2 ^ 64 : Nat) : Int)).toNat = q := by omega
  have h2 : ((1 : Int) % ((2 ^ 64 : Nat) : Int)).toNat = 1 := by decide
  rw [h1, h2, Nat.and_one_is_mod]
  exact w64_id (by omega) (by omega)
theorem wu64 {i : Nat} (h : i < 18446744073709551616) : IntKind.wrap .u64 (i : Int) = (i : Int) := by rw [wu64_def]; omega
theorem shr_nat {x i : Nat} (hi : i ≤ 64) : shr? .i64 (x : Int) (IntKind.wrap .u64 (i : Int)) = some ((x / 2 ^ i : Nat) : Int) := by
  rw [wu64 (by omega)]
  have h1 : ¬ ((i : Int) < 0) := by omega
  have h2 : min (i : Int).toNat IntKind.i64.bits = i := by simp [IntKind.bits]; omega
  rw [shr?, if_neg h1, h2, Int.fdiv_eq_ediv_of_nonneg _ (by exact_mod_cast Nat.zero_le (2 ^ i))]
  congr 1
theorem shl_one {n : Nat} (hn : n ≤ 62) : shl? .i64 1 (IntKind.wrap .u64 (n : Int)) = some ((2 ^ n : Nat) : Int) := by
  rw [wu64 (by omega)]
  have h1 : ¬ ((n : Int) < 0) := by omega
  have h2 : min (n : Int).toNat IntKind.i64.bits = n := by simp [IntKind.bits]; omega
  have h3 : 2 ^ n ≤ 2 ^ 62 := Nat.pow_le_pow_right (by omega) hn
  rw [shl?, if_neg h1, h2, Int.one_mul]
  have e : ((2 : Int) ^ n) = ((2 ^ n : Nat) : Int) := by simp
  have h4 : (2 : Nat) ^ 62 = 4611686018427387904 := by decide
  rw [e]
  rw [h4] at h3
  generalize 2 ^ n = P at h3 ⊢
  exact congrArg some (w64_id (by omega) (by omega))
theorem bit_of {x i : Nat} : (((x / 2 ^ i % 2 : Nat) : Int) = 1) ↔ x.testBit i = true := by
  rw [Nat.testBit_eq_decide_div_mod_eq, decide_eq_true_eq]; omega
theorem bit_at {x i : Nat} (hx : x < 9223372036854775808) (hi : i ≤ 64) : bit_and .i64 ((x / 2 ^ i : Nat) : Int) 1 = 1 ↔ x.testBit i = true := by
  have : x / 2 ^ i ≤ x := Nat.div_le_self ..
  rw [and_one (by omega), bit_of]

/-- elements of the numbers that fit, added up -/
def gd (l : List Int) (k : Nat) : Int := l.getD k 0
theorem at_gd {l : List Int} {k : Nat} (h : k < l.length) : at? l (k : Int) = some (gd l k) := by
  unfold gd; rw [at_of h, List.getD_eq_getElem?_getD, List.getElem?_eq_getElem h]; rfl
theorem gd_mem {l : List Int} {k : Nat} (h : k < l.length) : gd l k ∈ l := by
  unfold gd; rw [List.getD_eq_getElem?_getD, List.getElem?_eq_getElem h]; exact List.getElem_mem h
def ss (l : List Int) (c : Nat → Bool) : Nat → Int
  | 0 => 0
  | k + 1 => ss l c k + if c k = true then gd l k else 0
theorem ss_rng {l : List Int} {c : Nat → Bool} {M : Int} (hM : 0 ≤ M) (hl : ∀ x, x ∈ l → 0 ≤ x ∧ x ≤ M) : ∀ k, k ≤ l.length → 0 ≤ ss l c k ∧ ss l c k ≤ M * k
  | 0, _ => by simp [ss]
  | k + 1, h => by
    have h1 := ss_rng (c := c) hM hl k (by omega)
    have h2 := hl _ (gd_mem (l := l) (k := k) (by omega))
    rw [ss, Int.natCast_add, Int.mul_add]
    split <;> omega
theorem mem_sl' {c : Nat → Bool} {v : Int} : ∀ {k : Nat}, v ∈ sl c k → ∃ j : Nat, v = (j : Int) ∧ j < k ∧ c j = true
  | 0, h => by simp [sl] at h
  | k + 1, h => by
    rw [sl] at h
    split at h
    · rename_i hc
      simp only [List.mem_append, List.mem_singleton] at h
      rcases h with h | h
      · obtain ⟨j, h1, h2, h3⟩ := mem_sl' h; exact ⟨j, h1, by omega, h3⟩
      · exact ⟨k, h, by omega, hc⟩
    · obtain ⟨j, h1, h2, h3⟩ := mem_sl' h; exact ⟨j, h1, by omega, h3⟩
def lsum (l : List Int) (ix : List Int) : Int := (ix.map fun v => gd l v.toNat).sum
theorem lsum_snoc (l ix : List Int) (v : Int) : lsum l (ix ++ [v]) = lsum l ix + gd l v.toNat := by simp [lsum]
theorem lsum_sl (l : List Int) (c : Nat → Bool) : ∀ k, lsum l (sl c k) = ss l c k
  | 0 => by simp [lsum, sl, ss]
  | k + 1 => by
    rw [sl, ss]
    split
    · rw [lsum_snoc, lsum_sl l c k]; simp
    · rw [lsum_sl l c k]; simp
theorem lsum_rng {l : List Int} {M : Int} (hM : 0 ≤ M) (hl : ∀ x, x ∈ l → 0 ≤ x ∧ x ≤ M) : ∀ (ix : List Int), (∀ v, v ∈ ix → 0 ≤ v ∧ v < l.length) → 0 ≤ lsum l ix ∧ lsum l ix ≤ M * ix.length
  | [], _ => by simp [lsum]
  | v :: ix, h => by
    have h1 := lsum_rng hM hl ix fun v hv => h v (by simp [hv])
    have h2 := h v (by simp)
    have h3 := hl _ (gd_mem (l := l) (k := v.toNat) (by omega))
    have : lsum l (v :: ix) = gd l v.toNat + lsum l ix := by simp [lsum]
    rw [this, List.length_cons, Int.natCast_add, Int.mul_add]
    omega
/-- one taken away -/
theorem ss_clear (l : List Int) {c d : Nat → Bool} {i : Nat} (hc : c i = true) (hd : ∀ j, d j = (c j && !decide (j = i))) : ∀ k, i < k → ss l d k = ss l c k - gd l i
  | k + 1, h => by
    have heq : ∀ m, m ≤ i → ss l d m = ss l c m := by
      intro m
      induction m with
      | zero => intro _; rfl
      | succ m ih =>
        intro hm
        rw [ss, ss, ih (by omega), hd m, decide_eq_false (by omega)]
        simp
    rw [ss, ss, hd k]
    rcases Nat.lt_or_ge i k with h1 | h1
    · rw [ss_clear l hc hd k h1, decide_eq_false (by omega)]
      simp only [Bool.not_false, Bool.and_true]
      omega
    · obtain rfl : k = i := by omega
      rw [heq k (Nat.le_refl _), hc]
      simp
theorem sl_clear {c d : Nat → Bool} {i : Nat} (hc : c i = true) (hd : ∀ j, d j = (c j && !decide (j = i))) : ∀ k, i < k → (sl d k).length + 1 = (sl c k).length
  | k + 1, h => by
    have heq : ∀ m, m ≤ i → sl d m = sl c m := fun m hm => sl_congr fun j hj => by rw [hd j, decide_eq_false (by omega)]; simp
    rw [sl, sl, hd k]
    rcases Nat.lt_or_ge i k with h1 | h1
    · have := sl_clear hc hd k h1
      rw [decide_eq_false (by omega)]
      simp only [Bool.not_false, Bool.and_true]
      split <;> first | (simp; omega) | omega
    · obtain rfl : k = i := by omega
      rw [heq k (Nat.le_refl _), hc]
      simp
end Go.Vs
