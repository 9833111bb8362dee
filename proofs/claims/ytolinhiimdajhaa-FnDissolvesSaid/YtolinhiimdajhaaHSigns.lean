/- Sets of signs: rising lists, bits. No conditions. -/
import Derived.Test.YtolinhiimdajhaaHCause
import Derived.Test.YtolinhiimdajhaaHTitleC
import Derived.Test.YtolinhiimdajhaaHLamps
namespace Go.Vs
open Go

/-- numbers that rise -/
def Rise (l : List Int) : Prop := l.Pairwise (· < ·)
theorem rise_eq : ∀ {a b : List Int}, Rise a → Rise b → (∀ x, x ∈ a ↔ x ∈ b) → a = b
  | [], [], _, _, _ => rfl
  | [], y :: b, _, _, h => by have := (h y).2 (by simp); simp at this
  | x :: a, [], _, _, h => by have := (h x).1 (by simp); simp at this
  | x :: a, y :: b, ha, hb, h => by
    unfold Rise at ha hb
    rw [List.pairwise_cons] at ha hb
    have hxy : x = y := by
      have h1 := (h x).1 (by simp)
      have h2 := (h y).2 (by simp)
      simp only [List.mem_cons] at h1 h2
      rcases h1 with h1 | h1
      · exact h1
      · rcases h2 with h2 | h2
        · exact h2.symm
        · have := hb.1 x h1; have := ha.1 y h2; omega
    subst hxy
    rw [rise_eq ha.2 hb.2 fun z => ?_]
    constructor
    · intro hz
      have h1 := (h z).1 (by simp [hz])
      have := ha.1 z hz
      simp only [List.mem_cons] at h1
      rcases h1 with h1 | h1
      · omega
      · exact h1
    · intro hz
      have h1 := (h z).2 (by simp [hz])
      have := hb.1 z hz
      simp only [List.mem_cons] at h1
      rcases h1 with h1 | h1
      · omega
      · exact h1
theorem mem_sl {c : Nat → Bool} {v : Int} : ∀ {k : Nat}, v ∈ sl c k ↔ ∃ j : Nat, v = (j : Int) ∧ j < k ∧ c j = true := by
  intro k
  refine ⟨mem_sl', ?_⟩
  rintro ⟨j, rfl, hj, hc⟩
  induction k with
  | zero => omega
  | succ k ih =>
    rw [sl]
    rcases Nat.lt_or_ge j k with h | h
    · split <;> simp [ih h]
    · obtain rfl : j = k := by omega
      rw [if_pos hc]; simp
theorem rise_sl (c : Nat → Bool) : ∀ k, Rise (sl c k)
  | 0 => by simp [Rise, sl]
  | k + 1 => by
    have ih := rise_sl c k
    rw [sl]
    split
    · unfold Rise at ih ⊢
      rw [List.pairwise_append]
      refine ⟨ih, by simp, fun x hx y hy => ?_⟩
      obtain ⟨j, rfl, hj, _⟩ := mem_sl'  hx
      simp only [List.mem_singleton] at hy
      omega
    · exact ih
theorem rise_mono {l : List Int} : ∀ {n : Nat}, (∀ i (h : i < l.length), (∀ h2 : 0 < i, l[i - 1] < l[i])) → ∀ (i j : Nat) (hij : i < j) (hj : j < l.length), l[i] < l[j] := by
  intro _ h i j hij hj
  induction j with
  | zero => omega
  | succ j ih =>
    have h1 := h (j + 1) hj (by omega)
    simp only [Nat.add_sub_cancel] at h1
    rcases Nat.lt_or_ge i j with h2 | h2
    · have := ih h2 (by omega); omega
    · obtain rfl : i = j := by omega
      exact h1
theorem rise_of {l : List Int} (h : ∀ i (h : i < l.length), (∀ h2 : 0 < i, l[i - 1] < l[i])) : Rise l := by
  unfold Rise
  rw [List.pairwise_iff_getElem]
  intro i j hi hj hij
  exact rise_mono (n := 0) h i j hij hj

/-- a sorted list without doubles -/
theorem getB {l : List Int} {j : Nat} (h : j < l.length) : l.toArray[j]! = l[j] := by simp [h]
theorem mem_compact {l : List Int} {x : Int} : x ∈ Lib.compact l ↔ x ∈ l := by
  unfold Lib.compact Lib.compactUpTo
  rw [List.mem_map]
  constructor
  · rintro ⟨j, hj, rfl⟩
    rw [List.mem_filter, List.mem_range] at hj
    rw [getB hj.1]; exact List.getElem_mem _
  · intro hx
    obtain ⟨j, hj, rfl⟩ := List.getElem_of_mem hx
    clear hx
    induction j with
    | zero => exact ⟨0, by rw [List.mem_filter, List.mem_range]; exact ⟨hj, by simp [Lib.keeps]⟩, getB hj⟩
    | succ j ih =>
      by_cases he : l[j + 1] = l[j]
      · rw [he]; exact ih (by omega)
      · refine ⟨j + 1, ?_, getB hj⟩
        rw [List.mem_filter, List.mem_range]
        refine ⟨hj, Lib.keeps_pos ?_⟩
        rw [getB hj, Nat.add_sub_cancel, getB (by omega)]; exact he
theorem rise_compact {l : List Int} (h : l.Pairwise fun x y => decide (x ≤ y) = true) : Rise (Lib.compact l) := by
  unfold Rise Lib.compact Lib.compactUpTo
  rw [List.pairwise_map]
  have h0 : (List.range l.length).Pairwise (· < ·) := List.pairwise_lt_range
  refine List.Pairwise.imp_of_mem ?_ (List.Pairwise.filter _ h0)
  intro i j hi hj hij
  rw [List.mem_filter, List.mem_range] at hi hj
  rw [List.pairwise_iff_getElem] at h
  have hk := hj.2
  unfold Lib.keeps at hk
  rw [decide_eq_true_eq] at hk
  rcases hk with hk | hk
  · omega
  · rw [getB hj.1, getB (by omega)] at hk
    rw [getB hi.1, getB hj.1]
    have h1 := h (j - 1) j (by omega) hj.1 (by omega)
    rw [decide_eq_true_eq] at h1
    rcases Nat.lt_or_ge i (j - 1) with h2 | h2
    · have h3 := h i (j - 1) hi.1 (by omega) h2
      rw [decide_eq_true_eq] at h3
      omega
    · have : i = j - 1 := by omega
      subst this
      omega
theorem rise_srt {l : List Int} : Rise (Lib.compact (srt l)) := by
  refine rise_compact ?_
  exact List.pairwise_mergeSort (fun a b c h1 h2 => by simp only [decide_eq_true_eq] at *; omega) (fun a b => by simp only [Bool.or_eq_true, decide_eq_true_eq]; omega) l
theorem mem_srt {l : List Int} {x : Int} : x ∈ Lib.compact (srt l) ↔ x ∈ l := by
  rw [mem_compact]; exact List.mem_mergeSort

theorem i64_nat {x : Nat} (hx : x < 9223372036854775808) : (BitVec.ofInt IntKind.i64.bits (x : Int)) = BitVec.ofNat 64 x := by
  show BitVec.ofInt 64 (x : Int) = _
  rw [BitVec.ofInt_natCast]
theorem bor_nat {x y : Nat} (hx : x < 2 ^ 62) (hy : y < 2 ^ 62) : bit_or .i64 (x : Int) (y : Int) = ((x ||| y : Nat) : Int) := by
  have hlt : x ||| y < 2 ^ 62 := Nat.or_lt_two_pow hx hy
  have h4 : (2 : Nat) ^ 62 = 4611686018427387904 := by decide
  rw [h4] at hx hy hlt
  unfold bit_or
  rw [i64_nat (by omega), i64_nat (by omega)]
  show IntKind.wrap .i64 (((BitVec.ofNat 64 x ||| BitVec.ofNat 64 y).toNat : Nat) : Int) = _
  rw [BitVec.toNat_or, BitVec.toNat_ofNat, BitVec.toNat_ofNat, Nat.mod_eq_of_lt (by omega), Nat.mod_eq_of_lt (by omega)]
  exact w64_id (by omega) (by omega)
theorem band_nat {x y : Nat} (hx : x < 2 ^ 62) (hy : y < 2 ^ 62) : bit_and .i64 (x : Int) (y : Int) = ((x &&& y : Nat) : Int) := by
  have hlt : x &&& y < 2 ^ 62 := Nat.and_lt_two_pow x hy
  have h4 : (2 : Nat) ^ 62 = 4611686018427387904 := by decide
  rw [h4] at hx hy hlt
  unfold bit_and
  rw [i64_nat (by omega), i64_nat (by omega)]
  show IntKind.wrap .i64 (((BitVec.ofNat 64 x &&& BitVec.ofNat 64 y).toNat : Nat) : Int) = _
  rw [BitVec.toNat_and, BitVec.toNat_ofNat, BitVec.toNat_ofNat, Nat.mod_eq_of_lt (by omega), Nat.mod_eq_of_lt (by omega)]
  exact w64_id (by omega) (by omega)
theorem bandNot_zero {x y : Nat} (hx : x < 2 ^ 62) (hy : y < 2 ^ 62) : bit_andNot .i64 (x : Int) (y : Int) = 0 ↔ ∀ i, x.testBit i = true → y.testBit i = true := by
  have h4 : (2 : Nat) ^ 62 = 4611686018427387904 := by decide
  have hx' := hx
  have hy' := hy
  rw [h4] at hx' hy'
  unfold bit_andNot
  rw [i64_nat (by omega), i64_nat (by omega)]
  show IntKind.wrap .i64 (((BitVec.ofNat 64 x &&& ~~~BitVec.ofNat 64 y).toNat : Nat) : Int) = 0 ↔ _
  have hle : (BitVec.ofNat 64 x &&& ~~~BitVec.ofNat 64 y).toNat < 2 ^ 62 := by
    rw [BitVec.toNat_and, BitVec.toNat_ofNat, Nat.mod_eq_of_lt (by omega)]
    exact Nat.lt_of_le_of_lt Nat.and_le_left hx
  rw [h4] at hle
  have hw : ∀ m : Nat, m < 4611686018427387904 → (IntKind.wrap .i64 (m : Int) = 0 ↔ m = 0) := fun m hm => by
    rw [show IntKind.wrap .i64 (m : Int) = (m : Int) from w64_id (by omega) (by omega)]; omega
  rw [hw _ hle]
  constructor
  · intro h i hi
    have hz : (BitVec.ofNat 64 x &&& ~~~BitVec.ofNat 64 y) = 0#64 := BitVec.eq_of_toNat_eq (by rw [h]; rfl)
    have h1 := congrArg (fun v => BitVec.getLsbD v i) hz
    simp only [BitVec.getLsbD_and, BitVec.getLsbD_not, BitVec.getLsbD_ofNat, BitVec.getLsbD_zero, Nat.zero_testBit] at h1
    have hi64 : i < 64 := by
      refine Classical.byContradiction fun hn => ?_
      have : x.testBit i = false := Nat.testBit_lt_two_pow (Nat.lt_of_lt_of_le hx (Nat.pow_le_pow_right (by omega) (by omega)))
      rw [this] at hi; cases hi
    simp only [hi64, decide_true, hi, Bool.true_and, Bool.not_eq_false'] at h1
    exact h1
  · intro h
    have hz : (BitVec.ofNat 64 x &&& ~~~BitVec.ofNat 64 y) = 0#64 := by
      refine BitVec.eq_of_getLsbD_eq fun i hi => ?_
      simp only [BitVec.getLsbD_and, BitVec.getLsbD_not, BitVec.getLsbD_ofNat, BitVec.getLsbD_zero, Nat.zero_testBit, hi, decide_true, Bool.true_and]
      cases hx2 : x.testBit i with
      | false => rfl
      | true => rw [h i hx2]; rfl
    rw [hz]; rfl
/-- numbers as bits -/
def bitsN : List Int → Nat
  | [] => 0
  | v :: l => 2 ^ v.toNat ||| bitsN l
def small20 (l : List Int) : Prop := ∀ v, v ∈ l → 0 ≤ v ∧ v < 20
theorem bitsN_test : ∀ {l : List Int}, (∀ v, v ∈ l → 0 ≤ v) → ∀ i, (bitsN l).testBit i = decide ((i : Int) ∈ l)
  | [], _, i => by simp [bitsN]
  | v :: l, h, i => by
    have h0 := h v (by simp)
    rw [bitsN, Nat.testBit_or, bitsN_test (fun x hx => h x (by simp [hx])), Nat.testBit_two_pow]
    by_cases h1 : v.toNat = i
    · have : (i : Int) = v := by omega
      simp [h1, this]
    · have : ¬ ((i : Int) = v) := by omega
      simp [h1, this]
theorem bitsN_lt : ∀ {l : List Int}, small20 l → bitsN l < 2 ^ 20
  | [], _ => by simp [bitsN]
  | v :: l, h => by
    have h0 := h v (by simp)
    rw [bitsN]
    exact Nat.or_lt_two_pow (Nat.pow_lt_pow_right (by omega) (by omega)) (bitsN_lt fun x hx => h x (by simp [hx]))
theorem bitsN_snoc (l : List Int) (v : Int) : bitsN (l ++ [v]) = bitsN l ||| 2 ^ v.toNat := by
  induction l with
  | nil => simp [bitsN]
  | cons x l ih => rw [List.cons_append, bitsN, ih, bitsN, Nat.or_assoc]
/-- the set of a rising list -/
theorem sl_bits {l : List Int} {n : Nat} (hr : Rise l) (hl : ∀ v, v ∈ l → 0 ≤ v ∧ v < n) : sl (bitsN l).testBit n = l := by
  refine rise_eq (rise_sl _ _) hr fun x => ?_
  rw [mem_sl]
  constructor
  · rintro ⟨j, rfl, hj, hb⟩
    rw [bitsN_test (fun v hv => (hl v hv).1)] at hb
    exact of_decide_eq_true hb
  · intro hx
    have := hl x hx
    refine ⟨x.toNat, by omega, by omega, ?_⟩
    rw [bitsN_test (fun v hv => (hl v hv).1), show ((x.toNat : Nat) : Int) = x by omega]
    exact decide_eq_true hx
theorem bits_sl {x n : Nat} (hx : x < 2 ^ n) : bitsN (sl x.testBit n) = x := by
  refine Nat.eq_of_testBit_eq fun i => ?_
  rw [bitsN_test (fun v hv => by obtain ⟨j, rfl, _⟩ := mem_sl' hv; omega)]
  by_cases h : x.testBit i = true
  · rw [h]
    refine decide_eq_true (mem_sl.2 ⟨i, rfl, ?_, h⟩)
    refine Classical.byContradiction fun hn => ?_
    have : x.testBit i = false := Nat.testBit_lt_two_pow (Nat.lt_of_lt_of_le hx (Nat.pow_le_pow_right (by omega) (by omega)))
    rw [this] at h; cases h
  · rw [decide_eq_false]
    · simpa using h
    · intro hm
      obtain ⟨j, hj, _, hb⟩ := mem_sl'  hm
      have : j = i := by omega
      subst this
      exact h hb
end Go.Vs
