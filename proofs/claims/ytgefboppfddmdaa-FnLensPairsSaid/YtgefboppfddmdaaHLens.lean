/- Lenses: the nearest lens and the nearest pair. No conditions. -/
import Derived.Test.YtgefboppfddmdaaHDrift
namespace Go.Vs.G
open Go Go.Vs

/-- lenses that are drawn -/
def lensL (l : List Int) : Prop := l.length ≤ 6 ∧ ∀ x ∈ l, 10 ≤ x ∧ x ≤ 400
def lv (l : List Int) (i : Nat) : Int := l.getD i 0
theorem at_lv {l : List Int} {i : Nat} (h : i < l.length) : at? l (i : Int) = some (lv l i) := by
  unfold lv; rw [at_of h, List.getD_eq_getElem?_getD, List.getElem?_eq_getElem h]; rfl
theorem lv_rng {l : List Int} {i : Nat} (hl : lensL l) (h : i < l.length) : 10 ≤ lv l i ∧ lv l i ≤ 400 := by
  unfold lv; rw [List.getD_eq_getElem?_getD, List.getElem?_eq_getElem h]; exact hl.2 _ (List.getElem_mem h)
theorem apart_eqL {a b : Int} (ha : -4611686018427387904 ≤ a) (ha2 : a ≤ 4611686018427387903) (hb : -4611686018427387904 ≤ b) (hb2 : b ≤ 4611686018427387903) : impl_apart a b = some ((a - b).natAbs : Int) := by
  unfold impl_apart
  rw [w64_id (by omega) (by omega), w64_id (by omega) (by omega), imax_def]
  congr 1; omega
theorem isFocal_eq (n : Int) : impl_isFocal n = some (decide (1 ≤ n ∧ n ≤ 2000)) := by
  unfold impl_isFocal; rw [within_eqR]; rfl
theorem lensesOk_ok {l : List Int} (hl : lensL l) : impl_lensesOk l 12 = some true := by
  unfold impl_lensesOk slices_ContainsFunc_int64_int64_796 slices_IndexFunc_int64_int64_818
  have h6 := hl.1
  rw [if_pos (by omega)]
  refine eq_of_wp ?_
  refine wp_bind (wp_bind (wp_loop (fun t : Int => ∃ k : Nat, t = (k : Int) ∧ k ≤ l.length) (fun t => (l.length - t).toNat) ⟨0, rfl, by omega⟩ (by omega) ?_))
  rintro i ⟨k, rfl, hk⟩
  refine wp_ite (fun h => ?_) (fun h => ?_)
  · have hk2 : k < l.length := by omega
    have hr := lv_rng hl hk2
    rw [at_lv hk2, Option.bind_some]
    simp only [impl_lensesOk_1, isFocal_eq, Option.bind_some]
    rw [if_neg (by simp; omega), w64_succ hk2 (by omega)]
    exact wp_some ⟨⟨k + 1, rfl, by omega⟩, by omega⟩
  · exact wp_some (wp_some (wp_some (wp_some rfl)))

theorem A2Lenses_ok {code : List Int} (h : okL (okI .u8) code) (hl : code.length ≤ 3000) : ∃ l, spec_A2Lenses code = some l ∧ lensL l := by
  have key : wp (spec_A2Lenses code) lensL := by
    unfold spec_A2Lenses
    rw [l00From_eq, Option.bind_some]
    obtain ⟨n, s1, e1, n0, n1, k1⟩ := pick_ok (srcOk_from h (by omega)) (by omega) 7
    rw [e1, Option.bind_some]
    simp only
    refine wp_loop (fun t : GL00Src × List Int × Int => ∃ C : Int, SrcOk C t.1 ∧ C + 2 * t.2.2 = 2 + 2 * n ∧ 0 ≤ t.2.2 ∧ t.2.2 ≤ n ∧ (t.2.1.length : Int) = n - t.2.2 ∧ ∀ x ∈ t.2.1, 10 ≤ x ∧ x ≤ 400) (fun t => t.2.2.toNat) ⟨2, k1, rfl, n0, Int.le_refl _, by simp, by simp⟩ (by simp only; omega) ?_
    rintro ⟨s5, a, k⟩ ⟨C, j1, j2, j3, j4, j5, j6⟩
    simp only at j1 j2 j3 j4 j5 j6 ⊢
    refine wp_ite (fun h => ?_) (fun h => ?_)
    · obtain ⟨v, s6, e6, v0, v1, k6⟩ := pick_ok j1 (by omega) 40
      rw [e6, Option.bind_some]
      simp only
      rw [w64_id (n := 1 + v) (by omega) (by omega), w64_id (n := 10 * (1 + v)) (by omega) (by omega), app_ok (by simp; omega), Option.bind_some, w64_id (by omega) (by omega)]
      refine wp_some ⟨⟨C + 2, k6, by simp only; omega, by simp only; omega, by simp only; omega, by simp; omega, ?_⟩, by simp only; omega⟩
      intro x hx
      rw [List.mem_append] at hx
      rcases hx with hx | hx
      · exact j6 x hx
      · rw [List.mem_singleton] at hx; omega
    · exact wp_some (wp_some ⟨by omega, j6⟩)
  obtain ⟨l, h1, h2⟩ := key
  exact ⟨l, h1, h2⟩

/-- how far a lens is -/
def ld (l : List Int) (W : Int) (i : Nat) : Int := ((lv l i - W).natAbs : Int)
theorem NearestLens_ok {l : List Int} (hl : lensL l) {W : Int} (h1 : 10 ≤ W) (h2 : W ≤ 400) :
    (l.length = 0 ∧ impl_NearestLens l W = some (0, 3)) ∨ (0 < l.length ∧ ∃ b : Nat, impl_NearestLens l W = some ((b : Int), 0) ∧ b < l.length ∧ ∀ i, i < l.length → ld l W b ≤ ld l W i ∧ (ld l W i = ld l W b → b ≤ i)) := by
  unfold impl_NearestLens
  rw [lensesOk_ok hl, isFocal_eq, decide_eq_true (show 1 ≤ W ∧ W ≤ 2000 by omega)]
  simp only [Option.bind_some, if_true, Bool.not_true, Bool.false_eq_true, if_false]
  have h6 := hl.1
  by_cases h0 : l.length = 0
  · left; exact ⟨h0, by rw [if_pos (by omega)]⟩
  · right
    refine ⟨by omega, ?_⟩
    rw [if_neg (by omega)]
    have key : wp (onL (loop (S := (Int × Int)) (B := Int) (R := Empty) (fun ((best1, x2) : Int × Int) =>
       if x2 < (l.length : Int) then
       ((at? l x2).bind fun v1 =>
       (impl_apart v1 W).bind fun r3 =>
       (at? l best1).bind fun v2 =>
       (impl_apart v2 W).bind fun r4 =>
       if r3 < r4 then
       (some (.next (x2, w64 (x2 + 1))))
       else
       some (.next (best1, w64 (x2 + 1))))
       else
       some (.brk best1)) loopLim (0, 0))
       (fun (best2 : Int) => some (best2, (0 : Int))) Empty.elim) (fun r => ∃ b : Nat, r = ((b : Int), 0) ∧ b < l.length ∧ ∀ i, i < l.length → ld l W b ≤ ld l W i ∧ (ld l W i = ld l W b → b ≤ i)) := by
      refine wp_loop (fun t : Int × Int => ∃ b k : Nat, t = ((b : Int), (k : Int)) ∧ k ≤ l.length ∧ b < l.length ∧ (∀ i, i < k → ld l W b ≤ ld l W i ∧ (ld l W i = ld l W b → b ≤ i)) ∧ b ≤ k) (fun t => (l.length - t.2).toNat) ⟨0, 0, rfl, by omega, by omega, fun i hi => by omega, by omega⟩ (by simp only; omega) ?_
      rintro ⟨b', i⟩ ⟨b, k, hbk, hk, hb, hall, hble⟩
      simp only [Prod.mk.injEq] at hbk
      obtain ⟨rfl, rfl⟩ := hbk
      simp only
      refine wp_ite (fun h => ?_) (fun h => ?_)
      · have hk2 : k < l.length := by omega
        have r1 := lv_rng hl hk2
        have r2 := lv_rng hl hb
        rw [at_lv hk2, Option.bind_some, apart_eqL (by omega) (by omega) (by omega) (by omega), Option.bind_some, at_lv hb, Option.bind_some, apart_eqL (by omega) (by omega) (by omega) (by omega), Option.bind_some, w64_id (by omega) (by omega)]
        refine wp_ite (fun h3 => ?_) (fun h3 => ?_)
        · refine wp_some ⟨⟨k, k + 1, rfl, by omega, hk2, fun i hi => ?_, by omega⟩, by simp only; omega⟩
          have h4 : ld l W k < ld l W b := h3
          rcases Nat.lt_or_ge i k with h5 | h5
          · have := hall i h5; omega
          · obtain rfl : i = k := by omega
            exact ⟨Int.le_refl _, fun _ => Nat.le_refl _⟩
        · refine wp_some ⟨⟨b, k + 1, rfl, by omega, hb, fun i hi => ?_, by omega⟩, by simp only; omega⟩
          have h4 : ¬ ld l W k < ld l W b := h3
          rcases Nat.lt_or_ge i k with h5 | h5
          · exact hall i h5
          · obtain rfl : i = k := by omega
            exact ⟨by omega, fun _ => hble⟩
      · obtain rfl : k = l.length := by omega
        exact wp_some (wp_some ⟨b, rfl, hb, hall⟩)
    obtain ⟨r, hr, b, rfl, hb, hall⟩ := key
    exact ⟨b, hr, hb, hall⟩

/- pairs -/
def pS (l : List Int) (i j : Nat) : Int := lv l i + lv l j
def pM (l : List Int) (W : Int) (i j : Nat) : Int := ((lv l i * lv l j - W * (lv l i + lv l j)).natAbs : Int)
theorem joinL_ok {a b : Int} (ha : 10 ≤ a) (ha2 : a ≤ 400) (hb : 10 ≤ b) (hb2 : b ≤ 400) : ∃ f, impl_joinLenses a b = some f ∧ Red (a * b) (a + b) f ∧ f.Num ≤ 160000 ∧ 0 < f.Num ∧ f.Den ≤ 800 := by
  have m := mul_bd (a := a) (b := b) (A := 400) (B := 400) (by omega) (by omega) (by omega) (by omega)
  have m0 : 0 < a * b := Int.mul_pos (by omega) (by omega)
  unfold impl_joinLenses
  rw [w64_id (n := a * b) (by omega) (by omega), w64_id (n := a + b) (by omega) (by omega)]
  obtain ⟨f, hf, hR⟩ := impl_lowest_eq (n := a * b) (d := a + b) (by omega) (by omega) (by omega)
  rw [hf]
  have h1 := hR.den_le (by omega)
  have h2 := hR.num_le (by omega)
  have h3 := hR.pos
  have he := hR.eq
  have : 0 < f.Num * (a + b) := by rw [he]; exact Int.mul_pos m0 h3
  have := Int.pos_of_mul_pos_left this (by omega)
  exact ⟨f, rfl, hR, by omega, by omega, by omega⟩
theorem JoinLenses_ok {a b : Int} (ha : 10 ≤ a) (ha2 : a ≤ 400) (hb : 10 ≤ b) (hb2 : b ≤ 400) : ∃ f, impl_JoinLenses a b = some (f, 0) ∧ Red (a * b) (a + b) f ∧ f.Num ≤ 160000 ∧ 0 < f.Num ∧ f.Den ≤ 800 := by
  obtain ⟨f, h1, hR, h3, h4, h5⟩ := joinL_ok ha ha2 hb hb2
  unfold impl_JoinLenses
  rw [isFocal_eq, isFocal_eq, decide_eq_true (show 1 ≤ a ∧ a ≤ 2000 by omega), decide_eq_true (show 1 ≤ b ∧ b ≤ 2000 by omega)]
  simp only [Option.bind_some, if_true, Bool.not_true, Bool.false_eq_true, if_false]
  have h6 := hR.pos
  rw [h1, Option.bind_some, checked_ok ⟨by omega, by omega, by omega, by omega, hR.cop⟩]
  exact ⟨f, rfl, hR, h3, h4, h5⟩
/-- errors as fractions -/
theorem err_eq {a b W : Int} {f : GFraction} (ha : 10 ≤ a) (hb : 10 ≤ b) (hR : Red (a * b) (a + b) f) : ((f.Num - W * f.Den).natAbs : Int) * (a + b) = ((a * b - W * (a + b)).natAbs : Int) * f.Den := by
  have he := hR.eq
  have hp := hR.pos
  have e : (f.Num - W * f.Den) * (a + b) = (a * b - W * (a + b)) * f.Den := by
    rw [Int.sub_mul, Int.sub_mul, he]; congr 1; simp only [Int.mul_assoc, Int.mul_comm, Int.mul_left_comm]
  have e1 : (((f.Num - W * f.Den) * (a + b)).natAbs : Int) = (((a * b - W * (a + b)) * f.Den).natAbs : Int) := by rw [e]
  rw [Int.natAbs_mul, Int.natAbs_mul, Int.natCast_mul, Int.natCast_mul] at e1
  rw [show ((a + b).natAbs : Int) = a + b by omega, show (f.Den.natAbs : Int) = f.Den by omega] at e1
  exact e1
theorem cmp_iff {n1 d1 M1 S1 n2 d2 M2 S2 : Int} (e1 : n1 * S1 = M1 * d1) (e2 : n2 * S2 = M2 * d2) (hd1 : 0 < d1) (hd2 : 0 < d2) (hS1 : 0 < S1) (hS2 : 0 < S2) : n1 * d2 < n2 * d1 ↔ M1 * S2 < M2 * S1 := by
  have hS : 0 < S1 * S2 := Int.mul_pos hS1 hS2
  have hd : 0 < d1 * d2 := Int.mul_pos hd1 hd2
  have a1 : n1 * d2 * (S1 * S2) = M1 * S2 * (d1 * d2) := by
    calc n1 * d2 * (S1 * S2) = (n1 * S1) * (d2 * S2) := by simp only [Int.mul_assoc, Int.mul_comm, Int.mul_left_comm]
      _ = M1 * S2 * (d1 * d2) := by rw [e1]; simp only [Int.mul_assoc, Int.mul_comm, Int.mul_left_comm]
  have a2 : n2 * d1 * (S1 * S2) = M2 * S1 * (d1 * d2) := by
    calc n2 * d1 * (S1 * S2) = (n2 * S2) * (d1 * S1) := by simp only [Int.mul_assoc, Int.mul_comm, Int.mul_left_comm]
      _ = M2 * S1 * (d1 * d2) := by rw [e2]; simp only [Int.mul_assoc, Int.mul_comm, Int.mul_left_comm]
  constructor
  · intro h
    have := Int.mul_lt_mul_of_pos_right h hS
    rw [a1, a2] at this
    exact Int.lt_of_mul_lt_mul_right this (by omega)
  · intro h
    have := Int.mul_lt_mul_of_pos_right h hd
    rw [← a1, ← a2] at this
    exact Int.lt_of_mul_lt_mul_right this (by omega)
/-- what is known of the best pair so far -/
def pairInv (l : List Int) (W : Int) (seen : Nat → Nat → Prop) (f : GFraction) (a b : Int) : Prop :=
  (f = GFraction.mk (-1) 0 ∧ a = 0 ∧ b = 0 ∧ ∀ i j, i < j → j < l.length → ¬ seen i j) ∨
  (∃ p q : Nat, a = (p : Int) ∧ b = (q : Int) ∧ p < q ∧ q < l.length ∧ 0 ≤ f.Num ∧ f.Num ≤ 1000000 ∧ 0 < f.Den ∧ f.Den ≤ 800 ∧ f.Num * pS l p q = pM l W p q * f.Den ∧ ∀ i j, i < j → j < l.length → seen i j → pM l W p q * pS l i j ≤ pM l W i j * pS l p q)
theorem pair_step {l : List Int} (hl : lensL l) {W : Int} (h1 : 10 ≤ W) (h2 : W ≤ 400) {seen : Nat → Nat → Prop} {f : GFraction} {a b : Int} (hI : pairInv l W seen f a b) {x k : Nat} (hx : x < k) (hk : k < l.length) :
    ∃ g n c, impl_joinLenses (lv l x) (lv l k) = some g ∧ impl_apart g.Num (w64 (W * g.Den)) = some n ∧ (if f.Num < 0 then some true else some (decide ((w64 (n * f.Den)) < (w64 (f.Num * g.Den))))) = some c ∧
      (c = true → pairInv l W (fun i j => seen i j ∨ i = x ∧ j = k) (GFraction.mk n g.Den) x k) ∧ (c = false → pairInv l W (fun i j => seen i j ∨ i = x ∧ j = k) f a b) := by
  have rx := lv_rng hl (show x < l.length by omega)
  have rk := lv_rng hl hk
  obtain ⟨g, e1, hR, g1, g2, g3⟩ := joinL_ok rx.1 rx.2 rk.1 rk.2
  have g4 := hR.pos
  have mW := mul_bd (a := W) (b := g.Den) (A := 400) (B := 800) (by omega) (by omega) (by omega) (by omega)
  have hW0 : 0 ≤ W * g.Den := Int.mul_nonneg (by omega) (by omega)
  have hgE := err_eq (W := W) rx.1 rk.1 hR
  have hn0 : (0 : Int) ≤ ((g.Num - W * g.Den).natAbs : Int) := by omega
  have hn1 : ((g.Num - W * g.Den).natAbs : Int) ≤ 1000000 := by omega
  have hgoal : ∀ P : Prop, P → P := fun _ h => h
  refine ⟨g, ((g.Num - W * g.Den).natAbs : Int), if f.Num < 0 then true else decide ((((g.Num - W * g.Den).natAbs : Int) * f.Den) < (f.Num * g.Den)), e1, ?_, ?_, ?_, ?_⟩
  · rw [w64_id (by omega) (by omega), apart_eqL (by omega) (by omega) (by omega) (by omega)]
  · rcases hI with ⟨rfl, _, _, _⟩ | ⟨p, q, rfl, rfl, i1, i2, i3, i4, i5, i6, i7, i8⟩
    · rfl
    · rw [if_neg (by omega), if_neg (by omega)]
      have c1 := mul_bd (a := ((g.Num - W * g.Den).natAbs : Int)) (b := f.Den) (A := 1000000) (B := 800) (by omega) (by omega) (by omega) (by omega)
      have c2 := mul_bd (a := f.Num) (b := g.Den) (A := 1000000) (B := 800) (by omega) (by omega) (by omega) (by omega)
      rw [w64_id (by omega) (by omega), w64_id (by omega) (by omega)]
  · intro hc
    right
    refine ⟨x, k, rfl, rfl, hx, hk, hn0, hn1, g4, g3, hgE, fun i j hij hj hs => ?_⟩
    rcases hs with hs | ⟨rfl, rfl⟩
    · rcases hI with ⟨rfl, _, _, hno⟩ | ⟨p, q, rfl, rfl, i1, i2, i3, i4, i5, i6, i7, i8⟩
      · exact absurd hs (hno i j hij hj)
      · rw [if_neg (by omega), decide_eq_true_eq] at hc
        have rp := lv_rng hl (show p < l.length by omega)
        have rq := lv_rng hl i2
        have ri := lv_rng hl (show i < l.length by omega)
        have rj := lv_rng hl hj
        have hlt := (cmp_iff hgE i7 g4 i5 (by omega) (by unfold pS; omega)).1 hc
        have ho := i8 i j hij hj hs
        have s1 : 0 < pS l p q := by unfold pS; omega
        have s2 : 0 < pS l i j := by unfold pS; omega
        have s3 : 0 < pS l x k := by unfold pS; omega
        change pM l W x k * pS l p q < pM l W p q * pS l x k at hlt
        refine Int.le_of_mul_le_mul_right (a := pS l p q) ?_ s1
        calc pM l W x k * pS l i j * pS l p q = (pM l W x k * pS l p q) * pS l i j := by simp only [Int.mul_assoc, Int.mul_comm, Int.mul_left_comm]
          _ ≤ (pM l W p q * pS l x k) * pS l i j := Int.mul_le_mul_of_nonneg_right (by omega) (by omega)
          _ = (pM l W p q * pS l i j) * pS l x k := by simp only [Int.mul_assoc, Int.mul_comm, Int.mul_left_comm]
          _ ≤ (pM l W i j * pS l p q) * pS l x k := Int.mul_le_mul_of_nonneg_right ho (by omega)
          _ = pM l W i j * pS l x k * pS l p q := by simp only [Int.mul_assoc, Int.mul_comm, Int.mul_left_comm]
    · exact Int.le_refl _
  · intro hc
    rcases hI with ⟨rfl, _, _, hno⟩ | ⟨p, q, rfl, rfl, i1, i2, i3, i4, i5, i6, i7, i8⟩
    · simp at hc
    · right
      rw [if_neg (by omega), decide_eq_false_iff_not] at hc
      refine ⟨p, q, rfl, rfl, i1, i2, i3, i4, i5, i6, i7, fun i j hij hj hs => ?_⟩
      rcases hs with hs | ⟨rfl, rfl⟩
      · exact i8 i j hij hj hs
      · have rp := lv_rng hl (show p < l.length by omega)
        have rq := lv_rng hl i2
        have hlt := mt (cmp_iff hgE i7 g4 i5 (by omega) (by unfold pS; omega)).2 hc
        change ¬ pM l W i j * pS l p q < pM l W p q * pS l i j at hlt
        omega
theorem pairInv_mono {l : List Int} {W : Int} {s1 s2 : Nat → Nat → Prop} {f : GFraction} {a b : Int} (h : pairInv l W s1 f a b) (hs : ∀ i j, i < j → j < l.length → (s1 i j ↔ s2 i j)) : pairInv l W s2 f a b := by
  rcases h with ⟨h1, h2, h3, h4⟩ | ⟨p, q, h1, h2, h3, h4, h5, h6, h7, h8, h9, h10⟩
  · exact Or.inl ⟨h1, h2, h3, fun i j hij hj => mt (hs i j hij hj).2 (h4 i j hij hj)⟩
  · exact Or.inr ⟨p, q, h1, h2, h3, h4, h5, h6, h7, h8, h9, fun i j hij hj hh => h10 i j hij hj ((hs i j hij hj).2 hh)⟩
theorem NearestPair_ok {l : List Int} (hl : lensL l) {W : Int} (h1 : 10 ≤ W) (h2 : W ≤ 400) :
    (l.length < 2 ∧ impl_NearestPair l W = some (0, 0, 3)) ∨ (2 ≤ l.length ∧ ∃ p q : Nat, impl_NearestPair l W = some ((p : Int), (q : Int), 0) ∧ p < q ∧ q < l.length ∧ ∀ i j, i < j → j < l.length → pM l W p q * pS l i j ≤ pM l W i j * pS l p q) := by
  by_cases h0 : l.length < 2
  · left
    refine ⟨h0, ?_⟩
    unfold impl_NearestPair
    rw [lensesOk_ok hl, isFocal_eq, decide_eq_true (show 1 ≤ W ∧ W ≤ 2000 by omega)]
    simp only [Option.bind_some, if_true, Bool.not_true, Bool.false_eq_true, if_false]
    rw [if_pos (by omega)]
  · right
    refine ⟨by omega, ?_⟩
    have h6 := hl.1
    have key : wp (impl_NearestPair l W) (fun r => ∃ p q : Nat, r = ((p : Int), (q : Int), 0) ∧ p < q ∧ q < l.length ∧ ∀ i j, i < j → j < l.length → pM l W p q * pS l i j ≤ pM l W i j * pS l p q) := by
      unfold impl_NearestPair
      rw [lensesOk_ok hl, isFocal_eq, decide_eq_true (show 1 ≤ W ∧ W ≤ 2000 by omega)]
      simp only [Option.bind_some, if_true, Bool.not_true, Bool.false_eq_true, if_false]
      rw [if_neg (by omega)]
      refine wp_loop (fun t : GFraction × Int × Int × Int => ∃ x : Nat, t.2.2.2 = (x : Int) ∧ x ≤ l.length ∧ pairInv l W (fun i j => i < x) t.1 t.2.1 t.2.2.1) (fun t => (l.length - t.2.2.2).toNat) ⟨0, rfl, by omega, Or.inl ⟨rfl, rfl, rfl, fun i j _ _ h => by omega⟩⟩ (by simp only; omega) ?_
      rintro ⟨f, a, b, x'⟩ ⟨x, rfl, hx, hI⟩
      simp only at hI ⊢
      refine wp_ite (fun h => ?_) (fun h => ?_)
      · have hx2 : x < l.length := by omega
        rw [w64_id (n := (x : Int) + 1) (by omega) (by omega)]
        refine wp_loop (fun t : GFraction × Int × Int × Int => ∃ k : Nat, t.2.2.2 = (k : Int) ∧ x + 1 ≤ k ∧ k ≤ l.length ∧ pairInv l W (fun i j => i < x ∨ i = x ∧ j < k) t.1 t.2.1 t.2.2.1) (fun t => (l.length - t.2.2.2).toNat) ⟨x + 1, rfl, by omega, by omega, pairInv_mono hI fun i j hij hj => ⟨fun h => Or.inl h, fun h => by rcases h with h | ⟨rfl, h⟩ <;> omega⟩⟩ (by simp only; omega) ?_
        rintro ⟨f, a, b, k'⟩ ⟨k, rfl, hk1, hk, hJ⟩
        simp only at hJ ⊢
        refine wp_ite (fun h3 => ?_) (fun h3 => ?_)
        · have hk2 : k < l.length := by omega
          obtain ⟨g, n, c, e1, e2, e3, e4, e5⟩ := pair_step hl h1 h2 hJ (x := x) (k := k) (by omega) hk2
          rw [at_lv hx2, Option.bind_some, at_lv hk2, Option.bind_some, e1, Option.bind_some, e2, Option.bind_some, e3, Option.bind_some, w64_id (n := (k : Int) + 1) (by omega) (by omega)]
          have hmono : ∀ i j, i < j → j < l.length → (((i < x ∨ i = x ∧ j < k) ∨ i = x ∧ j = k) ↔ (i < x ∨ i = x ∧ j < k + 1)) := fun i j _ _ => by omega
          refine wp_ite (fun h4 => ?_) (fun h4 => ?_)
          · exact wp_some ⟨⟨k + 1, rfl, by omega, by omega, pairInv_mono (e4 h4) hmono⟩, by simp only; omega⟩
          · exact wp_some ⟨⟨k + 1, rfl, by omega, by omega, pairInv_mono (e5 (by simpa using h4)) hmono⟩, by simp only; omega⟩
        · obtain rfl : k = l.length := by omega
          refine wp_some (wp_some ⟨⟨x + 1, rfl, by omega, pairInv_mono hJ fun i j hij hj => by omega⟩, by simp only; omega⟩)
      · obtain rfl : x = l.length := by omega
        refine wp_some (wp_some ?_)
        rcases hI with ⟨rfl, _, _, hno⟩ | ⟨p, q, rfl, rfl, i1, i2, i3, i4, i5, i6, i7, i8⟩
        · exact absurd (show 0 < l.length by omega) (hno 0 1 (by omega) (by omega))
        · exact ⟨p, q, rfl, i1, i2, fun i j hij hj => i8 i j hij hj (by omega)⟩
    obtain ⟨r, hr, p, q, rfl, k1, k2, k3⟩ := key
    exact ⟨p, q, hr, k1, k2, k3⟩
end Go.Vs.G
