/- Wheels of light: shares, two wheels, the longest dark. No conditions. -/
import Derived.Test.YtcbacahinmncaaaHBlades
import Derived.Test.YtcbacahinmncaaaHRates
namespace Go.Vs.G
open Go Go.Vs

theorem Red.same {n d : Int} {f g : GFraction} (hf : Red n d f) (hg : Red n d g) (hd : d ≠ 0) : f = g := by
  refine Red.unique hf.pos hg.pos hf.cop hg.cop ?_
  have e1 := hf.eq
  have e2 := hg.eq
  refine Int.eq_of_mul_eq_mul_left (a := d) hd ?_
  calc d * (f.Num * g.Den) = (f.Num * d) * g.Den := by simp only [Int.mul_assoc, Int.mul_comm, Int.mul_left_comm]
    _ = (g.Num * d) * f.Den := by rw [e1, e2]; simp only [Int.mul_assoc, Int.mul_comm, Int.mul_left_comm]
    _ = d * (g.Num * f.Den) := by simp only [Int.mul_assoc, Int.mul_comm, Int.mul_left_comm]
/-- both make the same fraction -/
theorem make_same {n d : Int} (hd : 0 < d) (hn1 : n.natAbs ≤ 9223372036854775807) (hd1 : d ≤ 9223372036854775807) : ∃ f, impl_lowest n d = some f ∧ spec_l02Make n d = some f ∧ Red n d f := by
  obtain ⟨f, h1, h2⟩ := impl_lowest_eq (n := n) (d := d) (by omega) (by omega) (by omega)
  obtain ⟨g, h3, h4⟩ := l02Make_eq hd hn1 hd1
  obtain rfl := Red.same h2 h4 (by omega)
  exact ⟨f, h1, h3, h2⟩
theorem l02Ok_eq (f : GFraction) : ∃ b, spec_l02Ok f = some b ∧ (b = true ↔ f.valid) := by
  unfold spec_l02Ok
  simp only [l00In_eqB, Option.bind_some, decide_eq_true_eq, GFraction.valid]
  split
  · split
    · have hs : spec_l00Size f.Num = some (f.Num.natAbs : Int) := by
        unfold spec_l00Size; split
        · rw [w64_id (by omega) (by omega)]; congr 1; omega
        · congr 1; omega
      rw [hs, Option.bind_some, spec_l00Gcd_eq (by omega) (by omega) (by omega), Option.bind_some]
      have hg0 : Int.gcd (f.Num.natAbs : Int) f.Den = Int.gcd f.Num f.Den := by simp [Int.gcd]
      rw [hg0]
      exact ⟨_, rfl, by simp; omega⟩
    · exact ⟨_, rfl, by simp; omega⟩
  · exact ⟨_, rfl, by simp; omega⟩

/- counting -/
theorem count_add (c : Nat → Bool) (m : Nat) : ∀ n, count c (m + n) = count c m + count (fun i => c (m + i)) n
  | 0 => rfl
  | n + 1 => by
    have := count_add c m n
    rw [show m + (n + 1) = (m + n) + 1 from rfl]
    simp only [count, this]
    split <;> omega
theorem count_congr {c d : Nat → Bool} : ∀ n, (∀ i, i < n → c i = d i) → count c n = count d n
  | 0, _ => rfl
  | n + 1, h => by simp only [count]; rw [count_congr n (fun i hi => h i (by omega)), h n (by omega)]
theorem count_and_le (a b : Nat → Bool) : ∀ n, count (fun i => a i && b i) n ≤ count a n
  | 0 => Nat.le_refl _
  | n + 1 => by
    have := count_and_le a b n
    simp only [count]
    by_cases ha : a n = true <;> by_cases hb : b n = true <;> simp [ha, hb] <;> omega
theorem count_and_le' (a b : Nat → Bool) : ∀ n, count (fun i => a i && b i) n ≤ count b n
  | 0 => Nat.le_refl _
  | n + 1 => by
    have := count_and_le' a b n
    simp only [count]
    by_cases ha : a n = true <;> by_cases hb : b n = true <;> simp [ha, hb] <;> omega
theorem count_and_ge (a b : Nat → Bool) : ∀ n, count a n + count b n ≤ count (fun i => a i && b i) n + n
  | 0 => Nat.le_refl _
  | n + 1 => by
    have := count_and_ge a b n
    simp only [count]
    by_cases ha : a n = true <;> by_cases hb : b n = true <;> simp [ha, hb] <;> omega
theorem count_period {P w : Nat} (hP : 0 < P) (hw : w ≤ P) : ∀ n, count (fun i => decide (i % P < w)) n = (n / P) * w + min (n % P) w
  | 0 => by simp [count]
  | n + 1 => by
    have ih := count_period hP hw n
    simp only [count, ih, decide_eq_true_eq]
    have hm := Nat.mod_lt n hP
    have hd := Nat.div_add_mod n P
    by_cases h : n % P + 1 = P
    · have e1 : (n + 1) / P = n / P + 1 := by
        rw [show n + 1 = P * (n / P + 1) by rw [Nat.mul_add]; omega]
        rw [Nat.mul_div_cancel_left _ hP]
      have e2 : (n + 1) % P = 0 := by
        rw [show n + 1 = P * (n / P + 1) by rw [Nat.mul_add]; omega]
        exact Nat.mul_mod_right ..
      rw [e1, e2, Nat.add_mul]
      split <;> omega
    · have e1 : (n + 1) / P = n / P := by
        rw [show n + 1 = (n % P + 1) + P * (n / P) by omega]
        rw [Nat.add_mul_div_left _ _ hP, Nat.div_eq_of_lt (by omega)]; omega
      have e2 : (n + 1) % P = n % P + 1 := by
        rw [show n + 1 = (n % P + 1) + P * (n / P) by omega]
        rw [Nat.add_mul_mod_self_left, Nat.mod_eq_of_lt (by omega)]
      rw [e1, e2]
      split <;> omega
/-- in a turn from anywhere -/
theorem count_turn {P w M : Nat} (hP : 0 < P) (hw : w ≤ P) {N : Nat} (hN : N = M * P) (y : Nat) : count (fun i => decide ((i + y) % P < w)) N = M * w := by
  have h := count_add (fun i => decide (i % P < w)) y N
  rw [count_period hP hw, count_period hP hw] at h
  have e1 : (y + N) / P = y / P + M := by rw [hN, Nat.add_mul_div_right _ _ hP]
  have e2 : (y + N) % P = y % P := by rw [hN, Nat.add_mul_mod_self_right]
  rw [e1, e2, Nat.add_mul] at h
  have e3 : count (fun i => decide ((i + y) % P < w)) N = count (fun i => decide ((y + i) % P < w)) N := count_congr N fun i _ => by rw [Nat.add_comm]
  rw [e3]
  omega
theorem good_nat {b : GBlades} (hb : b.good) : ∃ P w M : Nat, 0 < P ∧ w ≤ P ∧ 1000 = M * P ∧ b.Open = ((M * w : Nat) : Int) ∧ ∀ i : Nat, b.isOpen (i : Int) = decide (i % P < w) := by
  have hp := period_pos hb
  obtain ⟨h1, h2, h3, h4, h5, h6⟩ := hb
  have e3 : 0 ≤ b.Open / b.Many := Int.ediv_nonneg (by omega) (by omega)
  refine ⟨(1000 / b.Many).toNat, (b.Open / b.Many).toNat, b.Many.toNat, by omega, ?_, ?_, ?_, fun i => ?_⟩
  · have : b.Open / b.Many ≤ 1000 / b.Many := Int.ediv_le_ediv (by omega) (by omega)
    omega
  · have e := Int.ediv_mul_cancel (Int.dvd_of_emod_eq_zero h3)
    have : ((b.Many.toNat * (1000 / b.Many).toNat : Nat) : Int) = 1000 := by
      rw [Int.natCast_mul, Int.toNat_of_nonneg (by omega), Int.toNat_of_nonneg (by omega), Int.mul_comm]; exact e
    omega
  · have e := Int.ediv_mul_cancel (Int.dvd_of_emod_eq_zero h6)
    rw [Int.natCast_mul, Int.toNat_of_nonneg (by omega), Int.toNat_of_nonneg (by omega), Int.mul_comm]; exact e.symm
  · unfold GBlades.isOpen
    rw [decide_eq_decide]
    have : (i : Int) % (1000 / b.Many) = ((i % (1000 / b.Many).toNat : Nat) : Int) := by
      rw [Int.natCast_emod, Int.toNat_of_nonneg (by omega)]
    rw [this]; omega
/-- all open parts are the share of light -/
theorem count_open {b : GBlades} (hb : b.good) (y : Nat) {N : Nat} (hN : N = 1000) : (count (fun i => b.isOpen ((i : Int) + y)) N : Int) = b.Open := by
  obtain ⟨P, w, M, h1, h2, h3, h4, h5⟩ := good_nat hb
  rw [h4]
  congr 1
  refine Eq.trans (count_congr N fun i _ => ?_) (count_turn (M := M) h1 h2 (hN.trans h3) y)
  exact h5 (i + y)
theorem bothOpen_bd {a b : GBlades} (ha : a.good) (hb : b.good) {y : Int} (h0 : 0 ≤ y) : (bothOpen a b y : Int) ≤ a.Open ∧ (bothOpen a b y : Int) ≤ b.Open ∧ a.Open + b.Open - 1000 ≤ bothOpen a b y := by
  have key : ∀ N : Nat, N = 1000 → (count (fun i => a.isOpen i && b.isOpen ((i : Int) + y)) N : Int) ≤ a.Open ∧ (count (fun i => a.isOpen i && b.isOpen ((i : Int) + y)) N : Int) ≤ b.Open ∧ a.Open + b.Open - N ≤ (count (fun i => a.isOpen i && b.isOpen ((i : Int) + y)) N : Int) := by
    intro N hN
    have e1 := count_open ha 0 hN
    have e2 := count_open hb y.toNat hN
    rw [Int.toNat_of_nonneg h0] at e2
    simp only [Int.natCast_zero, Int.add_zero] at e1
    have f1 := count_and_le (fun i => a.isOpen i) (fun i => b.isOpen ((i : Int) + y)) N
    have f2 := count_and_le' (fun i => a.isOpen i) (fun i => b.isOpen ((i : Int) + y)) N
    have f3 := count_and_ge (fun i => a.isOpen i) (fun i => b.isOpen ((i : Int) + y)) N
    omega
  unfold bothOpen
  exact key 1000 rfl

/-- open parts from one to another -/
theorem openLoop {α R : Type} {b : GBlades} {f t : Int} (h0 : 0 ≤ f) (h1 : f ≤ t) (h2 : t ≤ 1000) {kb : Int → Option α} {kr : R → Option α} {body : Int × Int → Option (Step (Int × Int) Int R)}
    (hb : ∀ (m i : Int), 0 ≤ m → m ≤ 1000 → f ≤ i → i < t → body (m, i) = some (.next (if b.isOpen i = true then m + 1 else m, i + 1)))
    (he : ∀ m, body (m, t) = some (.brk m)) : onL (loop body loopLim (0, f)) kb kr = kb (count (fun i => b.isOpen ((i : Int) + f)) (t - f).toNat) := by
  have := loop_brk (body := body) (fun j => ((count (fun i => b.isOpen ((i : Int) + f)) j : Int), f + (j : Int))) (b := (count (fun i => b.isOpen ((i : Int) + f)) (t - f).toNat : Int)) (t - f).toNat (by omega) (fun j hj => by
    have hbd := count_le (fun i => b.isOpen ((i : Int) + f)) j
    rw [hb _ _ (by omega) (by omega) (by omega) (by omega)]
    simp only [count]
    rw [Int.add_comm f]
    split <;> simp <;> omega) (by rw [show f + ((t - f).toNat : Int) = t by omega]; exact he _)
  have e0 : ((count (fun i => b.isOpen ((i : Int) + f)) 0 : Int), f + ((0 : Nat) : Int)) = (0, f) := by simp [count]
  rw [e0] at this
  exact (congrArg (fun o => onL o kb kr) this)
theorem OpenParts_ok {b : GBlades} (hb : b.good) {f t : Int} (h0 : 0 ≤ f) (h1 : f ≤ t) (h2 : t ≤ 1000) : impl_OpenParts b f t = some ((count (fun i => b.isOpen ((i : Int) + f)) (t - f).toNat : Int), 0) := by
  unfold impl_OpenParts
  obtain ⟨r, e1, e2⟩ := ValidBlades_eq b
  rw [e1, Option.bind_some, e2.2 hb, if_pos rfl, if_pos h0, if_pos h1]
  simp only [h2, decide_true, Bool.not_true, Option.bind_some, Bool.false_eq_true, if_false]
  refine openLoop h0 h1 h2 (fun m i hm0 hm hi hi2 => ?_) (fun m => by simp)
  simp only
  rw [if_pos hi2, impl_isOpen_eq hb (by omega), Option.bind_some, w64_id (n := i + 1) (by omega) (by omega), w64_id (n := m + 1) (by omega) (by omega)]
  split <;> rfl

/- the same on both sides -/
theorem LitShare_same (b : GBlades) : ∃ f c, impl_LitShare b = some (f, c) ∧ spec_LitShare b = some (f, c) ∧ (c = 0 → b.good ∧ Red b.Open 1000 f) := by
  unfold impl_LitShare spec_LitShare
  obtain ⟨r, e1, e2⟩ := ValidBlades_eq b
  obtain ⟨q, f1, f2⟩ := l09Ok_eq b
  obtain rfl : r = q := by rw [Bool.eq_iff_iff, e2, f2]
  rw [e1, f1, Option.bind_some, Option.bind_some]
  split
  · rename_i h
    have hg := e2.1 h
    obtain ⟨f, g1, g2, g3⟩ := make_same (n := b.Open) (d := 1000) (by omega) (by have := hg.2.2.2; omega) (by omega)
    rw [g1, g2]
    exact ⟨f, 0, rfl, rfl, fun _ => ⟨hg, g3⟩⟩
  · exact ⟨_, _, rfl, rfl, fun h => by cases h⟩
theorem codes_same (b : GBlades) (f : GFraction) : ∃ r c, impl_ValidBlades b = some r ∧ impl_rateCode r f 1 = some c ∧ spec_l09Code b f = some c ∧ (c = 0 → b.good ∧ f.valid ∧ 1 ≤ f.Num ∧ f.Num ≤ 1000 ∧ f.Den ≤ 1000) := by
  obtain ⟨r, e1, e2⟩ := ValidBlades_eq b
  obtain ⟨q, f1, f2⟩ := l09Ok_eq b
  obtain rfl : r = q := by rw [Bool.eq_iff_iff, e2, f2]
  obtain ⟨u, g1, g2⟩ := ValidFraction_eq f
  obtain ⟨v, k1, k2⟩ := l02Ok_eq f
  obtain rfl : u = v := by rw [Bool.eq_iff_iff, g2, k2]
  unfold impl_rateCode spec_l09Code impl_isRate spec_l09Rate
  rw [e1, f1, g1, k1]
  simp only [Option.bind_some, within_eqR, l00In_eqB]
  cases r with
  | false => exact ⟨_, _, rfl, rfl, rfl, fun h => by cases h⟩
  | true =>
    cases u with
    | false => exact ⟨_, _, rfl, rfl, rfl, fun h => by cases h⟩
    | true =>
      refine ⟨true, if 1 ≤ f.Num ∧ f.Num ≤ 1000 ∧ f.Den ≤ 1000 then 0 else 2, rfl, ?_, ?_, ?_⟩
      · simp only [if_true, Bool.not_true, Option.bind_some, Bool.false_eq_true, if_false, decide_eq_true_eq]
        by_cases h1 : 1 ≤ f.Num ∧ f.Num ≤ 1000
        · by_cases h2 : f.Den ≤ 1000 <;> simp [h1, h2]
        · have : ¬ (1 ≤ f.Num ∧ f.Num ≤ 1000 ∧ f.Den ≤ 1000) := by omega
          simp [h1, this]
      · simp only [if_true, Bool.not_true, Option.bind_some, Bool.false_eq_true, if_false, decide_eq_true_eq]
        by_cases h1 : 1 ≤ f.Num ∧ f.Num ≤ 1000
        · by_cases h2 : f.Den ≤ 1000 <;> simp [h1, h2]
        · have : ¬ (1 ≤ f.Num ∧ f.Num ≤ 1000 ∧ f.Den ≤ 1000) := by omega
          simp [h1, this]
      · split
        · rename_i h; exact fun _ => ⟨e2.1 rfl, g2.1 rfl, h.1, h.2.1, h.2.2⟩
        · intro h; cases h
theorem LongestDark_same (b : GBlades) (f : GFraction) : ∃ g c, impl_LongestDark b f = some (g, c) ∧ spec_LongestDark b f = some (g, c) ∧ (c = 0 → 0 ≤ g.Num) := by
  obtain ⟨r, c, e1, e2, e3, e4⟩ := codes_same b f
  unfold impl_LongestDark spec_LongestDark
  rw [e1, Option.bind_some, e2, e3, Option.bind_some, Option.bind_some]
  split
  · rename_i h
    obtain ⟨⟨h1, h2, h3, h4, h5, h6⟩, hv, n1, n2, n3⟩ := e4 h
    have d1 := hv.1
    rw [w64_id (n := 1000 - b.Open) (by omega) (by omega), div_ok (by omega), Int.tdiv_eq_ediv_of_nonneg (by omega)]
    have q0 : 0 ≤ (1000 - b.Open) / b.Many := Int.ediv_nonneg (by omega) (by omega)
    have q1 : (1000 - b.Open) / b.Many ≤ 1000 - b.Open := Int.ediv_le_self _ (by omega)
    simp only [Option.bind_some]
    rw [show IntKind.wrap .i64 ((1000 - b.Open) / b.Many) = (1000 - b.Open) / b.Many from w64_id (by omega) (by omega)]
    generalize (1000 - b.Open) / b.Many = q at *
    have hb := mul_bd (a := q) (b := f.Den) (A := 999) (B := 1000) (by omega) (by omega) (by omega) (by omega)
    have hb0 : 0 ≤ q * f.Den := Int.mul_nonneg q0 (by omega)
    rw [w64_id (n := q * f.Den) (by omega) (by omega), w64_id (n := 1000 * f.Num) (by omega) (by omega)]
    obtain ⟨g, g1, g2, g3⟩ := make_same (n := q * f.Den) (d := 1000 * f.Num) (by omega) (by omega) (by omega)
    rw [g1, g2]
    refine ⟨g, 0, rfl, rfl, fun _ => ?_⟩
    have he := g3.eq
    have hp := g3.pos
    have : 0 ≤ g.Num * (1000 * f.Num) := by rw [he]; exact Int.mul_nonneg hb0 (by omega)
    exact Int.nonneg_of_mul_nonneg_left this (by omega)
  · exact ⟨_, c, rfl, rfl, fun h => by contradiction⟩
theorem IsOpenAt_same (b : GBlades) (p : Int) : ∃ v, impl_IsOpenAt b p = some v ∧ spec_IsOpenAt b p = some v := by
  unfold impl_IsOpenAt spec_IsOpenAt
  obtain ⟨r, e1, e2⟩ := ValidBlades_eq b
  obtain ⟨q, f1, f2⟩ := l09Ok_eq b
  obtain rfl : r = q := by rw [Bool.eq_iff_iff, e2, f2]
  rw [e1, f1, Option.bind_some, Option.bind_some]
  split
  · rename_i h
    rw [within_eqR, l00In_eqB, Option.bind_some, Option.bind_some]
    split
    · rename_i h2
      simp only [decide_eq_true_eq] at h2
      rw [impl_isOpen_eq (e2.1 h) h2.1, l09Open_eq (e2.1 h) h2.1]
      exact ⟨_, rfl, rfl⟩
    · exact ⟨_, rfl, rfl⟩
  · exact ⟨_, rfl, rfl⟩
theorem TwoWheels_same (a b : GBlades) (y : Int) : ∃ v c, impl_TwoWheels a b y = some (v, c) ∧ spec_TwoWheels a b y = some (v, c) ∧ (c = 0 → 0 ≤ v ∧ v ≤ a.Open ∧ v ≤ b.Open ∧ a.Open + b.Open - 1000 ≤ v ∧ 0 ≤ a.Open ∧ a.Open ≤ 1000 ∧ 0 ≤ b.Open ∧ b.Open ≤ 1000) := by
  unfold impl_TwoWheels spec_TwoWheels
  obtain ⟨r, e1, e2⟩ := both_valid ValidBlades_eq a b
  obtain ⟨q, f1, f2⟩ := both_valid l09Ok_eq a b
  obtain rfl : r = q := by rw [Bool.eq_iff_iff]; cases r <;> cases q <;> simp_all
  rw [e1, f1, Option.bind_some, Option.bind_some]
  cases r with
  | true => exact ⟨_, _, rfl, rfl, fun h => by cases h⟩
  | false =>
    obtain ⟨ga, gb⟩ := e2.1 rfl
    simp only [Bool.false_eq_true, if_false]
    rw [within_eqR, l00In_eqB, Option.bind_some, Option.bind_some]
    split
    · rename_i h2
      simp only [decide_eq_true_eq] at h2
      rw [impl_bothOpen_eq ga gb h2.1 (by omega), l09Both_eq ga gb h2.1 (by omega)]
      obtain ⟨k1, k2, k3⟩ := bothOpen_bd ga gb h2.1
      have ha := ga.2.2.2
      have hb := gb.2.2.2
      exact ⟨_, _, rfl, rfl, fun _ => ⟨by omega, k1, k2, k3, by omega, by omega, by omega, by omega⟩⟩
    · exact ⟨_, _, rfl, rfl, fun h => by cases h⟩

/- draws -/
theorem one_ok {B : Int} {s : GL00Src} (h : SrcOk B s) (hB : B ≤ 4611686018427387000) (n : Int) : ∃ v s', spec_l00Src_one s n = some (v, s') ∧ SrcOk (B + 2) s' := by
  unfold spec_l00Src_one
  obtain ⟨v, s1, e1, _, _, k1⟩ := pick_ok h hB n
  rw [e1]; exact ⟨_, _, rfl, k1⟩
theorem l09Part_ok {B : Int} {s : GL00Src} (h : SrcOk B s) (hB : B ≤ 4611686018427380000) : ∃ v s', spec_l09Part s = some (v, s') ∧ -1 ≤ v ∧ v ≤ 1001 ∧ SrcOk (B + 4) s' := by
  unfold spec_l09Part
  obtain ⟨v, s1, e1, k1⟩ := one_ok h (by omega) 10
  rw [e1, Option.bind_some]
  simp only
  split
  · obtain ⟨z, s4, e4, hz, k4⟩ := among_ok k1 (by omega) (l := [(-1), 0, 999, 1000, 1001]) (by simp) (by simp)
    rw [e4]
    refine ⟨_, _, rfl, ?_, ?_, k4.mono (by omega)⟩ <;> simp at hz <;> simp only <;> omega
  · obtain ⟨z, s4, e4, z0, z1, k4⟩ := pick_ok k1 (by omega) 1000
    rw [e4]
    refine ⟨_, _, rfl, ?_, ?_, k4.mono (by omega)⟩ <;> simp only <;> omega
theorem l02Draw_ok {B : Int} {s : GL00Src} (h : SrcOk B s) (hB : B ≤ 4611686018427380000) : ∃ f s', spec_l02Draw s = some (f, s') ∧ SrcOk (B + 4) s' := by
  unfold spec_l02Draw
  obtain ⟨v, s1, e1, v0, v1, k1⟩ := pick_ok h (by omega) 60
  rw [e1, Option.bind_some]
  obtain ⟨u, s2, e2, u0, u1, k2⟩ := pick_ok k1 (by omega) 20
  simp only
  rw [e2, Option.bind_some, w64_id (by omega) (by omega), w64_id (by simp only; omega) (by simp only; omega)]
  obtain ⟨f, hf, hr⟩ := l02Make_eq (n := v - 15) (d := 1 + u) (by omega) (by omega) (by omega)
  rw [hf]
  exact ⟨_, _, rfl, k2.mono (by omega)⟩
theorem l02Bent_ok {B : Int} {s : GL00Src} (h : SrcOk B s) (hB : B ≤ 4611686018427370000) : ∃ f s', spec_l02Bent s = some (f, s') ∧ SrcOk (B + 8) s' := by
  unfold spec_l02Bent
  obtain ⟨f, s1, e1, k1⟩ := l02Draw_ok h (by omega)
  rw [e1, Option.bind_some]
  simp only
  obtain ⟨v, s2, e2, _, _, k2⟩ := pick_ok k1 (by omega) 20
  rw [e2, Option.bind_some]
  simp only
  split
  · obtain ⟨z, s4, e4, hz, k4⟩ := among_ok k2 (by omega) (l := [(-1), 0, 1, 1000000, 1000001]) (by simp) (by simp)
    rw [e4]; exact ⟨_, _, rfl, k4.mono (by omega)⟩
  · split
    · obtain ⟨z, s4, e4, hz, k4⟩ := among_ok k2 (by omega) (l := [(-1000001), (-1000000), 1000000, 1000001, (-9223372036854775808)]) (by simp) (by simp)
      rw [e4]; exact ⟨_, _, rfl, k4.mono (by omega)⟩
    · split
      · obtain ⟨z, s4, e4, _, _, k4⟩ := pick_ok k2 (by omega) 5
        rw [e4]; exact ⟨_, _, rfl, k4.mono (by omega)⟩
      · split
        · obtain ⟨z, s4, e4, _, _, k4⟩ := pick_ok k2 (by omega) 3
          rw [e4]; exact ⟨_, _, rfl, k4.mono (by omega)⟩
        · exact ⟨_, _, rfl, k2.mono (by omega)⟩
theorem l09DrawRate_ok {B : Int} {s : GL00Src} (h : SrcOk B s) (hB : B ≤ 4611686018427360000) : ∃ f s', spec_l09DrawRate s = some (f, s') ∧ SrcOk (B + 10) s' := by
  unfold spec_l09DrawRate
  obtain ⟨v, s1, e1, _, _, k1⟩ := pick_ok h (by omega) 12
  rw [e1, Option.bind_some]
  simp only
  split
  · obtain ⟨f, s2, e2, k2⟩ := l02Bent_ok k1 (by omega)
    rw [e2]; exact ⟨_, _, rfl, k2.mono (by omega)⟩
  · split
    · obtain ⟨z, s4, e4, hz, k4⟩ := among_ok k1 (by omega) (l := [(-1), 1, 999, 1000, 1001]) (by simp) (by simp)
      rw [e4]; exact ⟨_, _, rfl, k4.mono (by omega)⟩
    · split
      · obtain ⟨z, s4, e4, hz, k4⟩ := among_ok k1 (by omega) (l := [1, 1000, 1001]) (by simp) (by simp)
        rw [e4]; exact ⟨_, _, rfl, k4.mono (by omega)⟩
      · obtain ⟨z, s4, e4, z0, z1, k4⟩ := pick_ok k1 (by omega) 90
        rw [e4, Option.bind_some]
        simp only
        obtain ⟨x, s5, e5, x0, x1, k5⟩ := pick_ok k4 (by omega) 9
        rw [e5, Option.bind_some]
        simp only
        rw [w64_id (by omega) (by omega), w64_id (by omega) (by omega)]
        obtain ⟨f, hf, hr⟩ := l02Make_eq (n := 1 + z) (d := 1 + x) (by omega) (by omega) (by omega)
        rw [hf]; exact ⟨_, _, rfl, k5.mono (by omega)⟩
theorem fr_beqL (a b : GFraction) : (a.Num == b.Num && (a.Den == b.Den && true)) = decide (a = b) := by
  cases a; cases b
  simp only [Bool.and_true, GFraction.mk.injEq]
  rw [Bool.eq_iff_iff]; simp

theorem laws_FnWheelsOfLight_true {code : List Int} (hc : okL (okI .u8) code) : laws_FnWheelsOfLight code = some true := by
  unfold laws_FnWheelsOfLight laws_f6big
  rw [Option.bind_some]
  split
  · rfl
  · rename_i hl
    simp only [decide_eq_true_eq] at hl
    have h0 := srcOk_from hc (by omega)
    obtain ⟨a, s1, e1, k1⟩ := l09Draw_ok h0 (by omega)
    obtain ⟨b, s2, e2, k2⟩ := l09Draw_ok k1 (by omega)
    obtain ⟨y, s3, e3, _, _, k3⟩ := l09Part_ok k2 (by omega)
    obtain ⟨y', s3', e3', _, _, _⟩ := l09Part_ok k1 (by omega)
    obtain ⟨q, s4, e4, _⟩ := l09DrawRate_ok k1 (by omega)
    have d1 : spec_DrawTwoWheels code = some (a, b, y) := by
      unfold spec_DrawTwoWheels; simp only [l00From_eq, e1, e2, e3, Option.bind_some]
    have d2 : spec_DrawLitShare code = some a := by
      unfold spec_DrawLitShare; simp only [l00From_eq, e1, Option.bind_some]
    have d3 : spec_DrawLongestDark code = some (a, q) := by
      unfold spec_DrawLongestDark spec_l09With; simp only [l00From_eq, e1, e4, Option.bind_some]
    have d4 : spec_DrawIsOpenAt code = some (a, y') := by
      unfold spec_DrawIsOpenAt; simp only [l00From_eq, e1, e3', Option.bind_some]
    obtain ⟨v1, c1, a1, b1, p1⟩ := TwoWheels_same a b y
    obtain ⟨v2, c2, a2, b2, p2⟩ := LitShare_same a
    obtain ⟨v3, c3, a3, b3, p3⟩ := LongestDark_same a q
    obtain ⟨v4, a4, b4⟩ := IsOpenAt_same a y'
    simp only [d1, d2, d3, d4, a1, b1, a2, b2, a3, b3, a4, b4, Option.bind_some, if_true, fr_beqL, decide_true, beq_self_eq_true, Bool.not_true, Bool.false_eq_true, if_false]
    have hX : (if c2 = 0 then (impl_OpenParts a 0 1000).bind fun r14 => if r14.2 = 0 then (if r14.1 = a.Open then (if w64 (v2.Num * 1000) = w64 (r14.1 * v2.Den) then some (.next ()) else some (.ret false)) else some (.ret false)) else some (.ret false)
        else some (.next ()) : Option (Step Unit Empty Bool)) = some (.next ()) := by
      split
      · rename_i h
        obtain ⟨hg, hr⟩ := p2 h
        rw [OpenParts_ok hg (by omega) (by omega) (by omega)]
        have e := count_open hg 0 (N := (1000 - 0 : Int).toNat) rfl
        simp only [Int.natCast_zero] at e
        simp only [Option.bind_some, if_true]
        rw [e, if_pos rfl, hr.eq, if_pos rfl]
      · rfl
    rw [hX, onS_next]
    have hY : (if c3 = 0 then some (decide (v3.Num < 0)) else some false : Option Bool) = some false := by
      split
      · rename_i h; have := p3 h; rw [decide_eq_false (by omega)]
      · rfl
    rw [hY]
    simp only [Option.bind_some, Bool.false_eq_true, if_false]
    split
    · rename_i h
      obtain ⟨g1, g2, g3, g4, g5, g6, g7, g8⟩ := p1 h
      rw [if_pos (by omega), imin_def, if_pos (by omega), w64_id (n := a.Open + b.Open) (by omega) (by omega), w64_id (by omega) (by omega), decide_eq_true (by omega)]
    · rfl
end Go.Vs.G
