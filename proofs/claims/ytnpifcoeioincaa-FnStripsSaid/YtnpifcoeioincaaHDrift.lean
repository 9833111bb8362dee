/- Discs: drifts. No conditions. -/
import Derived.Test.YtnpifcoeioincaaHDisc
namespace Go.Vs.G
open Go Go.Vs

/-- what two flashes are off -/
def dnm (p s : Int) : Int := p - ((2 * p + s - 1) / (2 * s)) * s
theorem dnm_mod (p s : Int) : ∃ q, dnm p s = p - q * s := ⟨_, rfl⟩
theorem dnm_rng {p s : Int} (hs : 1 ≤ s) : -s < 2 * dnm p s ∧ 2 * dnm p s ≤ s := by
  have h := Int.mul_ediv_self_le (x := 2 * p + s - 1) (k := 2 * s) (by omega)
  have h2 := Int.lt_mul_ediv_self_add (x := 2 * p + s - 1) (k := 2 * s) (by omega)
  unfold dnm
  generalize (2 * p + s - 1) / (2 * s) = q at *
  have e : 2 * s * q = 2 * (q * s) := by rw [Int.mul_assoc, Int.mul_comm s]
  omega
theorem dnm_unique {p s d q : Int} (hs : 1 ≤ s) (h : d = p - q * s) (h1 : -s < 2 * d) (h2 : 2 * d ≤ s) : d = dnm p s := by
  obtain ⟨q2, hq⟩ := dnm_mod p s
  have hr := dnm_rng (p := p) hs
  rw [hq] at hr ⊢
  subst h
  by_cases e : q = q2
  · rw [e]
  · exfalso
    have e1 : (q - q2) * s = q * s - q2 * s := Int.sub_mul ..
    rcases Int.lt_or_gt_of_ne e with h | h
    · have := Int.mul_le_mul_of_nonneg_right (a := q - q2) (b := -1) (c := s) (by omega) (by omega)
      omega
    · have := Int.mul_le_mul_of_nonneg_right (a := 1) (b := q - q2) (c := s) (by omega) (by omega)
      omega
theorem driftOf_eq {p s : Int} (hp : 1 ≤ p) (hp2 : p ≤ 48) (hs : 1 ≤ s) (hs2 : s ≤ 48) : ∃ f, impl_driftOf p s = some f ∧ Red (dnm p s) s f := by
  have hr := dnm_rng (p := p) hs
  have h0 : 0 ≤ (2 * p + s - 1) / (2 * s) := Int.ediv_nonneg (by omega) (by omega)
  have h1 : (2 * p + s - 1) / (2 * s) ≤ 2 * p + s - 1 := Int.ediv_le_self _ (by omega)
  unfold impl_driftOf
  rw [w64_id (n := 2 * p) (by omega) (by omega), w64_id (n := 2 * p + s) (by omega) (by omega), w64_id (n := 2 * p + s - 1) (by omega) (by omega), w64_id (n := 2 * s) (by omega) (by omega), div_ok (by omega), Option.bind_some,
    Int.tdiv_eq_ediv_of_nonneg (by omega)]
  rw [show IntKind.wrap .i64 ((2 * p + s - 1) / (2 * s)) = (2 * p + s - 1) / (2 * s) from w64_id (by omega) (by omega)]
  have hm := mul_bd (a := (2 * p + s - 1) / (2 * s)) (b := s) (A := 200) (B := 48) (by omega) (by omega) (by omega) hs2
  rw [w64_id (n := (2 * p + s - 1) / (2 * s) * s) (by omega) (by omega)]
  rw [show p - (2 * p + s - 1) / (2 * s) * s = dnm p s from rfl, w64_id (by omega) (by omega)]
  obtain ⟨f, hf, hR⟩ := impl_lowest_eq (n := dnm p s) (d := s) (by omega) (by omega) (by omega)
  rw [hf]
  exact ⟨f, rfl, hR⟩

theorem red_valid {n d : Int} {f : GFraction} (h : Red n d f) (hd : 1 ≤ d) (hd2 : d ≤ 1000000) (hn : -1000000 ≤ n) (hn2 : n ≤ 1000000) : f.valid := by
  have h5 := h.den_le (by omega)
  have h6 := h.num_le (by omega)
  have h7 := h.pos
  exact ⟨by omega, by omega, by omega, by omega, h.cop⟩
theorem DriftOf_eq {p s : Int} (hp : 1 ≤ p) (hp2 : p ≤ 48) (hs : 1 ≤ s) (hs2 : s ≤ 48) : ∃ f, impl_driftOf p s = some f ∧ impl_DriftOf p s = some (f, 0) ∧ Red (dnm p s) s f := by
  obtain ⟨f, hf, hR⟩ := driftOf_eq hp hp2 hs hs2
  have hr := dnm_rng (p := p) hs
  refine ⟨f, hf, ?_, hR⟩
  unfold impl_DriftOf
  rw [discOk_true hp hp2 hs hs2, Option.bind_some, if_pos rfl, hf, Option.bind_some, checked_ok (red_valid hR hs (by omega) (by omega) (by omega))]
  rfl
theorem fr_beq (a b : GFraction) : (a.Num == b.Num && (a.Den == b.Den && true)) = decide (a = b) := by
  cases a; cases b
  simp only [Bool.and_true, GFraction.mk.injEq]
  rw [Bool.eq_iff_iff]; simp

/-- all slits for a drift -/
def slitsL (p : Int) (d : GFraction) (n : Nat) : List Int := ((List.range n).filter fun i : Nat => decide (1 ≤ i ∧ impl_driftOf p (i : Int) = some d)).map fun i : Nat => (i : Int)
theorem slitsL_mem {p : Int} {d : GFraction} {n : Nat} {x : Int} : x ∈ slitsL p d n ↔ 1 ≤ x ∧ x < n ∧ impl_driftOf p x = some d := by
  unfold slitsL
  simp only [List.mem_map, List.mem_filter, List.mem_range, decide_eq_true_eq]
  constructor
  · rintro ⟨i, ⟨h1, h2, h3⟩, rfl⟩; exact ⟨by omega, by omega, h3⟩
  · rintro ⟨h0, h1, h2⟩; exact ⟨x.toNat, ⟨by omega, by omega, by rw [show ((x.toNat : Nat) : Int) = x by omega]; exact h2⟩, by omega⟩
theorem slitsL_length {p : Int} {d : GFraction} {n : Nat} : (slitsL p d n).length ≤ n := by
  unfold slitsL
  rw [List.length_map]
  exact Nat.le_trans (List.length_filter_le ..) (by simp)
theorem slitsL_pair {p : Int} {d : GFraction} {n : Nat} : (slitsL p d n).Pairwise (· < ·) := by
  unfold slitsL
  rw [List.pairwise_map]
  refine List.Pairwise.imp ?_ (List.Pairwise.filter _ List.pairwise_lt_range)
  intro a b h; omega
theorem slitsL_succ {p : Int} {d : GFraction} {n : Nat} (hn : 1 ≤ n) : slitsL p d (n + 1) = if impl_driftOf p (n : Int) = some d then slitsL p d n ++ [(n : Int)] else slitsL p d n := by
  unfold slitsL
  rw [List.range_succ, List.filter_append, List.map_append]
  by_cases h : impl_driftOf p (n : Int) = some d <;> simp [h, hn]

theorem SlitsForDrift_eq {p : Int} {d : GFraction} (hp : 1 ≤ p) (hp2 : p ≤ 48) (hd : d.valid) : impl_SlitsForDrift p d = some (slitsL p d 49, 0) := by
  refine eq_of_wp ?_
  unfold impl_SlitsForDrift
  rw [ValidFraction_true hd, Option.bind_some, if_pos rfl, discOk_true hp hp2 (by omega) (by omega), Option.bind_some, if_pos rfl]
  refine wp_loop (fun t : List Int × Int => ∃ k : Nat, t.2 = (k : Int) ∧ 1 ≤ k ∧ k ≤ 49 ∧ t.1 = slitsL p d k) (fun t => (49 - t.2).toNat) ⟨1, rfl, by omega, by omega, by simp [slitsL]⟩ (by simp) ?_
  rintro ⟨a, i⟩ ⟨k, rfl, hk1, hk, rfl⟩
  simp only
  refine wp_ite (fun h => ?_) (fun h => ?_)
  · obtain ⟨f, hf, hR⟩ := driftOf_eq (p := p) (s := k) hp hp2 (by omega) (by omega)
    have hl := slitsL_length (p := p) (d := d) (n := k)
    rw [hf, Option.bind_some, fr_beq, w64_id (by omega) (by omega)]
    refine wp_ite (fun h2 => ?_) (fun h2 => ?_)
    · rw [app_ok (by simp; omega), Option.bind_some]
      refine wp_some ⟨⟨k + 1, rfl, by omega, by omega, ?_⟩, by simp only; omega⟩
      simp only
      rw [slitsL_succ hk1, hf, if_pos (by congr 1; simpa using h2)]
    · refine wp_some ⟨⟨k + 1, rfl, by omega, by omega, ?_⟩, by simp only; omega⟩
      simp only
      rw [slitsL_succ hk1, hf, if_neg (by simpa using h2)]
  · obtain rfl : k = 49 := by omega
    exact wp_some (wp_some rfl)

theorem l03Code_ok {p s : Int} (hp : 1 ≤ p) (hp2 : p ≤ 48) (hs : 1 ≤ s) (hs2 : s ≤ 48) : spec_l03Code p s = some 0 := by
  have hin : ∀ n, spec_l03Many n = some (decide (1 ≤ n ∧ n ≤ 48)) := fun n => by
    unfold spec_l03Many spec_l00In; split <;> simp <;> omega
  unfold spec_l03Code
  rw [hin, hin]
  simp [hp, hp2, hs, hs2]
theorem spec_DriftOf_eq {p s : Int} {d : GFraction} (hp : 1 ≤ p) (hp2 : p ≤ 48) (hs : 1 ≤ s) (hs2 : s ≤ 48) (hd : Red (dnm p s) s d) : spec_DriftOf p s = some (d, 0) := by
  unfold spec_DriftOf
  rw [l03Code_ok hp hp2 hs hs2, Option.bind_some, if_pos rfl]
  have key : spec_l03Drift p s = some d := by
    unfold spec_l03Drift
    rw [mod_ok (by omega), Option.bind_some, Int.tmod_eq_emod_of_nonneg (by omega)]
    have m0 := Int.emod_nonneg p (b := s) (by omega)
    have m1 := Int.emod_lt_of_pos p (b := s) (by omega)
    have me := Int.emod_add_mul_ediv p s
    have me2 : s * (p / s) = p / s * s := Int.mul_comm ..
    rw [w64_id (by omega) (by omega)]
    have fin : ∀ n, n = dnm p s → (spec_l02Make n s) = some d := by
      intro n hn
      have hr := dnm_rng (p := p) hs
      obtain ⟨f, hf, hR⟩ := l02Make_eq (n := n) (d := s) (by omega) (by omega) (by omega)
      rw [hf]
      congr 1
      subst hn
      refine Red.unique hR.pos hd.pos hR.cop hd.cop ?_
      have e1 := hR.eq
      have e2 := hd.eq
      refine Int.eq_of_mul_eq_mul_left (a := s) (by omega) ?_
      calc s * (f.Num * d.Den) = (f.Num * s) * d.Den := by simp only [Int.mul_assoc, Int.mul_comm, Int.mul_left_comm]
        _ = (d.Num * s) * f.Den := by rw [e1, e2]; simp only [Int.mul_assoc, Int.mul_comm, Int.mul_left_comm]
        _ = s * (d.Num * f.Den) := by simp only [Int.mul_assoc, Int.mul_comm, Int.mul_left_comm]
    split
    · rw [w64_id (by omega) (by omega), fin]
      · rfl
      · refine dnm_unique (q := p / s + 1) hs ?_ (by omega) (by omega)
        rw [Int.add_mul]; omega
    · rw [fin]
      · rfl
      · exact dnm_unique (q := p / s) hs (by omega) (by omega) (by omega)
  rw [key]; rfl

theorem GhostsOf_eq {p s : Int} {d : GFraction} (hp : 1 ≤ p) (hp2 : p ≤ 48) (hs : 1 ≤ s) (hs2 : s ≤ 48) (hd : Red (dnm p s) s d) : impl_GhostsOf p s = some (d.Den, 0) := by
  unfold impl_GhostsOf
  rw [discOk_true hp hp2 hs hs2, Option.bind_some, if_pos rfl, impl_gcd_eq (by omega) (by omega), Option.bind_some]
  have hg : 0 < (Int.gcd p s : Int) := by
    have : Int.gcd p s ≠ 0 := by
      intro h; rw [Int.gcd_eq_zero_iff] at h; omega
    omega
  obtain ⟨a, b, ha, hb, hab⟩ := div_gcd _ hg rfl
  generalize (Int.gcd p s : Int) = g at hg ha hb
  obtain ⟨q, hq⟩ := dnm_mod p s
  have hbp : 0 < b := pos_of_mul hg (by omega)
  have : d = GFraction.mk (a - q * b) b := by
    refine Red.unique hd.pos hbp hd.cop ?_ ?_
    · simp only
      rw [show a - q * b = a + (-q) * b by rw [Int.neg_mul]; omega]
      rw [Int.gcd_add_mul_right_left]
      exact hab
    · simp only
      have e := hd.eq
      rw [hq] at e
      rw [ha, hb] at e
      refine Int.eq_of_mul_eq_mul_left (a := g) (by omega) ?_
      calc g * (d.Num * b) = d.Num * (g * b) := by simp only [Int.mul_assoc, Int.mul_comm, Int.mul_left_comm]
        _ = (g * a - q * (g * b)) * d.Den := e
        _ = g * ((a - q * b) * d.Den) := by
          rw [← Int.mul_assoc g]; congr 1
          rw [Int.mul_sub]; congr 1; simp only [Int.mul_assoc, Int.mul_comm, Int.mul_left_comm]
  rw [this, hb, div_ok (by omega), Int.mul_tdiv_cancel_left _ (by omega), Option.bind_some]
  have hbs : b ≤ g * b := by
    have := Int.mul_le_mul_of_nonneg_right (a := 1) (b := g) (c := b) (by omega) (by omega)
    omega
  rw [show IntKind.wrap .i64 b = b from w64_id (by omega) (by omega)]

theorem StandsStill_eq {p s : Int} {d : GFraction} (hp : 1 ≤ p) (hp2 : p ≤ 48) (hs : 1 ≤ s) (hs2 : s ≤ 48) (hd : Red (dnm p s) s d) : impl_StandsStill p s = some (decide (d.Num = 0), 0) := by
  unfold impl_StandsStill
  rw [discOk_true hp hp2 hs hs2, Option.bind_some, if_pos rfl, mod_ok (by omega), Option.bind_some, Int.tmod_eq_emod_of_nonneg (by omega)]
  congr 2
  rw [decide_eq_decide]
  have e := hd.eq
  have hpos := hd.pos
  have h1 : d.Num = 0 ↔ dnm p s = 0 := by
    constructor
    · intro h; rw [h, Int.zero_mul] at e
      rcases Int.mul_eq_zero.mp e.symm with h | h <;> omega
    · intro h; rw [h, Int.zero_mul] at e
      rcases Int.mul_eq_zero.mp e with h | h <;> omega
  rw [h1]
  have hr := dnm_rng (p := p) hs
  obtain ⟨q, hq⟩ := dnm_mod p s
  constructor
  · intro h
    have me := Int.emod_add_mul_ediv p s
    have me2 : s * (p / s) = p / s * s := Int.mul_comm ..
    exact (dnm_unique (d := 0) (q := p / s) hs (by omega) (by omega) (by omega)).symm
  · intro h
    rw [show p = q * s by omega]; exact Int.mul_emod_left ..

theorem laws_FnDrifts_true {code more : List Int} (h1 : okL (okI .u8) code) (h2 : okL (okI .u8) more) : laws_FnDrifts code more = some true := by
  refine eq_of_wp ?_
  unfold laws_FnDrifts
  obtain ⟨r, hr, hr2⟩ := a2Long_eq code more
  rw [hr, Option.bind_some]
  refine wp_ite (fun h => wp_some rfl) (fun h => ?_)
  obtain ⟨l1, l2⟩ := hr2 (by simpa using h)
  obtain ⟨p, s, hd, p1, p2, s1, s2⟩ := A2Disc_ok h1 l1
  rw [hd, Option.bind_some]
  simp only
  obtain ⟨f, hf, hf2, hR⟩ := DriftOf_eq (p := p) (s := s) p1 (by omega) s1 (by omega)
  have hrn := dnm_rng (p := p) s1
  have hv := red_valid hR (by omega) (by omega) (by omega) (by omega)
  rw [hf2, Option.bind_some, StandsStill_eq p1 (by omega) s1 (by omega) hR, Option.bind_some, GhostsOf_eq p1 (by omega) s1 (by omega) hR, Option.bind_some, SlitsForDrift_eq p1 (by omega) hv, Option.bind_some]
  have d0 := hR.pos
  have d1 := hR.den_le (by omega)
  have n1 := hR.num_le (by omega)
  have he := hR.eq
  have x1 : 2 * f.Num ≤ f.Den := by
    refine Int.le_of_mul_le_mul_right (a := s) ?_ (by omega)
    rw [Int.mul_assoc, he, ← Int.mul_assoc, Int.mul_comm f.Den]
    exact Int.mul_le_mul_of_nonneg_right (by omega) (by omega)
  have x2 : -f.Den < 2 * f.Num := by
    refine Int.lt_of_mul_lt_mul_right (a := s) ?_ (by omega)
    rw [Int.mul_assoc, he, ← Int.mul_assoc, Int.neg_mul, Int.mul_comm f.Den, ← Int.neg_mul]
    exact Int.mul_lt_mul_of_pos_right (by omega) d0
  simp only [if_true]
  have hb1 := mul_bd (a := p) (b := f.Den) (A := 16) (B := 20) (by omega) (by omega) (by omega) (by omega)
  have hb2 := mul_bd (a := f.Num) (b := s) (A := 20) (B := 20) (by omega) (by omega) (by omega) (by omega)
  have hb3 := mul_bd (a := s) (b := f.Den) (A := 20) (B := 20) (by omega) (by omega) (by omega) (by omega)
  rw [if_neg (by omega), if_neg (by omega), w64_id (n := 2 * f.Num) (by omega) (by omega), if_neg (by omega), w64_id (n := 0 - f.Den) (by omega) (by omega), if_neg (by omega),
    w64_id (n := p * f.Den) (by omega) (by omega), w64_id (n := f.Num * s) (by omega) (by omega), w64_id (n := s * f.Den) (by omega) (by omega), w64_id (n := p * f.Den - f.Num * s) (by omega) (by omega)]
  obtain ⟨q, hq⟩ := dnm_mod p s
  have hsum : p * f.Den - f.Num * s = q * (s * f.Den) := by
    rw [he, ← Int.sub_mul, ← Int.mul_assoc]; congr 1; omega
  have hsd : 0 < s * f.Den := Int.mul_pos (by omega) d0
  have hlen := slitsL_length (p := p) (d := f) (n := 49)
  rw [hsum, mod_ok (by omega), Option.bind_some, Int.mul_tmod_left, if_pos rfl, if_pos (by simp), a2Has_eq _ _ (by omega)]
  have hmem : s ∈ slitsL p f 49 := slitsL_mem.mpr ⟨by omega, by omega, hf⟩
  simp only [hmem, decide_true, Option.bind_some, Bool.not_true, Bool.false_eq_true, if_false]
  refine wp_loop (fun t : Int => ∃ k : Nat, t = (k : Int) ∧ k ≤ (slitsL p f 49).length) (fun t => ((slitsL p f 49).length - t).toNat) ⟨0, rfl, by omega⟩ (by omega) ?_
  rintro i ⟨k, rfl, hk⟩
  refine wp_ite (fun h => ?_) (fun h => ?_)
  · have hk2 : k < (slitsL p f 49).length := by omega
    rw [at_of hk2]
    have hm := slitsL_mem.mp (List.getElem_mem hk2)
    have hpair : ∀ h0 : 0 < k, (slitsL p f 49)[k-1]'(by omega) < (slitsL p f 49)[k] := fun h0 => List.pairwise_iff_getElem.mp slitsL_pair (k - 1) k (by omega) hk2 (by omega)
    generalize hx : (slitsL p f 49)[k] = x at hm hpair
    obtain ⟨m1, m2, m3⟩ := hm
    obtain ⟨f2, g1, g2⟩ := driftOf_eq (p := p) (s := x) p1 (by omega) m1 (by omega)
    obtain rfl : f2 = f := by rw [g1] at m3; exact Option.some.inj m3
    rw [Option.bind_some, spec_DriftOf_eq p1 (by omega) m1 (by omega) g2]
    simp only [Option.bind_some, if_true, fr_beq, decide_true]
    by_cases hk0 : (k : Int) > 0
    · rw [if_pos hk0, w64_id (by omega) (by omega), show (k : Int) - 1 = ((k - 1 : Nat) : Int) by omega, at_of (by omega), Option.bind_some]
      have := hpair (by omega)
      simp only [Option.bind_some]
      rw [if_neg (by simp; omega), w64_id (by omega) (by omega)]
      exact wp_some ⟨⟨k + 1, rfl, by omega⟩, by omega⟩
    · rw [if_neg hk0]
      simp only [Option.bind_some]
      rw [if_neg (by simp), w64_id (by omega) (by omega)]
      exact wp_some ⟨⟨k + 1, rfl, by omega⟩, by omega⟩
  · refine wp_some ?_
    obtain ⟨a, ha, hA⟩ := A2Fraction_ok h2 l2
    rw [ha, Option.bind_some]
    obtain ⟨a1, a2, a3, a4, a5⟩ := id hA
    have hb1 := mul_bd (a := a.Num) (b := s) (A := 44) (B := 20) (by omega) (by omega) (by omega) (by omega)
    have hP : ∃ u, impl_PictureRate a s = some (u, 0) ∧ Red (a.Num * s) a.Den u := by
      unfold impl_PictureRate
      rw [ValidFraction_true hA.valid, Option.bind_some, if_pos rfl, discOk_true (by omega) (by omega) s1 (by omega), Option.bind_some, if_pos rfl, w64_id (by omega) (by omega)]
      obtain ⟨u, hu, hU⟩ := impl_lowest_eq (n := a.Num * s) (d := a.Den) (by omega) (by omega) (by omega)
      rw [hu, Option.bind_some, checked_ok (red_valid hU (by omega) (by omega) (by omega) (by omega))]
      exact ⟨u, rfl, hU⟩
    obtain ⟨u, hu, hU⟩ := hP
    have hb2 := mul_bd (a := a.Num * s) (b := f.Num) (A := 44 * 20) (B := 20) (by omega) (by omega) (by omega) (by omega)
    have hb3 := mul_bd (a := a.Den) (b := f.Den) (A := 20) (B := 20) (by omega) (by omega) (by omega) (by omega)
    have hb4 := mul_bd (a := a.Den * f.Den) (b := p) (A := 20 * 20) (B := 16) (by omega) (by omega) (by omega) (by omega)
    have hpos : 0 < a.Den * f.Den * p := Int.mul_pos (Int.mul_pos (by omega) d0) (by omega)
    have hP2 : ∃ v, impl_DriftRate a p s = some (v, 0) ∧ Red (a.Num * s * f.Num) (a.Den * f.Den * p) v := by
      unfold impl_DriftRate
      rw [ValidFraction_true hA.valid, Option.bind_some, if_pos rfl, discOk_true (by omega) (by omega) s1 (by omega), Option.bind_some, if_pos rfl, hf, Option.bind_some,
        w64_id (n := a.Num * s) (by omega) (by omega), w64_id (by omega) (by omega), w64_id (n := a.Den * f.Den) (by omega) (by omega), w64_id (by omega) (by omega)]
      obtain ⟨v, hv, hV⟩ := impl_lowest_eq (n := a.Num * s * f.Num) (d := a.Den * f.Den * p) (by omega) (by omega) (by omega)
      rw [hv, Option.bind_some, checked_ok (red_valid hV (by omega) (by omega) (by omega) (by omega))]
      exact ⟨v, rfl, hV⟩
    obtain ⟨v, hv, hV⟩ := hP2
    rw [hu, Option.bind_some, hv, Option.bind_some]
    have u1 := hU.pos
    have u2 := hU.den_le (by omega)
    have u3 := hU.num_le (by omega)
    have v1 := hV.pos
    have v2 := hV.den_le (by omega)
    have v3 := hV.num_le (by omega)
    have ue := hU.eq
    have ve := hV.eq
    have c1 := mul_bd (a := u.Num) (b := a.Den) (A := 1000) (B := 20) (by omega) (by omega) (by omega) (by omega)
    have c2 := mul_bd (a := a.Num * s) (b := u.Den) (A := 1000) (B := 20) (by omega) (by omega) (by omega) (by omega)
    have c3 := mul_bd (a := v.Num) (b := u.Den) (A := 20000) (B := 20) (by omega) (by omega) (by omega) (by omega)
    have c4 := mul_bd (a := v.Num * u.Den) (b := f.Den) (A := 20000 * 20) (B := 20) (by omega) (by omega) (by omega) (by omega)
    have c5 := mul_bd (a := v.Num * u.Den * f.Den) (b := p) (A := 20000 * 20 * 20) (B := 20) (by omega) (by omega) (by omega) (by omega)
    have c6 := mul_bd (a := u.Num) (b := f.Num) (A := 1000) (B := 20) (by omega) (by omega) (by omega) (by omega)
    have c7 := mul_bd (a := u.Num * f.Num) (b := v.Den) (A := 1000 * 20) (B := 10000) (by omega) (by omega) (by omega) (by omega)
    simp only [if_true]
    rw [if_pos (by omega), w64_id (n := u.Num * a.Den) (by omega) (by omega), w64_id (n := a.Num * s) (by omega) (by omega), w64_id (n := a.Num * s * u.Den) (by omega) (by omega), if_pos ue, if_pos (by omega),
      w64_id (n := v.Num * u.Den) (by omega) (by omega), w64_id (n := v.Num * u.Den * f.Den) (by omega) (by omega), w64_id (n := v.Num * u.Den * f.Den * p) (by omega) (by omega), w64_id (n := u.Num * f.Num) (by omega) (by omega), w64_id (n := u.Num * f.Num * v.Den) (by omega) (by omega)]
    refine wp_some ?_
    rw [decide_eq_true_eq]
    refine Int.eq_of_mul_eq_mul_left (a := a.Den) (by omega) ?_
    calc a.Den * (v.Num * u.Den * f.Den * p) = (v.Num * (a.Den * f.Den * p)) * u.Den := by simp only [Int.mul_assoc, Int.mul_comm, Int.mul_left_comm]
      _ = (a.Num * s * u.Den) * (f.Num * v.Den) := by rw [ve]; simp only [Int.mul_assoc, Int.mul_comm, Int.mul_left_comm]
      _ = a.Den * (u.Num * f.Num * v.Den) := by rw [← ue]; simp only [Int.mul_assoc, Int.mul_comm, Int.mul_left_comm]
end Go.Vs.G
