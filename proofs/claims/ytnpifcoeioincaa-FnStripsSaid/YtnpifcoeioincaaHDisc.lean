/- Discs: what is seen through slits. No conditions. -/
import Derived.Test.YtnpifcoeioincaaHRates
namespace Go.Vs.G
open Go Go.Vs

theorem discOk_eq (p s : Int) : impl_discOk p s = some (decide (1 ≤ p ∧ p ≤ 48 ∧ 1 ≤ s ∧ s ≤ 48)) := by
  unfold impl_discOk
  rw [within_eqR, Option.bind_some, within_eqR]
  simp only [decide_eq_true_eq, Option.bind_some]
  split
  · rename_i h; simp [h]
  · rename_i h; simp; omega
theorem discOk_true {p s : Int} (h : 1 ≤ p) (h1 : p ≤ 48) (h2 : 1 ≤ s) (h3 : s ≤ 48) : impl_discOk p s = some true := by
  rw [discOk_eq]; simp [h, h1, h2, h3]

/-- the picture that is nearest -/
def nst (p s k : Int) : Int := (2 * k * p + s) / (2 * s)
theorem nst_lo {p s k : Int} (hs : 1 ≤ s) : 2 * (nst p s k * s - k * p) ≤ s := by
  have h := Int.mul_ediv_self_le (x := 2 * k * p + s) (k := 2 * s) (by omega)
  have e : 2 * s * nst p s k = 2 * (nst p s k * s) := by rw [Int.mul_assoc, Int.mul_comm s]
  have e2 : 2 * k * p = 2 * (k * p) := Int.mul_assoc ..
  unfold nst at e ⊢
  omega
theorem nst_hi {p s k : Int} (hs : 1 ≤ s) : -s < 2 * (nst p s k * s - k * p) := by
  have h := Int.lt_mul_ediv_self_add (x := 2 * k * p + s) (k := 2 * s) (by omega)
  have e : 2 * s * nst p s k = 2 * (nst p s k * s) := by rw [Int.mul_assoc, Int.mul_comm s]
  have e2 : 2 * k * p = 2 * (k * p) := Int.mul_assoc ..
  unfold nst at e ⊢
  omega
theorem nst_add {p s k r : Int} (hs : 1 ≤ s) : nst p s (k + r * s) = nst p s k + r * p := by
  unfold nst
  rw [show 2 * (k + r * s) * p + s = 2 * k * p + s + 2 * s * (r * p) by
    rw [Int.mul_add, Int.add_mul]
    have : 2 * (r * s) * p = 2 * s * (r * p) := by simp only [Int.mul_assoc, Int.mul_comm, Int.mul_left_comm]
    omega]
  rw [Int.add_mul_ediv_left _ _ (by omega)]
theorem nst_nonneg {p s k : Int} (hs : 1 ≤ s) (hk : 0 ≤ k) (hp : 0 ≤ p) : 0 ≤ nst p s k := by
  unfold nst
  have : 0 ≤ 2 * k * p := Int.mul_nonneg (by omega) hp
  exact Int.ediv_nonneg (by omega) (by omega)
theorem nst_le {p s k : Int} (hs : 1 ≤ s) (hk : 0 ≤ k) (hp : 0 ≤ p) : nst p s k ≤ 2 * k * p + s := by
  have : 0 ≤ 2 * k * p := Int.mul_nonneg (by omega) hp
  exact Int.ediv_le_self _ (by omega)
theorem kp_le {k p : Int} (hk : 0 ≤ k) (hk2 : k ≤ 1000000) (hp : 0 ≤ p) (hp2 : p ≤ 48) : 0 ≤ 2 * k * p ∧ 2 * k * p ≤ 96000000 := by
  have := mul_bd (a := 2 * k) (b := p) (A := 2000000) (B := 48) (by omega) (by omega) (by omega) hp2
  exact ⟨Int.mul_nonneg (by omega) hp, by omega⟩
theorem nearest_eq {p s k : Int} (hp : 0 ≤ p) (hp2 : p ≤ 48) (hs : 1 ≤ s) (hs2 : s ≤ 48) (hk : 0 ≤ k) (hk2 : k ≤ 1000000) : impl_nearest p s k = some (nst p s k) := by
  have hb := kp_le hk hk2 hp hp2
  have h1 := nst_nonneg hs hk hp
  have h2 := nst_le hs hk hp
  unfold impl_nearest
  rw [w64_id (n := 2 * k) (by omega) (by omega), w64_id (n := 2 * k * p) (by omega) (by omega), w64_id (n := 2 * k * p + s) (by omega) (by omega), w64_id (n := 2 * s) (by omega) (by omega), div_ok (by omega), Option.bind_some,
    Int.tdiv_eq_ediv_of_nonneg (by omega)]
  congr 1
  exact w64_id (n := nst p s k) (by omega) (by omega)

/-- what is seen in a turn -/
def ordr (p s : Int) : List Int := tab (fun k => nst p s k % p) s.toNat
theorem ordr_length {p s : Int} (hs : 1 ≤ s) : ((ordr p s).length : Int) = s := by simp [ordr]; omega
theorem ordr_at {p s : Int} {k : Int} (hk : 0 ≤ k) (hk2 : k < s) : at? (ordr p s) k = some (nst p s k % p) := by
  unfold ordr
  rw [tab_at hk (by omega)]
  congr 3; omega
theorem ordr_mem {p s x : Int} (hs : 1 ≤ s) : x ∈ ordr p s ↔ ∃ k, 0 ≤ k ∧ k < s ∧ x = nst p s k % p := by
  unfold ordr tab
  rw [List.mem_map]
  constructor
  · rintro ⟨k, hk, rfl⟩; rw [List.mem_range] at hk; exact ⟨k, by omega, by omega, rfl⟩
  · rintro ⟨k, h0, h1, rfl⟩; refine ⟨k.toNat, by rw [List.mem_range]; omega, ?_⟩
    congr 2; omega
theorem seenOrder_eq {p s : Int} (hp : 1 ≤ p) (hp2 : p ≤ 48) (hs : 1 ≤ s) (hs2 : s ≤ 48) : impl_seenOrder p s = some (ordr p s) := by
  refine eq_of_wp ?_
  unfold impl_seenOrder
  refine wp_loop (fun t : List Int × Int => ∃ k : Nat, t.2 = (k : Int) ∧ (k : Int) ≤ s ∧ t.1 = tab (fun k => nst p s k % p) k) (fun t => (s - t.2).toNat) ⟨0, rfl, by omega, rfl⟩ (by simp; omega) ?_
  rintro ⟨a, i⟩ ⟨k, rfl, hk, rfl⟩
  simp only
  refine wp_ite (fun h => ?_) (fun h => ?_)
  · rw [nearest_eq (by omega) hp2 hs hs2 (by omega) (by omega), Option.bind_some, mod_ok (by omega), Option.bind_some, app_ok (by simp; omega), Option.bind_some,
      Int.tmod_eq_emod_of_nonneg (nst_nonneg hs (by omega) (by omega)), w64_id (by omega) (by omega)]
    exact wp_some ⟨⟨k + 1, rfl, by omega, tab_succ.symm⟩, by simp only; omega⟩
  · refine wp_some (wp_some ?_)
    unfold ordr
    congr 1; omega
theorem SeenOrder_eq {p s : Int} (hp : 1 ≤ p) (hp2 : p ≤ 48) (hs : 1 ≤ s) (hs2 : s ≤ 48) : impl_SeenOrder p s = some (ordr p s, 0) := by
  unfold impl_SeenOrder
  rw [discOk_true hp hp2 hs hs2, Option.bind_some, if_pos rfl, seenOrder_eq hp hp2 hs hs2]
  rfl

/-- a list has a number -/
theorem a2Has_eq (l : List Int) (n : Int) (hl : l.length < 9223372036854775807) : laws_a2Has l n = some (decide (n ∈ l)) := by
  unfold laws_a2Has
  have := scan (body := fun (i1 : Int) =>
     if i1 < (l.length : Int) then
     ((at? l i1).bind fun v1 =>
     if v1 = n then
     (some (.ret true))
     else
     some (.next (w64 (i1 + 1))))
     else
     some (.brk ())) (kb := fun (_ : Unit) => some false) (kr := fun r => some r) (s := 0) (n := l.length) (c := fun i => decide (l[i]? ≠ some n)) (r := true) (by omega) hl ?_ (by simp)
  · simp only [Int.natCast_zero] at this
    refine this.trans ?_
    split
    · rename_i h
      congr 1; symm
      rw [decide_eq_false_iff_not]
      intro hm
      obtain ⟨i, hi, he⟩ := List.getElem_of_mem hm
      have := h i (by omega) hi
      rw [List.getElem?_eq_getElem hi, he] at this
      simp at this
    · rename_i h
      congr 1; symm
      rw [decide_eq_true_eq]
      refine Classical.byContradiction fun hn => h fun i _ hi => ?_
      rw [List.getElem?_eq_getElem hi]
      simp
      intro he
      exact hn (he ▸ List.getElem_mem hi)
  · intro i _ hi
    have h1 : (i : Int) < (l.length : Int) := by omega
    rw [if_pos h1, at_of hi, Option.bind_some, List.getElem?_eq_getElem hi]
    by_cases he : l[i] = n
    · simp [he]
    · simp [he, w64_succ hi hl]
/-- a list rises -/
theorem a2Rises_true (l : List Int) (n : Int) (hl : l.length < 9223372036854775807) (hr : ∀ x, x ∈ l → 0 ≤ x ∧ x < n) (hp : l.Pairwise (· < ·)) : laws_a2Rises l n = some true := by
  unfold laws_a2Rises
  refine eq_of_wp ?_
  refine wp_loop (fun t : Int => ∃ k : Nat, t = (k : Int) ∧ k ≤ l.length) (fun t => (l.length - t).toNat) ⟨0, rfl, by omega⟩ (by omega) ?_
  rintro i ⟨k, rfl, hk⟩
  refine wp_ite (fun h => ?_) (fun h => ?_)
  · have hk2 : k < l.length := by omega
    have h0 := hr _ (List.getElem_mem hk2)
    rw [at_of hk2]
    simp only [Option.bind_some]
    rw [if_neg (by omega), if_neg (by omega)]
    by_cases hk0 : (k : Int) > 0
    · rw [if_pos hk0, w64_id (by omega) (by omega), show (k : Int) - 1 = ((k - 1 : Nat) : Int) by omega, at_of (by omega), Option.bind_some]
      have := List.pairwise_iff_getElem.mp hp (k - 1) k (by omega) hk2 (by omega)
      simp only [Option.bind_some]
      rw [decide_eq_false (by omega), if_neg (by simp), w64_succ hk2 hl]
      exact wp_some ⟨⟨k + 1, rfl, by omega⟩, by omega⟩
    · rw [if_neg hk0]
      simp only [Option.bind_some]
      rw [if_neg (by simp), w64_succ hk2 hl]
      exact wp_some ⟨⟨k + 1, rfl, by omega⟩, by omega⟩
  · exact wp_some (wp_some rfl)

/-- the numbers below n that are not in a list -/
def lacks (l : List Int) (n : Nat) : List Int := ((List.range n).filter fun i : Nat => decide ((i : Int) ∉ l)).map fun i : Nat => (i : Int)
theorem lacks_mem {l : List Int} {n : Nat} {x : Int} : x ∈ lacks l n ↔ 0 ≤ x ∧ x < n ∧ x ∉ l := by
  unfold lacks
  simp only [List.mem_map, List.mem_filter, List.mem_range, decide_eq_true_eq]
  constructor
  · rintro ⟨i, ⟨h1, h2⟩, rfl⟩; exact ⟨by omega, by omega, h2⟩
  · rintro ⟨h0, h1, h2⟩; exact ⟨x.toNat, ⟨by omega, by rw [show ((x.toNat : Nat) : Int) = x by omega]; exact h2⟩, by omega⟩
theorem lacks_length {l : List Int} {n : Nat} : (lacks l n).length ≤ n := by
  unfold lacks
  rw [List.length_map]
  exact Nat.le_trans (List.length_filter_le ..) (by simp)
theorem lacks_pair {l : List Int} {n : Nat} : (lacks l n).Pairwise (· < ·) := by
  unfold lacks
  rw [List.pairwise_map]
  refine List.Pairwise.imp ?_ (List.Pairwise.filter _ List.pairwise_lt_range)
  intro a b h; omega
theorem lacks_succ {l : List Int} {n : Nat} : lacks l (n + 1) = if (n : Int) ∈ l then lacks l n else lacks l n ++ [(n : Int)] := by
  unfold lacks
  rw [List.range_succ, List.filter_append, List.map_append]
  by_cases h : (n : Int) ∈ l <;> simp [h]

theorem MissedPictures_eq {p s : Int} (hp : 1 ≤ p) (hp2 : p ≤ 48) (hs : 1 ≤ s) (hs2 : s ≤ 48) : impl_MissedPictures p s = some (lacks (ordr p s) p.toNat, 0) := by
  refine eq_of_wp ?_
  unfold impl_MissedPictures
  have hlen := ordr_length (p := p) hs
  rw [discOk_true hp hp2 hs hs2, Option.bind_some, if_pos rfl, mk_ok (by omega) (by omega), Option.bind_some, seenOrder_eq hp hp2 hs hs2, Option.bind_some, tab_replicate]
  refine wp_loop (fun t : List Bool × Int => ∃ k : Nat, t.2 = (k : Int) ∧ (k : Int) ≤ s ∧ t.1 = tab (fun i => decide ((i : Int) ∈ (ordr p s).take k)) p.toNat) (fun t => (s - t.2).toNat) ⟨0, rfl, by omega, by simp⟩ (by simp; omega) ?_
  rintro ⟨a, i⟩ ⟨k, rfl, hk, rfl⟩
  simp only
  refine wp_ite (fun h => ?_) (fun h => ?_)
  · have hk2 : k < (ordr p s).length := by omega
    rw [at_of hk2, Option.bind_some]
    have hm := (ordr_mem hs).mp (List.getElem_mem hk2)
    generalize hx : (ordr p s)[k] = x at hm ⊢
    obtain ⟨j, _, _, rfl⟩ := hm
    have h1 := Int.emod_nonneg (nst p s j) (b := p) (by omega)
    have h2 := Int.emod_lt_of_pos (nst p s j) (b := p) (by omega)
    rw [tab_at h1 (by omega), Option.bind_some, w64_id (by omega) (by omega)]
    refine wp_some ⟨⟨k + 1, rfl, by omega, ?_⟩, by simp only; omega⟩
    simp only
    rw [tab_set]
    refine tab_congr fun i hi => ?_
    rw [List.take_add_one, List.getElem?_eq_getElem hk2, hx]
    by_cases e : i = (nst p s j % p).toNat
    · rw [if_pos e]; symm; rw [decide_eq_true_eq]; simp; right; omega
    · rw [if_neg e, decide_eq_decide]
      simp
      intro e2; exact absurd e2 (by omega)
  · obtain rfl : s = (k : Int) := by omega
    refine wp_some ?_
    rw [show List.take k (ordr p k) = ordr p k from List.take_of_length_le (by omega)]
    refine wp_loop (fun t : List Int × Int => ∃ j : Nat, t.2 = (j : Int) ∧ (j : Int) ≤ p ∧ t.1 = lacks (ordr p k) j) (fun t => (p - t.2).toNat) ⟨0, rfl, by omega, rfl⟩ (by simp; omega) ?_
    rintro ⟨a, i⟩ ⟨j, rfl, hj, rfl⟩
    simp only
    refine wp_ite (fun h => ?_) (fun h => ?_)
    · simp only [tab_length] at h
      rw [tab_at (by omega) (by omega), Option.bind_some, Int.toNat_natCast, w64_id (by omega) (by omega)]
      refine wp_ite (fun h2 => ?_) (fun h2 => ?_)
      · refine wp_some ⟨⟨j + 1, rfl, by omega, ?_⟩, by simp only; omega⟩
        rw [lacks_succ, if_pos (by simpa using h2)]
      · rw [app_ok (by have := lacks_length (l := ordr p k) (n := j); simp; omega), Option.bind_some]
        refine wp_some ⟨⟨j + 1, rfl, by omega, ?_⟩, by simp only; omega⟩
        rw [lacks_succ, if_neg (by simpa using h2)]
    · simp only [tab_length] at h
      refine wp_some (wp_some ?_)
      rw [show p.toNat = j by omega]

theorem SeenAt_eq {p s k : Int} (hp : 1 ≤ p) (hp2 : p ≤ 48) (hs : 1 ≤ s) (hs2 : s ≤ 48) (hk : 0 ≤ k) (hk2 : k ≤ 1000000) :
    ∃ f, impl_SeenAt p s k = some (nst p s k % p, f, 0) ∧ Red (nst p s k * s - k * p) s f := by
  unfold impl_SeenAt
  rw [discOk_true hp hp2 hs hs2]
  simp only [Option.bind_some, if_true, within_eqR, hk, hk2, and_self, decide_true, Bool.not_true, Bool.false_eq_true, if_false]
  have hb := kp_le hk hk2 (p := p) (by omega) hp2
  have h1 := nst_nonneg hs hk (p := p) (by omega)
  have h2 := nst_le hs hk (p := p) (by omega)
  have h3 := nst_lo (p := p) (k := k) hs
  have h4 := nst_hi (p := p) (k := k) hs
  have e2 : 2 * k * p = 2 * (k * p) := Int.mul_assoc ..
  rw [nearest_eq (by omega) hp2 hs hs2 hk hk2, Option.bind_some, w64_id (n := nst p s k * s) (by omega) (by omega), w64_id (n := k * p) (by omega) (by omega), w64_id (by omega) (by omega)]
  obtain ⟨f, hf, hr⟩ := impl_lowest_eq (n := nst p s k * s - k * p) (d := s) (by omega) (by omega) (by omega)
  have h5 := hr.den_le (by omega)
  have h6 := hr.num_le (by omega)
  have h7 := hr.pos
  rw [hf, Option.bind_some, checked_ok ⟨by omega, by omega, by omega, by omega, hr.cop⟩]
  simp only [Option.bind_some, if_true]
  rw [mod_ok (by omega), Option.bind_some, Int.tmod_eq_emod_of_nonneg h1]
  exact ⟨f, rfl, hr⟩

theorem l00Max_eq (a b : Int) : spec_l00Max a b = some (max a b) := by
  unfold spec_l00Max
  split <;> congr 1 <;> omega
theorem A2Disc_ok {code : List Int} (h : okL (okI .u8) code) (hl : code.length ≤ 3000) : ∃ p s, spec_A2Disc code = some (p, s) ∧ 1 ≤ p ∧ p ≤ 16 ∧ 1 ≤ s ∧ s ≤ 20 := by
  unfold spec_A2Disc
  rw [l00From_eq, Option.bind_some]
  obtain ⟨v1, s1, e1, a1, b1, k1⟩ := pick_ok (srcOk_from h (by omega)) (by omega) 16
  rw [e1, Option.bind_some]
  obtain ⟨v2, s2, e2, a2, b2, k2⟩ := pick_ok k1 (by omega) 9
  rw [e2, Option.bind_some]
  simp only
  rw [w64_id (n := 1 + v1) (by omega) (by omega), w64_id (n := 1 + v1 + v2) (by omega) (by omega), w64_id (by omega) (by omega), l00Max_eq, Option.bind_some]
  exact ⟨_, _, rfl, by omega, by omega, by omega, by omega⟩

theorem laws_FnSeen_true {code more : List Int} (h1 : okL (okI .u8) code) (h2 : okL (okI .u8) more) : laws_FnSeen code more = some true := by
  refine eq_of_wp ?_
  unfold laws_FnSeen
  obtain ⟨r, hr, hr2⟩ := a2Long_eq code more
  rw [hr, Option.bind_some]
  refine wp_ite (fun h => wp_some rfl) (fun h => ?_)
  obtain ⟨l1, l2⟩ := hr2 (by simpa using h)
  obtain ⟨p, s, hd, p1, p2, s1, s2⟩ := A2Disc_ok h1 l1
  rw [hd, Option.bind_some]
  simp only
  have hlen := ordr_length (p := p) s1
  have hll := lacks_length (l := ordr p s) (n := p.toNat)
  rw [SeenOrder_eq p1 (by omega) s1 (by omega), Option.bind_some, MissedPictures_eq p1 (by omega) s1 (by omega), Option.bind_some]
  simp only [if_true, hlen]
  rw [a2Rises_true _ _ (by omega) (fun x hx => by rw [lacks_mem] at hx; omega) lacks_pair]
  simp only [Option.bind_some, Bool.not_true, Bool.false_eq_true, if_false]
  refine wp_loop (fun t : Int => ∃ k : Nat, t = (k : Int) ∧ (k : Int) ≤ s) (fun t => (s - t).toNat) ⟨0, rfl, by omega⟩ (by omega) ?_
  rintro i ⟨k, rfl, hk⟩
  refine wp_ite (fun h => ?_) (fun h => ?_)
  · obtain ⟨q, hq, q1, q2⟩ := a2At_ok h2 l2 (i := (k : Int)) (n := 9) (by omega) (by omega)
    rw [hq, Option.bind_some]
    have hqs := mul_bd (a := q) (b := s) (A := 9) (B := 20) (by omega) (by omega) (by omega) s2
    have hqs0 : 0 ≤ q * s := Int.mul_nonneg q1 (by omega)
    rw [w64_id (n := q * s) (by omega) (by omega), w64_id (n := (k : Int) + q * s) (by omega) (by omega)]
    obtain ⟨f, hf, hR⟩ := SeenAt_eq (p := p) (s := s) (k := (k : Int) + q * s) p1 (by omega) s1 (by omega) (by omega) (by omega)
    rw [hf, Option.bind_some]
    have hN := nst_add (p := p) (k := (k : Int)) (r := q) s1
    have hoff : nst p s ((k : Int) + q * s) * s - ((k : Int) + q * s) * p = nst p s k * s - k * p := by
      rw [hN, Int.add_mul, Int.add_mul, show q * p * s = q * s * p by simp only [Int.mul_assoc, Int.mul_comm, Int.mul_left_comm]]; omega
    have hmod : nst p s ((k : Int) + q * s) % p = nst p s k % p := by rw [hN, Int.add_mul_emod_self_right]
    rw [hoff] at hR
    rw [hmod]
    have m0 := Int.emod_nonneg (nst p s k) (b := p) (by omega)
    have m1 := Int.emod_lt_of_pos (nst p s k) (b := p) (by omega)
    have b1 := nst_lo (p := p) (k := (k : Int)) s1
    have b2 := nst_hi (p := p) (k := (k : Int)) s1
    have N0 := nst_nonneg (p := p) (k := (k : Int)) s1 (by omega) (by omega)
    have N1 := nst_le (p := p) (k := (k : Int)) s1 (by omega) (by omega)
    have hkp := mul_bd (a := (k : Int)) (b := p) (A := 20) (B := 16) (by omega) (by omega) (by omega) (by omega)
    generalize hNk : nst p s k = N at *
    have d0 := hR.pos
    have d1 := hR.den_le (by omega)
    have n1 := hR.num_le (by omega)
    have he := hR.eq
    have e2 : 2 * (k : Int) * p = 2 * (k * p) := Int.mul_assoc ..
    have x1 : 2 * f.Num ≤ f.Den := by
      refine Int.le_of_mul_le_mul_right (a := s) ?_ (by omega)
      rw [Int.mul_assoc, he, ← Int.mul_assoc, Int.mul_comm f.Den]
      exact Int.mul_le_mul_of_nonneg_right (by omega) (by omega)
    have x2 : -f.Den < 2 * f.Num := by
      refine Int.lt_of_mul_lt_mul_right (a := s) ?_ (by omega)
      rw [Int.mul_assoc, he, ← Int.mul_assoc, Int.neg_mul, Int.mul_comm f.Den, ← Int.neg_mul]
      exact Int.mul_lt_mul_of_pos_right (by omega) d0
    rw [ordr_at (by omega) h]
    simp only [if_true, Option.bind_some]
    rw [hNk, if_pos rfl, if_neg (by omega), if_neg (by omega), if_neg (by omega), if_neg (by omega), w64_id (by omega) (by omega), if_neg (by omega), w64_id (by omega) (by omega)]
    simp only [Option.bind_some]
    rw [if_neg (by simp; omega)]
    have hb1 := mul_bd (a := (k : Int) * p) (b := f.Den) (A := 1000) (B := 20) (by omega) (by omega) (by omega) (by omega)
    have hb2 := mul_bd (a := f.Num) (b := s) (A := 1000000) (B := 20) (by omega) (by omega) (by omega) (by omega)
    have hb3 := mul_bd (a := s) (b := f.Den) (A := 20) (B := 20) (by omega) (by omega) (by omega) (by omega)
    rw [w64_id (n := (k : Int) * p) (by omega) (by omega), w64_id (n := (k : Int) * p * f.Den) (by omega) (by omega), w64_id (n := f.Num * s) (by omega) (by omega), w64_id (n := s * f.Den) (by omega) (by omega), w64_id (by omega) (by omega)]
    have hsum : (k : Int) * p * f.Den + f.Num * s = N * (s * f.Den) := by
      rw [he, ← Int.add_mul, ← Int.mul_assoc]; congr 1; omega
    have hsd : 0 < s * f.Den := Int.mul_pos (by omega) d0
    rw [hsum, mod_ok (by omega), Option.bind_some, Int.mul_tmod_left, if_pos rfl, div_ok (by omega), Int.mul_tdiv_cancel _ (by omega), Option.bind_some, mod_ok (by omega)]
    rw [show IntKind.wrap .i64 N = N from w64_id (by omega) (by omega), Int.tmod_eq_emod_of_nonneg N0]
    simp only [Option.bind_some, decide_true, Bool.not_true, Bool.false_eq_true, if_false]
    rw [w64_id (by omega) (by omega)]
    exact wp_some ⟨⟨k + 1, rfl, by omega⟩, by omega⟩
  · refine wp_some ?_
    refine wp_loop (fun t : Int => ∃ k : Nat, t = (k : Int) ∧ (k : Int) ≤ p) (fun t => (p - t).toNat) ⟨0, rfl, by omega⟩ (by omega) ?_
    rintro i ⟨j, rfl, hj⟩
    refine wp_ite (fun h => ?_) (fun h => ?_)
    · rw [a2Has_eq _ _ (by omega), Option.bind_some, a2Has_eq _ _ (by omega), Option.bind_some]
      have : ((j : Int) ∈ lacks (ordr p s) p.toNat) ↔ ¬ ((j : Int) ∈ ordr p s) := by
        rw [lacks_mem]
        constructor
        · rintro ⟨_, _, h⟩; exact h
        · intro hh; exact ⟨by omega, by omega, hh⟩
      rw [if_neg (by rw [beq_iff_eq, decide_eq_decide, this]; exact fun hc => by by_cases hm : (j : Int) ∈ ordr p s <;> simp [hm] at hc), w64_id (by omega) (by omega)]
      exact wp_some ⟨⟨j + 1, rfl, by omega⟩, by omega⟩
    · exact wp_some (wp_some rfl)
end Go.Vs.G
