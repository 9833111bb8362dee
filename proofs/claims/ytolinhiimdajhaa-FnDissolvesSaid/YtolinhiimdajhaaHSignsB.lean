/- The signs of causes: both sides. No conditions. -/
import Derived.Test.YtolinhiimdajhaaHSigns
namespace Go.Vs.G
open Go Go.Vs

/-- bits of a list, by the reference -/
theorem l22Bits_eq {l : List Int} (hl : small20 l) (h2 : l.length ≤ 1048576) : spec_l22Bits l = some ((bitsN l : Nat) : Int) := by
  refine eq_of_wp ?_
  unfold spec_l22Bits
  refine wp_cnt (fun k => (((bitsN (l.take k) : Nat) : Int), (k : Int))) l.length (by simp [bitsN]) (by omega) (fun k hk => ?_) (b := ((bitsN l : Nat) : Int)) ?_ (wp_some rfl)
  · simp only
    have h3 := hl l[k] (List.getElem_mem hk)
    have e : l.take (k + 1) = l.take k ++ [l[k]] := by rw [List.take_add_one, List.getElem?_eq_getElem hk]; rfl
    have hs : small20 (l.take k) := fun v hv => hl v (List.mem_of_mem_take hv)
    have ev : l[k] = ((l[k].toNat : Nat) : Int) := by omega
    rw [if_pos (by omega), at_of hk, Option.bind_some, ev, shl_one (by omega), Option.bind_some, w64_id (by omega) (by omega),
      bor_nat (Nat.lt_of_lt_of_le (bitsN_lt hs) (Nat.pow_le_pow_right (by omega) (by omega))) (Nat.pow_lt_pow_right (by omega) (by omega)), e, bitsN_snoc]
    rfl
  · simp only; rw [if_neg (by omega), List.take_length]
theorem l22List_eq {b : Nat} (hb : b < 2 ^ 20) : spec_l22List (b : Int) = some (sl b.testBit 20) := by
  have h4 : (2 : Nat) ^ 20 = 1048576 := by decide
  rw [h4] at hb
  refine eq_of_wp ?_
  unfold spec_l22List
  refine wp_cnt (fun k => (sl b.testBit k, (k : Int))) 20 rfl (by omega) (fun k hk => ?_) (b := sl b.testBit 20) ?_ (wp_some rfl)
  · have := sl_len b.testBit k
    have h5 : b / 2 ^ k ≤ b := Nat.div_le_self ..
    simp only
    rw [if_pos (by omega), shr_nat (by omega), Option.bind_some, w64_id (by omega) (by omega)]
    by_cases hc : b.testBit k = true
    · rw [if_pos ((bit_at (by omega) (by omega)).2 hc), app_ok (by simp; omega), Option.bind_some]
      simp only [sl, hc, if_true]; rfl
    · rw [if_neg (fun h => hc ((bit_at (by omega) (by omega)).1 h))]
      simp only [sl, hc, if_false]; rfl
  · simp only; rw [if_neg (by omega)]

/-- causes with few signs -/
def few20 (l : List GCause) : Prop := l.length ≤ 10 ∧ (∀ x, x ∈ l → small20 x.Signs) ∧ (∀ x, x ∈ l → x.Signs.length ≤ 1048576) ∧ ∀ x, x ∈ l → Rise x.Signs
/-- the signs of cause i -/
def sg (l : List GCause) (i : Nat) : List Int := (l.getD i (GCause.mk [] [])).Signs
theorem sg_get {l : List GCause} {i : Nat} (h : i < l.length) : sg l i = l[i].Signs := by simp [sg, List.getD_eq_getElem?_getD, List.getElem?_eq_getElem h]
theorem sg_small {l : List GCause} (hl : few20 l) {i : Nat} (h : i < l.length) : small20 (sg l i) := by rw [sg_get h]; exact hl.2.1 _ (List.getElem_mem h)
/-- the signs of some causes as bits -/
def sgN (l : List GCause) (c : Nat → Bool) : Nat → Nat
  | 0 => 0
  | k + 1 => if c k = true then sgN l c k ||| bitsN (sg l k) else sgN l c k
theorem sgN_lt {l : List GCause} (hl : few20 l) (c : Nat → Bool) : ∀ {k : Nat}, k ≤ l.length → sgN l c k < 2 ^ 20
  | 0, _ => by simp [sgN]
  | k + 1, h => by
    have ih := sgN_lt hl c (k := k) (by omega)
    rw [sgN]
    split
    · exact Nat.or_lt_two_pow ih (bitsN_lt (sg_small hl (by omega)))
    · exact ih
theorem sgN_test {l : List GCause} (hl : few20 l) (c : Nat → Bool) {i : Nat} : ∀ {k : Nat}, k ≤ l.length → ((sgN l c k).testBit i = true ↔ ∃ j, j < k ∧ c j = true ∧ (i : Int) ∈ sg l j)
  | 0, _ => by simp [sgN]
  | k + 1, h => by
    have ih := sgN_test hl c (i := i) (k := k) (by omega)
    have hb := bitsN_test (l := sg l k) (fun v hv => (sg_small hl (by omega) v hv).1) i
    rw [sgN]
    constructor
    · intro ht
      split at ht
      · rename_i hc
        rw [Nat.testBit_or, Bool.or_eq_true, ih, hb, decide_eq_true_eq] at ht
        rcases ht with ⟨j, h1, h2, h3⟩ | ht
        · exact ⟨j, by omega, h2, h3⟩
        · exact ⟨k, by omega, hc, ht⟩
      · obtain ⟨j, h1, h2, h3⟩ := ih.1 ht; exact ⟨j, by omega, h2, h3⟩
    · rintro ⟨j, h1, h2, h3⟩
      rcases Nat.lt_or_ge j k with h4 | h4
      · have := ih.2 ⟨j, h4, h2, h3⟩
        split
        · rw [Nat.testBit_or, this]; rfl
        · exact this
      · obtain rfl : j = k := by omega
        rw [if_pos h2, Nat.testBit_or, hb, decide_eq_true h3, Bool.or_true]
theorem sgN_congr {l : List GCause} {c d : Nat → Bool} : ∀ {k : Nat}, (∀ i, i < k → c i = d i) → sgN l c k = sgN l d k
  | 0, _ => rfl
  | k + 1, h => by rw [sgN, sgN, h k (by omega), sgN_congr fun i hi => h i (by omega)]
theorem l22Signs_eq {l : List GCause} (hl : few20 l) {b : Nat} (hb : b < 2 ^ 20) : spec_l22Signs l (b : Int) = some ((sgN l b.testBit l.length : Nat) : Int) := by
  have h4 : (2 : Nat) ^ 20 = 1048576 := by decide
  rw [h4] at hb
  have h10 := hl.1
  refine eq_of_wp ?_
  unfold spec_l22Signs
  refine wp_cnt (fun k => (((sgN l b.testBit k : Nat) : Int), (k : Int))) l.length (by simp [sgN]) (by omega) (fun k hk => ?_) (b := ((sgN l b.testBit l.length : Nat) : Int)) ?_ (wp_some rfl)
  · have h5 : b / 2 ^ k ≤ b := Nat.div_le_self ..
    simp only
    rw [if_pos (by omega), shr_nat (by omega), Option.bind_some, w64_id (by omega) (by omega)]
    by_cases hc : b.testBit k = true
    · rw [if_pos ((bit_at (by omega) (by omega)).2 hc), at_of hk, Option.bind_some, l22Bits_eq (hl.2.1 _ (List.getElem_mem hk)) (hl.2.2.1 _ (List.getElem_mem hk)), Option.bind_some,
        bor_nat (Nat.lt_of_lt_of_le (sgN_lt hl _ (by omega)) (Nat.pow_le_pow_right (by omega) (by omega))) (Nat.lt_of_lt_of_le (bitsN_lt (hl.2.1 _ (List.getElem_mem hk))) (Nat.pow_le_pow_right (by omega) (by omega)))]
      simp only [sgN, hc, if_true, sg_get hk]; rfl
    · rw [if_neg (fun h => hc ((bit_at (by omega) (by omega)).1 h))]
      simp only [sgN, hc, if_false]; rfl
  · simp only; rw [if_neg (by omega)]
/-- the signs of some causes, all in a row -/
def cat (l : List GCause) : List Int → List Int
  | [] => []
  | k :: s => sg l k.toNat ++ cat l s
theorem cat_snoc (l : List GCause) (s : List Int) (k : Int) : cat l (s ++ [k]) = cat l s ++ sg l k.toNat := by
  induction s with
  | nil => simp [cat]
  | cons x s ih => rw [List.cons_append, cat, ih, cat, List.append_assoc]
theorem mem_cat {l : List GCause} {x : Int} : ∀ {s : List Int}, x ∈ cat l s ↔ ∃ k, k ∈ s ∧ x ∈ sg l k.toNat
  | [] => by simp [cat]
  | k :: s => by rw [cat, List.mem_append, mem_cat]; simp
theorem sg_len {l : List GCause} (hl : few20 l) {i : Nat} (h : i < l.length) : (sg l i).length ≤ 20 := by
  have h1 := sg_small hl h
  have h2 : Rise (sg l i) := by rw [sg_get h]; exact hl.2.2.2 _ (List.getElem_mem h)
  rw [← sl_bits (n := 20) h2 (fun v hv => by have := h1 v hv; omega)]
  exact sl_len _ _
theorem cat_len {l : List GCause} (hl : few20 l) : ∀ {s : List Int}, (∀ v, v ∈ s → 0 ≤ v ∧ v < l.length) → (cat l s).length ≤ 20 * s.length
  | [], _ => by simp [cat]
  | k :: s, h => by
    have h0 := h k (by simp)
    have h1 := sg_len hl (i := k.toNat) (by omega)
    have h2 := cat_len hl (s := s) (fun v hv => h v (by simp [hv]))
    rw [cat, List.length_append, List.length_cons]; omega
theorem signsOf_eq {l : List GCause} (hl : few20 l) {s : List Int} (hs : ∀ v, v ∈ s → 0 ≤ v ∧ v < l.length) (hn : s.length ≤ 1048576) {c : Nat → Bool} (hc : ∀ i, i < l.length → (c i = true ↔ (i : Int) ∈ s)) :
    impl_signsOf l s = some (sl (sgN l c l.length).testBit 20) := by
  have h10 := hl.1
  refine eq_of_wp ?_
  unfold impl_signsOf
  refine wp_cnt (fun k => (cat l (s.take k), (k : Int))) s.length (by simp [cat]) (by omega) (fun k hk => ?_) (b := cat l s) ?_ ?_
  · have h3 := hs s[k] (List.getElem_mem hk)
    have e : s.take (k + 1) = s.take k ++ [s[k]] := by rw [List.take_add_one, List.getElem?_eq_getElem hk]; rfl
    have h4 := cat_len hl (s := s.take k) (fun v hv => hs v (List.mem_of_mem_take hv))
    have h5 : (s.take k).length ≤ s.length := List.length_take_le' ..
    have ev : s[k] = ((s[k].toNat : Nat) : Int) := by omega
    have hk2 : s[k].toNat < l.length := by omega
    have h6 := sg_len hl hk2
    rw [sg_get hk2] at h6
    simp only
    rw [if_pos (by omega), at_of hk, Option.bind_some, ev, at_of hk2, Option.bind_some, app_ok (by omega), Option.bind_some, w64_id (by omega) (by omega), e, cat_snoc, sg_get hk2]
    rfl
  · simp only; rw [if_neg (by omega), List.take_length]
  · have h4 := cat_len hl hs
    unfold slices_Sort_int64 slices_Compact_int64
    have h5 : (srt (cat l s)).length = (cat l s).length := List.length_mergeSort _
    rw [if_pos (by omega), Option.bind_some, if_pos (by omega), Option.bind_some]
    refine wp_some (rise_eq rise_srt (rise_sl _ _) fun x => ?_)
    rw [mem_srt, mem_cat, mem_sl]
    constructor
    · rintro ⟨k, hk, hx⟩
      have h3 := hs k hk
      have h7 := sg_small hl (i := k.toNat) (by omega) x hx
      refine ⟨x.toNat, by omega, by omega, (sgN_test hl c (Nat.le_refl _)).2 ⟨k.toNat, by omega, (hc _ (by omega)).2 ?_, ?_⟩⟩
      · rwa [show ((k.toNat : Nat) : Int) = k by omega]
      · rwa [show ((x.toNat : Nat) : Int) = x by omega]
    · rintro ⟨j, rfl, hj, hb⟩
      obtain ⟨k, h1, h2, h3⟩ := (sgN_test hl c (Nat.le_refl _)).1 hb
      exact ⟨(k : Int), (hc k h1).1 h2, h3⟩
theorem vcs.few {m : Int} {l : List GCause} (h : vcs m l) (hs : ∀ x, x ∈ l → smallC x) : few20 l := by
  have hb : ∀ x, x ∈ l → rises x.Signs 0 (m - 1) := fun x hx => by
    obtain ⟨i, hi, rfl⟩ := List.getElem_of_mem hx; exact (h.2.2 i hi).2.2.1
  refine ⟨h.2.1, fun x hx v hv => ?_, fun x hx => (hs x hx).2, fun x hx => rise_of fun i hi => (hb x hx i hi).2.2⟩
  obtain ⟨i, hi, rfl⟩ := List.getElem_of_mem hv
  have := hb x hx i hi
  have := h.1
  omega
/-- rising numbers from a to b -/
theorem rises.rise {s : List Int} {a b : Int} (h : rises s a b) : Rise s := rise_of fun i hi => (h i hi).2.2
theorem rises.rng {s : List Int} {a b : Int} (h : rises s a b) {v : Int} (hv : v ∈ s) : a ≤ v ∧ v ≤ b := by
  obtain ⟨i, hi, rfl⟩ := List.getElem_of_mem hv; exact ⟨(h i hi).1, (h i hi).2.1⟩
theorem rises.small {s : List Int} {b : Int} (h : rises s 0 b) (hb : b < 20) : small20 s := fun v hv => by have := h.rng hv; omega
theorem rises.len {s : List Int} {b : Int} (h : rises s 0 b) (hb : b < 20) : s.length ≤ 20 := by
  rw [← sl_bits (n := 20) h.rise (fun v hv => by have := h.small hb v hv; omega)]; exact sl_len _ _
open Classical in
/-- the code of causes, some of them and signs that are seen -/
noncomputable def code22 (m : Int) (l : List GCause) (s seen : List Int) : Int := if vcs m l then (if rises s 0 (l.length - 1) ∧ rises seen 0 (m - 1) then 0 else 2) else 1
theorem rises_nil (a b : Int) : rises [] a b := fun i hi => absurd hi (by simp)
open Classical in
/-- n may be 0 here -/
theorem isIncreasing_eq' {l : List Int} {m : Int} (hl : l.length ≤ 1048576) (hm : 0 ≤ m ∧ m ≤ 16) : impl_isIncreasing l m = some (decide (rises l 0 (m - 1))) := by
  by_cases h : 1 ≤ m
  · exact isIncreasing_eq hl ⟨h, hm.2⟩
  · obtain rfl : m = 0 := by omega
    rw [← l00Rises_eq hl]
    unfold impl_isIncreasing spec_l00Rises
    congr 2
    funext i
    split
    · cases at? l i with
      | none => rfl
      | some v =>
        simp only [Option.bind_some]
        rw [show impl_within v 0 (w64 (0 - 1)) = some (decide (0 ≤ v ∧ v ≤ -1)) by rw [w64_id (by omega) (by omega), withinB]; rfl, show spec_l00In v 0 (0 - 1) = some (decide (0 ≤ v ∧ v ≤ -1)) by rw [inB]; rfl, decide_eq_false (by omega)]
    · rfl
open Classical in
theorem causesCode_eq {m : Int} {l : List GCause} {s seen : List Int} (hl : l.length ≤ 1048576) (hs : ∀ x, x ∈ l → smallC x) (h1 : s.length ≤ 1048576) (h2 : seen.length ≤ 1048576) :
    impl_causesCode m l s seen = some (code22 m l s seen) := by
  unfold impl_causesCode code22
  rw [ValidCauses_eq hl hs, Option.bind_some]
  by_cases hv : vcs m l
  · have h3 := hv.1
    have h4 := hv.2.1
    rw [decide_eq_true hv, if_pos rfl, if_pos hv, isIncreasing_eq' h1 (by omega), Option.bind_some]
    by_cases h5 : rises s 0 (l.length - 1)
    · rw [decide_eq_true h5, if_pos rfl, isIncreasing_eq h2 h3, Option.bind_some]
      by_cases h6 : rises seen 0 (m - 1)
      · rw [decide_eq_true h6, if_pos ⟨h5, h6⟩]; rfl
      · rw [decide_eq_false h6, if_neg (fun h => h6 h.2)]; rfl
    · rw [decide_eq_false h5, if_neg (by simp), if_neg (fun h => h5 h.1)]; rfl
  · rw [decide_eq_false hv, if_neg (by simp), if_neg hv]
open Classical in
theorem l22Code_eq {m : Int} {l : List GCause} {seen : List Int} (hl : l.length ≤ 1048576) (hs : ∀ x, x ∈ l → smallC x) (h2 : seen.length ≤ 1048576) :
    spec_l22Code m l seen = some (code22 m l [] seen) := by
  unfold spec_l22Code code22
  rw [l22Ok_eq hl hs, Option.bind_some]
  by_cases hv : vcs m l
  · have h3 := hv.1
    rw [decide_eq_true hv, if_pos rfl, if_pos hv, w64_id (by omega) (by omega), l00Rises_eq h2, Option.bind_some]
    by_cases h6 : rises seen 0 (m - 1)
    · rw [decide_eq_true h6, if_pos rfl, if_pos ⟨rises_nil _ _, h6⟩]
    · rw [decide_eq_false h6, if_neg (by simp), if_neg (fun h => h6 h.2)]
  · rw [decide_eq_false hv, if_neg (by simp), if_neg hv]
theorem code22_zero {m : Int} {l : List GCause} {s seen : List Int} (h : code22 m l s seen = 0) : vcs m l ∧ rises s 0 (l.length - 1) ∧ rises seen 0 (m - 1) := by
  unfold code22 at h
  split at h
  · rename_i hv
    split at h
    · rename_i h2; exact ⟨hv, h2⟩
    · omega
  · omega
end Go.Vs.G
