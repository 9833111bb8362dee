/- Causes: shares, sure causes, the best question, the fewest causes, causes that are alike: both sides. No conditions. -/
import Derived.Test.YtolinhiimdajhaaHSignsD
namespace Go.Vs
open Go
theorem rise_notin {l : List Int} (h : Rise l) {j : Nat} (hj : j < l.length) : l[j] ∉ l.take j := by
  intro hm
  obtain ⟨i, hi, he⟩ := List.mem_take_iff_getElem.1 hm
  unfold Rise at h
  rw [List.pairwise_iff_getElem] at h
  have := h i j (by omega) hj (by omega)
  omega
theorem mem_take_succ {l : List Int} {j : Nat} (hj : j < l.length) {x : Int} : x ∈ l.take (j + 1) ↔ x ∈ l.take j ∨ x = l[j] := by
  rw [show l.take (j + 1) = l.take j ++ [l[j]] from by rw [List.take_add_one, List.getElem?_eq_getElem hj]; rfl, List.mem_append, List.mem_singleton]
end Go.Vs
namespace Go.Vs.G
open Go Go.Vs
/-- in how many sets a cause is -/
def cnt (E : List Nat) (k : Nat) : Nat := (E.filter fun b => b.testBit k).length
theorem cnt_le (E : List Nat) (k : Nat) : cnt E k ≤ E.length := List.length_filter_le _ _
theorem cnt_snoc (E : List Nat) (b k : Nat) : cnt (E ++ [b]) k = cnt E k + if b.testBit k = true then 1 else 0 := by
  unfold cnt
  rw [List.filter_append, List.length_append]
  congr 1
  by_cases h : b.testBit k = true
  · rw [if_pos h]; simp [h]
  · rw [if_neg h]; simp [h]
theorem cnt_all {E : List Nat} {k : Nat} : cnt E k = E.length ↔ ∀ b, b ∈ E → b.testBit k = true := by
  unfold cnt; exact List.length_filter_eq_length_iff
theorem shares_eq {l : List GCause} {E : List Nat} (hl : l.length ≤ 10) (hE : E.length ≤ 1024) : impl_shares l (E.map (ixs l.length)) = some (tab (fun k => ((cnt E k : Nat) : Int)) l.length) := by
  unfold impl_shares
  rw [mk_ok (by omega) (by omega), Option.bind_some, Int.toNat_natCast, tab_replicate]
  refine eq_of_wp ?_
  refine wp_cnt (fun j => (tab (fun k => ((cnt (E.take j) k : Nat) : Int)) l.length, (j : Int))) E.length (by simp [cnt]) (by omega) (fun j hj => ?_) (b := tab (fun k => ((cnt E k : Nat) : Int)) l.length) ?_ (wp_some rfl)
  · simp only
    rw [if_pos (by simp; omega), at_of (by simpa using hj), Option.bind_some, List.getElem_map]
    generalize hb : E[j] = b
    have hlen := ix_len l.length b
    have hc1 : ∀ k, cnt (E.take j) k ≤ 1024 := fun k => Nat.le_trans (cnt_le _ _) (by simp; omega)
    refine eq_of_wp ?_
    refine wp_cnt (fun i => (tab (fun k => ((cnt (E.take j) k : Nat) : Int) + if (k : Int) ∈ (ixs l.length b).take i then 1 else 0) l.length, (i : Int))) (ixs l.length b).length (by simp) (by omega) (fun i hi => ?_) (b := tab (fun k => ((cnt (E.take (j + 1)) k : Nat) : Int)) l.length) ?_ ?_
    · have hr := ix_rng (ixs l.length b)[i] (List.getElem_mem hi)
      have hn := rise_notin (rise_sl b.testBit l.length) hi
      have hc := hc1 (ixs l.length b)[i].toNat
      have e0 : (((ixs l.length b)[i].toNat : Nat) : Int) = (ixs l.length b)[i] := by omega
      simp only
      rw [if_pos (by omega), at_of hi, Option.bind_some, tab_at hr.1 hr.2, Option.bind_some, Option.bind_some, tab_set, e0, if_neg hn, w64_id (n := (i : Int) + 1) (by omega) (by omega), w64_id (by omega) (by omega)]
      refine congrArg some (congrArg Step.next (Prod.ext ?_ rfl))
      refine tab_congr fun k hk => ?_
      by_cases hk2 : k = (ixs l.length b)[i].toNat
      · rw [if_pos hk2]
        have e : (k : Int) = (ixs l.length b)[i] := by omega
        have hm : (k : Int) ∈ (ixs l.length b).take (i + 1) := (mem_take_succ hi).2 (.inr e)
        rw [if_pos hm, ← hk2]; omega
      · rw [if_neg hk2]
        have e : (k : Int) ≠ (ixs l.length b)[i] := by omega
        by_cases hm : (k : Int) ∈ (ixs l.length b).take i
        · rw [if_pos hm, if_pos ((mem_take_succ hi).2 (.inl hm))]
        · rw [if_neg hm, if_neg (fun h => by rcases (mem_take_succ hi).1 h with h | h; exact hm h; exact e h)]
    · simp only; rw [if_neg (by omega), List.take_length]
      refine congrArg some (congrArg Step.brk ?_)
      refine tab_congr fun k hk => ?_
      have e : E.take (j + 1) = E.take j ++ [b] := by rw [List.take_add_one, List.getElem?_eq_getElem hj, hb]; rfl
      rw [e, cnt_snoc]
      by_cases hm : b.testBit k = true
      · rw [if_pos (mem_sl.2 ⟨k, rfl, hk, hm⟩), if_pos hm]; omega
      · rw [if_neg, if_neg hm]; · omega
        · intro h
          obtain ⟨q, h1, _, h2⟩ := mem_sl'  h
          rw [show q = k by omega] at h2; exact hm h2
    · rw [w64_id (by omega) (by omega)]
      exact wp_some rfl
  · simp only; rw [if_neg (by simp), List.take_length]

open Classical in
noncomputable def sureR (m : Int) (l : List GCause) (seen : List Int) : List Int × Int :=
  if code22 m l [] seen = 0 then (if expl l seen = [] then ([], 3) else (sl (fun k => decide (cnt (expl l seen) k = (expl l seen).length)) l.length, 0)) else ([], code22 m l [] seen)
theorem SureCauses_eq {m : Int} {l : List GCause} {seen : List Int} (hl : l.length ≤ 1048576) (hs : ∀ x, x ∈ l → smallC x) (h2 : seen.length ≤ 1048576) : impl_SureCauses m l seen = some (sureR m l seen) := by
  unfold impl_SureCauses sureR
  rw [causesCode_eq hl hs (by simp) h2, Option.bind_some]
  by_cases h : code22 m l [] seen = 0
  · obtain ⟨hv, _, h3⟩ := code22_zero h
    have hm := hv.1
    have h10 := hv.2.1
    rw [if_pos h, if_pos h, explanations_eq (hv.few hs) h3.rise (h3.small (by omega)) h2, Option.bind_some, List.length_map]
    have hE := expl_len l seen h10
    generalize expl l seen = E at hE
    by_cases he : E = []
    · rw [if_pos (by simp [he]), if_pos he]
    · have : E.length ≠ 0 := fun h => he (List.length_eq_zero_iff.1 h)
      rw [if_neg (by omega), if_neg he, shares_eq h10 hE, Option.bind_some]
      refine eq_of_wp ?_
      simp only [tab_length]
      refine wp_cnt (fun k => (sl (fun k => decide (cnt E k = E.length)) k, (k : Int))) l.length rfl (by omega) (fun k hk => ?_) (b := sl (fun k => decide (cnt E k = E.length)) l.length) ?_ (wp_some rfl)
      · have hlen := sl_len (fun k => decide (cnt E k = E.length)) k
        simp only
        rw [if_pos (by omega), tab_at (by omega) (by omega), Option.bind_some, Int.toNat_natCast, w64_id (by omega) (by omega), app_ok (by simp; omega), sl]
        by_cases hc : cnt E k = E.length
        · rw [if_pos (by omega), if_pos (decide_eq_true hc)]; rfl
        · rw [if_neg (by omega), if_neg (by simp [hc])]; rfl
      · simp only; rw [if_neg (by omega)]
  · rw [if_neg h, if_neg h]
theorem l22Some_eq {m : Int} {l : List GCause} {seen : List Int} (hl : l.length ≤ 1048576) (hs : ∀ x, x ∈ l → smallC x) (h2 : seen.length ≤ 1048576) :
    spec_l22Some m l seen = some (if code22 m l [] seen = 0 then (if expl l seen = [] then ([], 3) else ((expl l seen).map fun b => ((b : Nat) : Int), 0)) else ([], code22 m l [] seen)) := by
  unfold spec_l22Some
  rw [l22Code_eq hl hs h2, Option.bind_some]
  by_cases h : code22 m l [] seen = 0
  · obtain ⟨hv, _, h3⟩ := code22_zero h
    have hm := hv.1
    rw [if_pos h, if_pos h, l22All_eq (hv.few hs) (h3.small (by omega)) h2, Option.bind_some, List.length_map]
    by_cases he : expl l seen = []
    · rw [if_pos (by simp [he]), if_pos he]
    · have : (expl l seen).length ≠ 0 := fun h => he (List.length_eq_zero_iff.1 h)
      rw [if_neg (by omega), if_neg he]
  · rw [if_neg h, if_neg h]
theorem andN_test (i : Nat) : ∀ (r : List Nat) (x : Nat), (r.foldl (· &&& ·) x).testBit i = (x.testBit i && r.all fun b => b.testBit i)
  | [], x => by simp
  | y :: r, x => by rw [List.foldl_cons, andN_test i r, Nat.testBit_and, List.all_cons, Bool.and_assoc]
theorem andN_le : ∀ (r : List Nat) (x : Nat), r.foldl (· &&& ·) x ≤ x
  | [], x => Nat.le_refl _
  | y :: r, x => Nat.le_trans (andN_le r (x &&& y)) Nat.and_le_left
theorem SureCauses_spec {m : Int} {l : List GCause} {seen : List Int} (hl : l.length ≤ 1048576) (hs : ∀ x, x ∈ l → smallC x) (h2 : seen.length ≤ 1048576) : spec_SureCauses m l seen = some (sureR m l seen) := by
  unfold spec_SureCauses sureR
  rw [l22Some_eq hl hs h2, Option.bind_some]
  by_cases h : code22 m l [] seen = 0
  · obtain ⟨hv, _, h3⟩ := code22_zero h
    have hm := hv.1
    have h10 := hv.2.1
    rw [if_pos h, if_pos h]
    have hE := expl_len l seen h10
    have hE2 : ∀ b, b ∈ expl l seen → b < 2 ^ l.length := fun b hb => (mem_expl.1 hb).1
    generalize expl l seen = E at hE hE2
    have hp : 2 ^ l.length ≤ 2 ^ 10 := Nat.pow_le_pow_right (by omega) h10
    have hp2 : (2 : Nat) ^ 10 = 1024 := by decide
    have hp3 : (2 : Nat) ^ 20 = 1048576 := by decide
    have hp4 : (2 : Nat) ^ 62 = 4611686018427387904 := by decide
    match E, hE, hE2 with
    | [], _, _ => rfl
    | x :: r, hE, hE2 =>
      simp only [reduceCtorEq, if_false, if_true, List.map_cons]
      have hx := hE2 x (by simp)
      have ha0 : at? (((x : Nat) : Int) :: r.map fun b => ((b : Nat) : Int)) 0 = some (x : Int) := rfl
      rw [ha0, Option.bind_some]
      have hr : ∀ b, b ∈ r → b < 2 ^ l.length := fun b hb => hE2 b (by simp [hb])
      refine eq_of_wp ?_
      refine wp_cnt (fun j => ((((r.take j).foldl (· &&& ·) x : Nat) : Int), ((j + 1 : Nat) : Int))) r.length (by simp) (by simp at hE; omega) (fun j hj => ?_) (b := ((r.foldl (· &&& ·) x : Nat) : Int)) ?_ ?_
      · have e : r.take (j + 1) = r.take j ++ [r[j]] := by rw [List.take_add_one, List.getElem?_eq_getElem hj]; rfl
        have h5 := andN_le (r.take j) x
        have h6 := hr r[j] (List.getElem_mem hj)
        simp only
        rw [if_pos (by simp; omega), at_of (i := j + 1) (by simp; omega), Option.bind_some]
        simp only [List.getElem_cons_succ, List.getElem_map]
        rw [band_nat (by omega) (by omega), w64_id (by simp at hE; omega) (by simp at hE; omega), e, List.foldl_append]
        rfl
      · simp only; rw [if_neg (by simp), List.take_length]
      · have h5 := andN_le r x
        rw [l22List_eq (by omega), Option.bind_some]
        refine wp_some (Prod.ext ?_ rfl)
        refine rise_eq (rise_sl _ _) (rise_sl _ _) fun v => ?_
        rw [mem_sl, mem_sl]
        have hiff : ∀ j, (r.foldl (· &&& ·) x).testBit j = true ↔ cnt (x :: r) j = (x :: r).length := fun j => by
          rw [andN_test, cnt_all, Bool.and_eq_true, List.all_eq_true]
          constructor
          · rintro ⟨h7, h8⟩ b hb
            rcases List.mem_cons.1 hb with rfl | hb
            · exact h7
            · exact h8 b hb
          · intro h7; exact ⟨h7 x (by simp), fun b hb => h7 b (by simp [hb])⟩
        constructor
        · rintro ⟨j, rfl, hj, hb⟩
          refine ⟨j, rfl, ?_, decide_eq_true ((hiff j).1 hb)⟩
          refine Classical.byContradiction fun hn => ?_
          have h7 := cnt_all.1 ((hiff j).1 hb) x (by simp)
          rw [Nat.testBit_lt_two_pow (Nat.lt_of_lt_of_le hx (Nat.pow_le_pow_right (by omega) (by omega)))] at h7
          cases h7
        · rintro ⟨j, rfl, hj, hb⟩
          exact ⟨j, rfl, by omega, (hiff j).2 (of_decide_eq_true hb)⟩
  · rw [if_neg h, if_neg h]
    simp only [h, if_false]

/-- the best question so far -/
def ownQ (E : List Nat) (k : Nat) : Int := max ((cnt E k : Nat) : Int) ((E.length : Int) - (cnt E k : Nat))
def bq (E : List Nat) (b0 : Int) : Nat → Int × Int
  | 0 => (b0, (E.length : Int))
  | k + 1 => if ownQ E k < (bq E b0 k).2 then ((k : Int), ownQ E k) else bq E b0 k
theorem bq_snd (E : List Nat) (a b : Int) : ∀ k, (bq E a k).2 = (bq E b k).2
  | 0 => rfl
  | k + 1 => by rw [bq, bq, bq_snd E a b k]; split; rfl; exact bq_snd E a b k
theorem bq_fst (E : List Nat) (a b : Int) : ∀ k, ((bq E a k).2 = E.length ∧ (bq E a k).1 = a) ∨ ((bq E a k).2 < E.length ∧ (bq E a k).1 = (bq E b k).1 ∧ 0 ≤ (bq E a k).1 ∧ (bq E a k).1 < k ∧ cnt E (bq E a k).1.toNat < E.length)
  | 0 => .inl ⟨rfl, rfl⟩
  | k + 1 => by
    have ih := bq_fst E a b k
    rw [bq, bq, ← bq_snd E a b k]
    by_cases h : ownQ E k < (bq E a k).2
    · rw [if_pos h, if_pos h]
      have h5 : cnt E k ≤ ownQ E k := by unfold ownQ; omega
      refine .inr ⟨?_, rfl, by simp only; omega, by simp only; omega, ?_⟩
      · simp only; rcases ih with h1 | h1 <;> omega
      · simp only [Int.toNat_natCast]; rcases ih with h1 | h1 <;> omega
    · rw [if_neg h, if_neg h]
      rcases ih with h1 | h1
      · exact .inl h1
      · exact .inr ⟨h1.1, h1.2.1, h1.2.2.1, by omega, h1.2.2.2.2⟩
open Classical in
noncomputable def bestQR (m : Int) (l : List GCause) (seen : List Int) : Int × Int :=
  if code22 m l [] seen = 0 then (if expl l seen = [] then (0, 3) else if (bq (expl l seen) 0 l.length).2 = (expl l seen).length then (0, 6) else ((bq (expl l seen) 0 l.length).1, 0)) else (0, code22 m l [] seen)
theorem BestQuestion_eq {m : Int} {l : List GCause} {seen : List Int} (hl : l.length ≤ 1048576) (hs : ∀ x, x ∈ l → smallC x) (h2 : seen.length ≤ 1048576) : impl_BestQuestion m l seen = some (bestQR m l seen) := by
  unfold impl_BestQuestion bestQR
  rw [causesCode_eq hl hs (by simp) h2, Option.bind_some]
  by_cases h : code22 m l [] seen = 0
  · obtain ⟨hv, _, h3⟩ := code22_zero h
    have hm := hv.1
    have h10 := hv.2.1
    rw [if_pos h, if_pos h, explanations_eq (hv.few hs) h3.rise (h3.small (by omega)) h2, Option.bind_some, List.length_map]
    have hE := expl_len l seen h10
    generalize expl l seen = E at hE
    by_cases he : E = []
    · rw [if_pos (by simp [he]), if_pos he]
    · have : E.length ≠ 0 := fun h => he (List.length_eq_zero_iff.1 h)
      rw [if_neg (by omega), if_neg he, shares_eq h10 hE, Option.bind_some]
      refine eq_of_wp ?_
      simp only [tab_length]
      refine wp_cnt (fun k => ((bq E 0 k).1, (bq E 0 k).2, (k : Int))) l.length rfl (by omega) (fun k hk => ?_) (b := ((bq E 0 l.length).1, (bq E 0 l.length).2)) ?_ ?_
      · have hc := cnt_le E k
        simp only
        rw [if_pos (by omega), tab_at (by omega) (by omega), Option.bind_some, Int.toNat_natCast, w64_id (n := (k : Int) + 1) (by omega) (by omega), w64_id (by omega) (by omega), imax_def, bq]
        show (if ownQ E k < _ then _ else _) = _
        split <;> rfl
      · simp only; rw [if_neg (by omega)]
      · simp only
        split
        · exact wp_some rfl
        · exact wp_some rfl
  · rw [if_neg h, if_neg h]
theorem BestQuestion_spec {m : Int} {l : List GCause} {seen : List Int} (hl : l.length ≤ 1048576) (hs : ∀ x, x ∈ l → smallC x) (h2 : seen.length ≤ 1048576) : spec_BestQuestion m l seen = some (bestQR m l seen) := by
  unfold spec_BestQuestion bestQR
  rw [l22Some_eq hl hs h2, Option.bind_some]
  by_cases h : code22 m l [] seen = 0
  · obtain ⟨hv, _, h3⟩ := code22_zero h
    have hm := hv.1
    have h10 := hv.2.1
    rw [if_pos h, if_pos h]
    have hE := expl_len l seen h10
    have hE2 : ∀ b, b ∈ expl l seen → b < 2 ^ l.length := fun b hb => (mem_expl.1 hb).1
    generalize expl l seen = E at hE hE2
    have hp : 2 ^ l.length ≤ 2 ^ 10 := Nat.pow_le_pow_right (by omega) h10
    have hp2 : (2 : Nat) ^ 10 = 1024 := by decide
    by_cases he : E = []
    · rw [if_pos he, if_pos he]; rfl
    rw [if_neg he, if_neg he]
    simp only [if_true, List.length_map]
    refine eq_of_wp ?_
    refine wp_cnt (fun k => ((bq E (-1) k).1, (bq E (-1) k).2, (k : Int))) l.length rfl (by omega) (fun k hk => ?_) (b := (bq E (-1) l.length).1) ?_ ?_
    · simp only
      rw [if_pos (by omega)]
      refine eq_of_wp ?_
      refine wp_cnt (fun j => (((cnt (E.take j) k : Nat) : Int), (j : Int))) E.length (by simp [cnt]) (by omega) (fun j hj => ?_) (b := ((cnt E k : Nat) : Int)) ?_ ?_
      · have e : E.take (j + 1) = E.take j ++ [E[j]] := by rw [List.take_add_one, List.getElem?_eq_getElem hj]; rfl
        have hb := hE2 E[j] (List.getElem_mem hj)
        have hq : E[j] / 2 ^ k ≤ E[j] := Nat.div_le_self ..
        have hc := cnt_le (E.take j) k
        have ht : (E.take j).length ≤ E.length := List.length_take_le' ..
        simp only
        rw [if_pos (by omega), at_of (by simpa using hj), Option.bind_some, List.getElem_map, shr_nat (by omega), Option.bind_some, w64_id (n := (j : Int) + 1) (by omega) (by omega), and_one (by omega), e, cnt_snoc, Nat.testBit_eq_decide_div_mod_eq, w64_id (by omega) (by omega)]
        refine congrArg some (congrArg Step.next (Prod.ext ?_ rfl))
        simp only [decide_eq_true_eq]
        split <;> omega
      · simp only; rw [if_neg (by omega), List.take_length]
      · have hc := cnt_le E k
        rw [maxB, Option.bind_some, w64_id (n := (k : Int) + 1) (by omega) (by omega), w64_id (by omega) (by omega), bq]
        show wp (if ownQ E k < _ then _ else _) _
        split <;> exact wp_some rfl
    · simp only; rw [if_neg (by omega)]
    · have h6 := bq_fst E (-1) 0 l.length
      have h7 := bq_snd E (-1) 0 l.length
      rcases h6 with h6 | h6
      · rw [if_pos (by omega), if_pos (by omega)]; exact wp_some rfl
      · rw [if_neg (by omega), if_neg (by omega), h6.2.1]; exact wp_some rfl
  · rw [if_neg h, if_neg h]
    simp only [h, if_false]
end Go.Vs.G
