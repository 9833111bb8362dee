/- Loops that every law has: sizes, copies, comparisons, marks. No conditions. -/
import Derived.Test.YtcbacahinmncaaaV5
import Derived.Test.YtcbacahinmncaaaDLShutters
namespace Go.Vs
open Go

section
variable {α β S B R : Type}

open Classical in
/-- a loop that looks at each round for a reason to stop -/
theorem scan {body : Int → Option (Step Int Unit R)} {kb : Unit → Option β} {kr : R → Option β} {s n : Nat} {c : Nat → Bool} {r : R} (hs : s ≤ n) (hn : n < 9223372036854775807)
    (hb : ∀ i : Nat, s ≤ i → i < n → body (i : Int) = some (if c i = true then .next ((i : Int) + 1) else .ret r)) (he : body (n : Int) = some (.brk ())) :
    onL (loop body loopLim (s : Int)) kb kr = if ∀ i, s ≤ i → i < n → c i = true then kb () else kr r := by
  by_cases h : ∀ i, s ≤ i → i < n → c i = true
  · rw [if_pos h]
    have := loop_brk (body := body) (fun j => ((s + j : Nat) : Int)) (b := ()) (n - s) (by omega) (fun j hj => by
      rw [hb (s + j) (by omega) (by omega), if_pos (h _ (by omega) (by omega))]; congr 2) (by rw [show s + (n - s) = n by omega]; exact he)
    simp only [Nat.add_zero] at this
    rw [this]; rfl
  · rw [if_neg h]
    have hex : ∃ k, s ≤ k ∧ k < n ∧ c k = false := by
      refine Classical.byContradiction fun hc => h fun i h1 h2 => ?_
      cases hci : c i with
      | true => rfl
      | false => exact absurd ⟨i, h1, h2, hci⟩ hc
    -- the first of them
    have hleast : ∃ k, (s ≤ k ∧ k < n ∧ c k = false) ∧ ∀ j, s ≤ j → j < k → c j = true := by
      obtain ⟨k, hk⟩ := hex
      induction k using Nat.strongRecOn with
      | _ k ih =>
        by_cases hall : ∀ j, s ≤ j → j < k → c j = true
        · exact ⟨k, hk, hall⟩
        · have : ∃ j, s ≤ j ∧ j < k ∧ c j = false := by
            refine Classical.byContradiction fun hc => hall fun i h1 h2 => ?_
            cases hci : c i with
            | true => rfl
            | false => exact absurd ⟨i, h1, h2, hci⟩ hc
          obtain ⟨j, h1, h2, h3⟩ := this
          exact ih j h2 ⟨h1, by omega, h3⟩
    obtain ⟨k, ⟨h1, h2, h3⟩, h4⟩ := hleast
    have := loop_ret' (body := body) (fun j => ((s + j : Nat) : Int)) (r := r) (k - s) (by omega) (fun j hj => by
      rw [hb (s + j) (by omega) (by omega), if_pos (h4 _ (by omega) (by omega))]; congr 2) (by
      rw [show s + (k - s) = k by omega, hb k h1 h2, h3]; rfl)
    simp only [Nat.add_zero] at this
    rw [this]; rfl

theorem w64_succ {i n : Nat} (h : i < n) (hn : n < 9223372036854775807) : w64 ((i : Int) + 1) = (i : Int) + 1 := w64_id (by omega) (by omega)

theorem at_of {l : List α} {i : Nat} (h : i < l.length) : at? l (i : Int) = some l[i] := at_nat h

/-- copies element by element -/
theorem toS (a : List α) (z : α) (f : α → Option α) (hf : ∀ x, x ∈ a → f x = some x) (ha : a.length ≤ 4294967296) :
    ((mk? (a.length : Int) z).bind fun l1 => onL (loop (S := List α × Int) (B := List α) (R := Empty) (fun ((out1, i1) : List α × Int) => if i1 < (a.length : Int) then
      ((at? a i1).bind fun v1 => (f v1).bind fun r1 => (at? out1 i1).bind fun v2 => some (.next (out1.set i1.toNat r1, w64 (i1 + 1)))) else some (.brk out1)) loopLim (l1, 0)) (fun (out2 : List α) => some out2) Empty.elim) = some a := by
  rw [mk_ok (by omega) (by omega), Option.bind_some]
  have h0 : (List.replicate (a.length : Int).toNat z, (0 : Int)) = (fun j : Nat => (a.take j ++ List.replicate (a.length - j) z, (j : Int))) 0 := by simp
  rw [h0]
  rw [loop_brk (fun j : Nat => (a.take j ++ List.replicate (a.length - j) z, (j : Int))) (b := a) a.length (by omega)]
  · rfl
  · intro j hj
    have h1 : (j : Int) < (a.length : Int) := by omega
    simp only [h1, if_true, at_of hj, Option.bind_some, hf a[j] (List.getElem_mem hj)]
    rw [at_of (by simp; omega), Option.bind_some, w64_id (by omega) (by omega)]
    congr 3
    rw [Int.toNat_natCast, List.set_append_right _ _ (by simp; omega)]
    rw [List.take_add_one, List.getElem?_eq_getElem hj, Option.toList, List.append_assoc]
    congr 1
    have e1 : j - (a.take j).length = 0 := by simp; omega
    rw [e1, show a.length - j = (a.length - (j + 1)) + 1 by omega, List.replicate_succ]
    rfl
  · simp

/-- comparisons element by element -/
theorem eqS {f : α → α → Option Bool} {c : α → α → Bool} (a b : List α) (hf : ∀ x, x ∈ a → ∀ y, y ∈ b → f x y = some (c x y)) (ha : a.length < 9223372036854775807) :
    (if (a.length : Int) = (b.length : Int) then (onL (loop (S := Int) (B := Unit) (R := Bool) (fun (i1 : Int) => if i1 < (a.length : Int) then
      ((at? a i1).bind fun v1 => (at? b i1).bind fun v2 => (f v1 v2).bind fun r1 => if r1 then (some (.next (w64 (i1 + 1)))) else some (.ret false)) else some (.brk ())) loopLim 0) (fun (_ : Unit) => some true) (fun r => some r)) else some false)
      = some (decide (a.length = b.length) && (List.zipWith c a b).all id) := by
  by_cases hl : a.length = b.length
  · rw [if_pos (by omega)]
    have := scan (body := fun (i1 : Int) => if i1 < (a.length : Int) then
      ((at? a i1).bind fun v1 => (at? b i1).bind fun v2 => (f v1 v2).bind fun r1 => if r1 then (some (.next (w64 (i1 + 1)))) else some (.ret false)) else some (.brk ()))
      (kb := fun (_ : Unit) => some true) (kr := fun r => some r) (s := 0) (n := a.length) (c := fun i => if h : i < a.length ∧ i < b.length then c a[i] b[i] else true) (r := false) (by omega) ha ?_ (by simp)
    · simp only [Int.natCast_zero] at this
      refine this.trans ?_
      split
      · rename_i h
        congr 1
        symm
        simp only [Bool.and_eq_true, decide_eq_true_eq, hl, true_and, List.all_eq_true, id]
        intro x hx
        obtain ⟨i, hi, rfl⟩ := List.getElem_of_mem hx
        simp only [List.length_zipWith] at hi
        have := h i (by omega) (by omega)
        simpa [show i < a.length ∧ i < b.length by omega] using this
      · rename_i h
        congr 1
        symm
        simp only [Bool.and_eq_false_iff]
        right
        refine Classical.byContradiction fun hc => h fun i _ hi => ?_
        have hall : (List.zipWith c a b).all id = true := by simpa using hc
        rw [List.all_eq_true] at hall
        have hi2 : i < a.length ∧ i < b.length := ⟨hi, by omega⟩
        have := hall (c a[i] b[i]) (by
          rw [List.mem_iff_getElem]
          exact ⟨i, by simp; omega, by simp⟩)
        simpa [hi2] using this
    · intro i _ hi
      have hib : i < b.length := by omega
      have h1 : (i : Int) < (a.length : Int) := by omega
      simp only [h1, if_true, at_of hi, at_of hib, Option.bind_some, hf _ (List.getElem_mem hi) _ (List.getElem_mem hib), hi, hib, and_self, dite_true]
      split
      · rw [w64_id (by omega) (by omega)]
      · rfl
  · rw [if_neg (by omega)]
    simp [hl]

theorem zip_eq [DecidableEq α] {c : α → α → Bool} (hc : ∀ x y, c x y = decide (x = y)) : ∀ (a b : List α), (decide (a.length = b.length) && (List.zipWith c a b).all id) = decide (a = b)
  | [], [] => by simp
  | [], _ :: _ => by simp
  | _ :: _, [] => by simp
  | x :: a, y :: b => by
    have ih := zip_eq hc a b
    simp only [List.length_cons, Nat.add_right_cancel_iff, List.zipWith_cons_cons, List.all_cons, id, List.cons.injEq, hc] at ih ⊢
    by_cases hxy : x = y
    · simp [hxy, ih]
    · simp [hxy]

/-- sizes -/
theorem szS (a : List α) (f : α → Int → Option Int) {left : Int} (h0 : 0 ≤ left) (h1 : left ≤ 1048576) (ha : a.length ≤ 9223372036854775807) (hf : ∀ x, x ∈ a → ∀ l, 0 ≤ l → l ≤ 1048576 → ∃ r, f x l = some r ∧ r ≤ l) :
    ∃ r, (if (w64 (left - (a.length : Int))) < 0 then (some (-1)) else
      onL (loop (S := (Int × Int)) (B := Int) (R := Int) (fun ((left2, i1) : Int × Int) => if i1 < (a.length : Int) then
        ((at? a i1).bind fun v1 => (f v1 left2).bind fun r1 => if r1 < 0 then (some (.ret (-1))) else some (.next (r1, w64 (i1 + 1)))) else some (.brk left2)) loopLim (w64 (left - (a.length : Int)), 0))
        (fun (left3 : Int) => some left3) (fun r => some r)) = some r ∧ r ≤ left ∧ (0 ≤ r → a.length ≤ left) := by
  rw [w64_id (by omega) (by omega)]
  by_cases hl : left - (a.length : Int) < 0
  · rw [if_pos hl]; exact ⟨_, rfl, by omega, by omega⟩
  · rw [if_neg hl]
    have : wp (onL (loop (S := (Int × Int)) (B := Int) (R := Int) (fun ((left2, i1) : Int × Int) => if i1 < (a.length : Int) then
        ((at? a i1).bind fun v1 => (f v1 left2).bind fun r1 => if r1 < 0 then (some (.ret (-1))) else some (.next (r1, w64 (i1 + 1)))) else some (.brk left2)) loopLim (left - (a.length : Int), 0))
        (fun (left3 : Int) => some left3) (fun r => some r)) (fun r => r ≤ left) := by
      refine wp_loop (fun s : Int × Int => ∃ k : Nat, s.2 = (k : Int) ∧ k ≤ a.length ∧ 0 ≤ s.1 ∧ s.1 ≤ left) (fun s => (a.length - s.2).toNat) ⟨0, rfl, by omega, by simp only; omega, by simp only; omega⟩ (by simp; omega) ?_
      rintro ⟨l, i⟩ ⟨k, rfl, hk, hl0, hl1⟩
      simp only at hk hl0 hl1 ⊢
      refine wp_ite (fun h => ?_) (fun h => ?_)
      · have hk2 : k < a.length := by omega
        rw [at_of hk2, Option.bind_some]
        obtain ⟨r, hr1, hr2⟩ := hf a[k] (List.getElem_mem hk2) l hl0 (by omega)
        rw [hr1, Option.bind_some]
        refine wp_ite (fun h => ?_) (fun h => ?_)
        · exact wp_some (wp_some (by omega))
        · refine wp_some ⟨⟨k + 1, ?_, by omega, by simp only; omega, by simp only; omega⟩, ?_⟩
          · simp only; rw [w64_id (by omega) (by omega)]; rfl
          · simp only; rw [w64_id (by omega) (by omega)]; omega
      · exact wp_some (wp_some (by omega))
    obtain ⟨r, h2, h3⟩ := this
    exact ⟨r, h2, h3, by omega⟩
end
/-- the same with a proposition for a test -/
theorem eqSp {α : Type} [DecidableEq α] (a b : List α) (ha : a.length < 9223372036854775807) :
    (if (a.length : Int) = (b.length : Int) then (onL (loop (S := Int) (B := Unit) (R := Bool) (fun (i1 : Int) => if i1 < (a.length : Int) then
      ((at? a i1).bind fun v1 => (at? b i1).bind fun v2 => if v1 = v2 then (some (.next (w64 (i1 + 1)))) else some (.ret false)) else some (.brk ())) loopLim 0) (fun (_ : Unit) => some true) (fun r => some r)) else some false)
      = some (decide (a = b)) := by
  rw [← zip_eq (c := fun x y => decide (x = y)) (fun _ _ => rfl), ← eqS (f := fun x y => some (decide (x = y))) (c := fun x y => decide (x = y)) a b (fun _ _ _ _ => rfl) ha]
  congr 3
  funext i
  split
  · congr 1; funext v1; congr 1; funext v2
    simp only [Option.bind_some, decide_eq_true_eq]
  · rfl
/-- marks -/
theorem markS {α : Type} {g : α → Int → Option (α × Int)} {step : Int} (hstep : 1 ≤ step) (hstep2 : step ≤ 1000) (hg : ∀ x k, 0 ≤ k → k ≤ 1073741824 → ∃ y, g x k = some (y, k + step)) {body : List α × Int × Int → Option (Step (List α × Int × Int) (List α × Int) Empty)}
    (a : List α) {k : Int} (hk : 0 ≤ k) (hk2 : k ≤ 1048576) (ha : a.length ≤ 1048576)
    (hb : ∀ (a2 : List α) (k2 : Int) (i : Nat), a2.length = a.length → 0 ≤ k2 → k2 ≤ 1073741824 → (hi : i < a2.length) → body (a2, k2, (i : Int)) = (g a2[i] k2).bind fun r => some (.next (a2.set i r.1, r.2, (i : Int) + 1)))
    (he : ∀ (a2 : List α) (k2 : Int), a2.length = a.length → body (a2, k2, (a.length : Int)) = some (.brk (a2, k2))) :
    ∃ b : List α, b.length = a.length ∧ onL (loop body loopLim (a, k, 0)) (fun ((a3, k3) : List α × Int) => some (k3, a3)) Empty.elim = some (k + a.length * step, b) := by
  have : wp (onL (loop body loopLim (a, k, 0)) (fun ((a3, k3) : List α × Int) => some (k3, a3)) Empty.elim) (fun r => r.1 = k + a.length * step ∧ r.2.length = a.length) := by
    refine wp_loop (fun s : List α × Int × Int => ∃ j : Nat, s.2.2 = (j : Int) ∧ j ≤ a.length ∧ s.1.length = a.length ∧ s.2.1 = k + j * step) (fun s => (a.length - s.2.2).toNat) ⟨0, rfl, by omega, rfl, by simp⟩ (by simp; omega) ?_
    rintro ⟨a2, k2, i⟩ ⟨j, rfl, hj, hl, rfl⟩
    simp only at hj hl ⊢
    have hjs : (j : Int) * step ≤ 1048576 * 1000 := Int.le_trans (Int.mul_le_mul_of_nonneg_left hstep2 (by omega)) (by omega)
    have hjs0 : 0 ≤ (j : Int) * step := Int.mul_nonneg (by omega) (by omega)
    by_cases hja : j < a.length
    · rw [hb a2 _ j hl (by omega) (by omega) (by omega)]
      obtain ⟨y, hy⟩ := hg (a2[j]'(by omega)) (k + j * step) (by omega) (by omega)
      rw [hy, Option.bind_some]
      refine wp_some ⟨⟨j + 1, by simp, by omega, by simp [hl], ?_⟩, by simp only; omega⟩
      simp only
      rw [show ((j + 1 : Nat) : Int) = (j : Int) + 1 by omega, Int.add_mul]; omega
    · obtain rfl : j = a.length := by omega
      rw [he a2 _ hl]
      exact wp_some (wp_some ⟨rfl, hl⟩)
  obtain ⟨⟨r1, r2⟩, h1, h2, h3⟩ := this
  simp only at h2 h3
  subst h2
  exact ⟨r2, h3, h1⟩
end Go.Vs
