/- Plain facts about the typed functions, up to the law: no program in sight. No conditions. -/
import Derived.Test.YtmbjedkkombmjaaV5
import Derived.Test.YtmbjedkkombmjaaDXFewestCauses
namespace Go.Vs
open Go

section
variable {α β S B R : Type}

open Classical in
/-- a loop that looks at each round for a reason to stop -/
theorem scan {body : Int → Option (Step Int Unit R)} {kb : Unit → Option β} {kr : R → Option β} {s n : Nat} {c : Nat → Bool} {r : R} (hs : s ≤ n) (hn : n < 9223372036854775807)
    (hb : ∀ i : Nat, s ≤ i → i < n → body (i : Int) = some (if c i = true then .next ((i : Int) + 1) else .ret r)) (he : body (n : Int) = some (.brk ())) :
    onL (loop body loopLim (s : Int)) kb kr = if ∀ i, s ≤ i → i < n → c i = true then kb () else kr r := by
  by_cases h : ∀ i, s ≤ i → i < n → c i = true
  · rw [if_pos h]
    have := loop_brk (body := body) (fun j => ((s + j : Nat) : Int)) (b := ()) (n - s) (by omega) (fun j hj => by
      rw [hb (s + j) (by omega) (by omega), if_pos (h _ (by omega) (by omega))]; congr 2) (by rw [show s + (n - s) = n by omega]; exact he)
    simp only [Nat.add_zero] at this
    rw [this]; rfl
  · rw [if_neg h]
    have hex : ∃ k, s ≤ k ∧ k < n ∧ c k = false := by
      refine Classical.byContradiction fun hc => h fun i h1 h2 => ?_
      cases hci : c i with
      | true => rfl
      | false => exact absurd ⟨i, h1, h2, hci⟩ hc
    -- the first of them
    have hleast : ∃ k, (s ≤ k ∧ k < n ∧ c k = false) ∧ ∀ j, s ≤ j → j < k → c j = true := by
      obtain ⟨k, hk⟩ := hex
      induction k using Nat.strongRecOn with
      | _ k ih =>
        by_cases hall : ∀ j, s ≤ j → j < k → c j = true
        · exact ⟨k, hk, hall⟩
        · have : ∃ j, s ≤ j ∧ j < k ∧ c j = false := by
            refine Classical.byContradiction fun hc => hall fun i h1 h2 => ?_
            cases hci : c i with
            | true => rfl
            | false => exact absurd ⟨i, h1, h2, hci⟩ hc
          obtain ⟨j, h1, h2, h3⟩ := this
          exact ih j h2 ⟨h1, by omega, h3⟩
    obtain ⟨k, ⟨h1, h2, h3⟩, h4⟩ := hleast
    have := loop_ret' (body := body) (fun j => ((s + j : Nat) : Int)) (r := r) (k - s) (by omega) (fun j hj => by
      rw [hb (s + j) (by omega) (by omega), if_pos (h4 _ (by omega) (by omega))]; congr 2) (by
      rw [show s + (k - s) = k by omega, hb k h1 h2, h3]; rfl)
    simp only [Nat.add_zero] at this
    rw [this]; rfl
theorem w64_succ {i n : Nat} (h : i < n) (hn : n < 9223372036854775807) : w64 ((i : Int) + 1) = (i : Int) + 1 := w64_id (by omega) (by omega)
theorem at_of {l : List α} {i : Nat} (h : i < l.length) : at? l (i : Int) = some l[i] := at_nat h
/-- copies element by element -/
theorem toS (a : List α) (z : α) (f : α → Option α) (hf : ∀ x, x ∈ a → f x = some x) (ha : a.length ≤ 4294967296) :
    ((mk? (a.length : Int) z).bind fun l1 => onL (loop (S := List α × Int) (B := List α) (R := Empty) (fun ((out1, i1) : List α × Int) => if i1 < (a.length : Int) then
      ((at? a i1).bind fun v1 => (f v1).bind fun r1 => (at? out1 i1).bind fun v2 => some (.next (out1.set i1.toNat r1, w64 (i1 + 1)))) else some (.brk out1)) loopLim (l1, 0)) (fun (out2 : List α) => some out2) Empty.elim) = some a := by
  rw [mk_ok (by omega) (by omega), Option.bind_some]
  have h0 : (List.replicate (a.length : Int).toNat z, (0 : Int)) = (fun j : Nat => (a.take j ++ List.replicate (a.length - j) z, (j : Int))) 0 := by simp
  rw [h0]
  rw [loop_brk (fun j : Nat => (a.take j ++ List.replicate (a.length - j) z, (j : Int))) (b := a) a.length (by omega)]
  · rfl
  · intro j hj
    have h1 : (j : Int) < (a.length : Int) := by omega
    simp only [h1, if_true, at_of hj, Option.bind_some, hf a[j] (List.getElem_mem hj)]
    rw [at_of (by simp; omega), Option.bind_some, w64_id (by omega) (by omega)]
    congr 3
    rw [Int.toNat_natCast, List.set_append_right _ _ (by simp; omega)]
    rw [List.take_add_one, List.getElem?_eq_getElem hj, Option.toList, List.append_assoc]
    congr 1
    have e1 : j - (a.take j).length = 0 := by simp; omega
    rw [e1, show a.length - j = (a.length - (j + 1)) + 1 by omega, List.replicate_succ]
    rfl
  · simp
/-- comparisons element by element -/
theorem eqS {f : α → α → Option Bool} {c : α → α → Bool} (a b : List α) (hf : ∀ x, x ∈ a → ∀ y, y ∈ b → f x y = some (c x y)) (ha : a.length < 9223372036854775807) :
    (if (a.length : Int) = (b.length : Int) then (onL (loop (S := Int) (B := Unit) (R := Bool) (fun (i1 : Int) => if i1 < (a.length : Int) then
      ((at? a i1).bind fun v1 => (at? b i1).bind fun v2 => (f v1 v2).bind fun r1 => if r1 then (some (.next (w64 (i1 + 1)))) else some (.ret false)) else some (.brk ())) loopLim 0) (fun (_ : Unit) => some true) (fun r => some r)) else some false)
      = some (decide (a.length = b.length) && (List.zipWith c a b).all id) := by
  by_cases hl : a.length = b.length
  · rw [if_pos (by omega)]
    have := scan (body := fun (i1 : Int) => if i1 < (a.length : Int) then
      ((at? a i1).bind fun v1 => (at? b i1).bind fun v2 => (f v1 v2).bind fun r1 => if r1 then (some (.next (w64 (i1 + 1)))) else some (.ret false)) else some (.brk ()))
      (kb := fun (_ : Unit) => some true) (kr := fun r => some r) (s := 0) (n := a.length) (c := fun i => if h : i < a.length ∧ i < b.length then c a[i] b[i] else true) (r := false) (by omega) ha ?_ (by simp)
    · simp only [Int.natCast_zero] at this
      refine this.trans ?_
      split
      · rename_i h
        congr 1
        symm
        simp only [Bool.and_eq_true, decide_eq_true_eq, hl, true_and, List.all_eq_true, id]
        intro x hx
        obtain ⟨i, hi, rfl⟩ := List.getElem_of_mem hx
        simp only [List.length_zipWith] at hi
        have := h i (by omega) (by omega)
        simpa [show i < a.length ∧ i < b.length by omega] using this
      · rename_i h
        congr 1
        symm
        simp only [Bool.and_eq_false_iff]
        right
        refine Classical.byContradiction fun hc => h fun i _ hi => ?_
        have hall : (List.zipWith c a b).all id = true := by simpa using hc
        rw [List.all_eq_true] at hall
        have hi2 : i < a.length ∧ i < b.length := ⟨hi, by omega⟩
        have := hall (c a[i] b[i]) (by
          rw [List.mem_iff_getElem]
          exact ⟨i, by simp; omega, by simp⟩)
        simpa [hi2] using this
    · intro i _ hi
      have hib : i < b.length := by omega
      have h1 : (i : Int) < (a.length : Int) := by omega
      simp only [h1, if_true, at_of hi, at_of hib, Option.bind_some, hf _ (List.getElem_mem hi) _ (List.getElem_mem hib), hi, hib, and_self, dite_true]
      split
      · rw [w64_id (by omega) (by omega)]
      · rfl
  · rw [if_neg (by omega)]
    simp [hl]
theorem zip_eq [DecidableEq α] {c : α → α → Bool} (hc : ∀ x y, c x y = decide (x = y)) : ∀ (a b : List α), (decide (a.length = b.length) && (List.zipWith c a b).all id) = decide (a = b)
  | [], [] => by simp
  | [], _ :: _ => by simp
  | _ :: _, [] => by simp
  | x :: a, y :: b => by
    have ih := zip_eq hc a b
    simp only [List.length_cons, Nat.add_right_cancel_iff, List.zipWith_cons_cons, List.all_cons, id, List.cons.injEq, hc] at ih ⊢
    by_cases hxy : x = y
    · simp [hxy, ih]
    · simp [hxy]
end
/-- the same with a proposition for a test -/
theorem eqSp {α : Type} [DecidableEq α] (a b : List α) (ha : a.length < 9223372036854775807) :
    (if (a.length : Int) = (b.length : Int) then (onL (loop (S := Int) (B := Unit) (R := Bool) (fun (i1 : Int) => if i1 < (a.length : Int) then
      ((at? a i1).bind fun v1 => (at? b i1).bind fun v2 => if v1 = v2 then (some (.next (w64 (i1 + 1)))) else some (.ret false)) else some (.brk ())) loopLim 0) (fun (_ : Unit) => some true) (fun r => some r)) else some false)
      = some (decide (a = b)) := by
  rw [← zip_eq (c := fun x y => decide (x = y)) (fun _ _ => rfl), ← eqS (f := fun x y => some (decide (x = y))) (c := fun x y => decide (x = y)) a b (fun _ _ _ _ => rfl) ha]
  congr 3
  funext i
  split
  · congr 1; funext v1; congr 1; funext v2
    simp only [Option.bind_some, decide_eq_true_eq]
  · rfl
end Go.Vs

namespace Go.Vs.G
open Go Go.Vs

def small (c : UInt8) : Bool := decide (97 ≤ c.toNat ∧ c.toNat ≤ 122)
def letter (c : UInt8) : Bool := small c || decide (48 ≤ c.toNat ∧ c.toNat ≤ 57) || decide (c.toNat = 45)
/-- a name: one to twelve small letters, digits and hyphens, a letter first -/
def isName : List UInt8 → Bool
  | [] => false
  | c :: s => decide (s.length ≤ 11) && small c && (c :: s).all letter
theorem scanBytes {s : List UInt8} (hl : s.length ≤ 12) {k : Nat} (hk : k ≤ s.length) {body : Int → Option (Step Int Unit Bool)} (hb : ∀ i : Nat, k ≤ i → (hi : i < s.length) → body (i : Int) = some (if letter s[i] = true then .next ((i : Int) + 1) else .ret false)) (he : body (s.length : Int) = some (.brk ())) :
    onL (loop body loopLim (k : Int)) (fun _ => some true) (fun r => some r) = some ((s.drop k).all letter) := by
  rw [scan (n := s.length) (c := fun i => if h : i < s.length then letter s[i] else true) (r := false) hk (by omega) (fun i h1 h2 => by rw [hb i h1 h2]; simp [h2]) he]
  split
  · rename_i h
    congr 1; symm
    rw [List.all_eq_true]
    intro c hc
    obtain ⟨i, hi, rfl⟩ := List.getElem_of_mem hc
    rw [List.length_drop] at hi
    have := h (k + i) (by omega) (by omega)
    simpa [show k + i < s.length by omega] using this
  · rename_i h
    congr 1; symm
    refine Classical.byContradiction fun hc => h fun i h1 h2 => ?_
    have hall : (s.drop k).all letter = true := by simpa using hc
    rw [List.all_eq_true] at hall
    simp only [h2, dite_true]
    refine hall _ ?_
    rw [List.mem_iff_getElem]
    exact ⟨i - k, by rw [List.length_drop]; omega, by simp [show k + (i - k) = i by omega]⟩
theorem small_iff (c : UInt8) : small c = true ↔ 97 ≤ c.toNat ∧ c.toNat ≤ 122 := by simp [small]
theorem letter_iff (c : UInt8) : letter c = true ↔ (97 ≤ c.toNat ∧ c.toNat ≤ 122) ∨ (48 ≤ c.toNat ∧ c.toNat ≤ 57) ∨ c.toNat = 45 := by simp [letter, small, or_assoc]
theorem impl_IsName_eq (s : List UInt8) (hs : s.length ≤ 9223372036854775807) : impl_IsName s = some (isName s) := by
  unfold impl_IsName
  cases s with
  | nil => simp [isName]
  | cons c t =>
    have h0 : at? (c :: t) 0 = some c := rfl
    have hlen : ((c :: t).length : Int) = t.length + 1 := by simp
    simp only [h0, Option.bind_some, hlen]
    rw [if_neg (show ¬ (t.length : Int) + 1 < 1 by omega)]
    by_cases h1 : (t.length : Int) + 1 > 12
    · rw [if_pos h1]
      have : ¬ t.length ≤ 11 := by omega
      simp [isName, this]
    · rw [if_neg h1]
      have h11 : t.length ≤ 11 := by omega
      have hsm : (if (c.toNat : Int) < 97 then some true else some (decide ((c.toNat : Int) > 122))) = some (!small c) := by
        split
        · rename_i h; congr 1; symm; have : ¬ (small c = true) := by rw [small_iff]; omega
          simpa using this
        · rename_i h; congr 1
          rw [Bool.eq_iff_iff]; simp [small]; omega
      rw [hsm, Option.bind_some]
      by_cases hc : small c = true
      · simp only [hc, Bool.not_true, Bool.false_eq_true, if_false]
        have hlc : letter c = true := by simp [letter, hc]
        refine (scanBytes (s := c :: t) (by simp; omega) (k := 1) (by simp) ?_ (by simp)).trans ?_
        rotate_left
        · simp [isName, h11, hc, hlc]
        · intro i hi1 hi2
          have h5 : (i : Int) < (t.length : Int) + 1 := by simp at hi2; omega
          simp only [h5, if_true, at_of hi2, Option.bind_some]
          generalize (c :: t)[i] = d
          have hw : w64 ((i : Int) + 1) = i + 1 := w64_id (by omega) (by omega)
          have key : (if (d.toNat : Int) < 97 then (if (d.toNat : Int) < 48 then some (!(decide ((d.toNat : Int) = 45))) else if (d.toNat : Int) > 57 then some (!(decide ((d.toNat : Int) = 45))) else some false)
            else if (d.toNat : Int) > 122 then (if (d.toNat : Int) < 48 then some (!(decide ((d.toNat : Int) = 45))) else if (d.toNat : Int) > 57 then some (!(decide ((d.toNat : Int) = 45))) else some false) else some false) = some (!letter d) := by
            have hl := letter_iff d
            cases hd : letter d <;> simp only [hd, Bool.false_eq_true, false_iff, true_iff, not_or] at hl
            · repeat' split
              all_goals simp
              all_goals omega
            · repeat' split
              all_goals simp
              all_goals omega
          rw [key, Option.bind_some, hw]
          cases letter d <;> rfl
      · have hc' : small c = false := by simpa using hc
        simp [hc', isName]
theorem l01Small_eq (c : UInt8) : spec_l01Small (c.toNat : Int) = some (small c) := by
  unfold spec_l01Small small
  split
  · congr 1; rw [decide_eq_decide]; omega
  · congr 1; symm; rw [decide_eq_false_iff_not]; omega
theorem l01Digit_eq (c : UInt8) : spec_l01Digit (c.toNat : Int) = some (decide (48 ≤ c.toNat ∧ c.toNat ≤ 57)) := by
  unfold spec_l01Digit
  split
  · congr 1; rw [decide_eq_decide]; omega
  · congr 1; symm; rw [decide_eq_false_iff_not]; omega
theorem spec_IsName_eq (s : List UInt8) (hs : s.length ≤ 9223372036854775807) : spec_IsName s = some (isName s) := by
  unfold spec_IsName
  cases s with
  | nil => simp [isName]
  | cons c t =>
    have h0 : at? (c :: t) 0 = some c := rfl
    have hlen : ((c :: t).length : Int) = t.length + 1 := by simp
    simp only [h0, Option.bind_some, hlen, l01Small_eq, l01Digit_eq]
    rw [if_neg (by simp)]
    by_cases h1 : (t.length : Int) + 1 > 12
    · rw [if_pos h1]
      have : ¬ t.length ≤ 11 := by omega
      simp [isName, this]
    · rw [if_neg h1]
      have h11 : t.length ≤ 11 := by omega
      by_cases hc : small c = true
      · simp only [hc, Bool.not_true, Bool.false_eq_true, if_false, Option.bind_some]
        refine (scanBytes (s := c :: t) (by simp; omega) (k := 0) (by simp) ?_ (by simp)).trans ?_
        rotate_left
        · simp [isName, h11, hc]
        · intro i hi1 hi2
          have h5 : (i : Int) < (t.length : Int) + 1 := by simp at hi2; omega
          simp only [h5, if_true, at_of hi2, Option.bind_some, l01Small_eq, l01Digit_eq]
          generalize (c :: t)[i] = d
          have hw : w64 ((i : Int) + 1) = i + 1 := w64_id (by omega) (by omega)
          have key : (if small d = true then some false else if decide (48 ≤ d.toNat ∧ d.toNat ≤ 57) = true then some false else some (!(decide ((d.toNat : Int) = 45)))) = some (!letter d) := by
            unfold letter
            split
            · simp_all
            · split
              · simp_all
              · have : decide ((d.toNat : Int) = 45) = decide (d.toNat = 45) := by rw [decide_eq_decide]; omega
                simp_all
                omega
          rw [key, Option.bind_some, hw]
          cases letter d <;> rfl
      · have hc' : small c = false := by simpa using hc
        simp [hc', isName]
end Go.Vs.G

namespace Go.Vs
open Go

section
variable {α β γ R : Type}

/-- the library's IndexFunc -/
theorem idxFS {f : α → Option Bool} (c : α → Bool) (l : List α) (hf : ∀ x, x ∈ l → f x = some (c x)) (hl : l.length < 9223372036854775807)
    {body : Int → Option (Step Int Unit Int)}
    (hb : ∀ (i : Int), body i = if i < (l.length : Int) then ((at? l i).bind fun v => (f v).bind fun r => if r = true then some (.ret i) else some (.next (w64 (i + 1)))) else some (.brk ())) :
    wp (onL (loop body loopLim 0) (fun (_ : Unit) => some (-1 : Int)) (fun r => some r)) fun r => (r = -1 ∧ l.any c = false) ∨ (∃ k : Nat, r = (k : Int) ∧ ∃ h : k < l.length, c l[k] = true ∧ (∀ j (h2 : j < k), c (l[j]'(by omega)) = false) ∧ l.any c = true) := by
  refine wp_loop (fun t : Int => ∃ k : Nat, t = (k : Int) ∧ k ≤ l.length ∧ ∀ j (h2 : j < k) (h3 : j < l.length), c l[j] = false) (fun t => (l.length - t).toNat) ⟨0, rfl, by omega, fun j hj => by omega⟩ (by omega) ?_
  rintro i ⟨k, rfl, hk, hall⟩
  rw [hb]
  refine wp_ite (fun h => ?_) (fun h => ?_)
  · have hk2 : k < l.length := by omega
    rw [at_of hk2, Option.bind_some, hf _ (List.getElem_mem hk2), Option.bind_some]
    refine wp_ite (fun h3 => ?_) (fun h3 => ?_)
    · exact wp_some (wp_some (.inr ⟨k, rfl, hk2, h3, fun j hj => hall j hj (by omega), List.any_eq_true.2 ⟨_, List.getElem_mem hk2, h3⟩⟩))
    · rw [w64_succ hk2 (by omega)]
      refine wp_some ⟨⟨k + 1, rfl, by omega, fun j hj hj2 => ?_⟩, by omega⟩
      rcases Nat.lt_or_ge j k with h4 | h4
      · exact hall j h4 hj2
      · obtain rfl : j = k := by omega
        simpa using h3
  · obtain rfl : k = l.length := by omega
    refine wp_some (wp_some (.inl ⟨rfl, ?_⟩))
    refine Bool.eq_false_iff.2 fun hc => ?_
    obtain ⟨x, hx, hx2⟩ := List.any_eq_true.1 hc
    obtain ⟨j, hj, rfl⟩ := List.getElem_of_mem hx
    rw [hall j hj hj] at hx2
    cases hx2
/-- the library's ContainsFunc -/
theorem contS {f : α → Option Bool} (c : α → Bool) (l : List α) (hf : ∀ x, x ∈ l → f x = some (c x)) (hl : l.length < 9223372036854775807)
    {body : Int → Option (Step Int Unit Int)}
    (hb : ∀ (i : Int), body i = if i < (l.length : Int) then ((at? l i).bind fun v => (f v).bind fun r => if r = true then some (.ret i) else some (.next (w64 (i + 1)))) else some (.brk ())) :
    ((onL (loop body loopLim 0) (fun (_ : Unit) => some (-1 : Int)) (fun r => some r)).bind fun r => some (decide (r ≥ 0))) = some (l.any c) := by
  obtain ⟨r, h1, h2⟩ := idxFS c l hf hl hb
  rw [h1, Option.bind_some]
  rcases h2 with ⟨rfl, h⟩ | ⟨k, rfl, _, _, _, h⟩
  · rw [h]; rfl
  · rw [h, decide_eq_true (by omega)]
/-- a loop whose state at each round is told -/
theorem wp_cnt {S B : Type} {Q : γ → Prop} {body : S → Option (Step S B R)} {kb : B → Option γ} {kr : R → Option γ} {s0 : S} (st : Nat → S) (n : Nat) (h0 : s0 = st 0) (hn : n < 18446744073709551616)
    (hs : ∀ k, k < n → body (st k) = some (.next (st (k + 1)))) {b : B} (he : body (st n) = some (.brk b)) (hq : wp (kb b) Q) : wp (onL (loop body loopLim s0) kb kr) Q := by
  rw [h0, loop_brk st n hn hs he]; exact hq
/-- the numbers below n that fit -/
def sl (c : Nat → Bool) : Nat → List Int
  | 0 => []
  | k + 1 => if c k = true then sl c k ++ [(k : Int)] else sl c k
theorem sl_len (c : Nat → Bool) : ∀ k, (sl c k).length ≤ k
  | 0 => by simp [sl]
  | k + 1 => by have := sl_len c k; rw [sl]; split <;> simp <;> omega
end
end Go.Vs

namespace Go.Vs
open Go
/-- sizes: each element fits, too -/
theorem szSp {α : Type} {p : α → Prop} (a : List α) (f : α → Int → Option Int) {left : Int} (h0 : 0 ≤ left) (h1 : left ≤ 1048576) (ha : a.length ≤ 9223372036854775807) (hf : ∀ x, x ∈ a → ∀ l, 0 ≤ l → l ≤ 1048576 → ∃ r, f x l = some r ∧ r ≤ l ∧ (0 ≤ r → p x)) :
    wp (if (w64 (left - (a.length : Int))) < 0 then (some (-1)) else
      onL (loop (S := (Int × Int)) (B := Int) (R := Int) (fun ((left2, i1) : Int × Int) => if i1 < (a.length : Int) then
        ((at? a i1).bind fun v1 => (f v1 left2).bind fun r1 => if r1 < 0 then (some (.ret (-1))) else some (.next (r1, w64 (i1 + 1)))) else some (.brk left2)) loopLim (w64 (left - (a.length : Int)), 0))
        (fun (left3 : Int) => some left3) (fun r => some r)) (fun r => r ≤ left ∧ (0 ≤ r → a.length ≤ left ∧ ∀ x, x ∈ a → p x)) := by
  rw [w64_id (by omega) (by omega)]
  refine wp_ite (fun hl => wp_some ⟨by omega, fun h => by omega⟩) (fun hl => ?_)
  refine wp_loop (fun s : Int × Int => ∃ k : Nat, s.2 = (k : Int) ∧ k ≤ a.length ∧ 0 ≤ s.1 ∧ s.1 ≤ left ∧ ∀ x, x ∈ a.take k → p x) (fun s => (a.length - s.2).toNat) ⟨0, rfl, by omega, by simp only; omega, by simp only; omega, by simp⟩ (by simp; omega) ?_
  rintro ⟨l, i⟩ ⟨k, hk, hk2, h3, h4, h5⟩
  simp only at hk h3 h4
  subst hk
  simp only
  refine wp_ite (fun h => ?_) (fun h => ?_)
  · have hk3 : k < a.length := by omega
    obtain ⟨r, hr, hr1, hr2⟩ := hf a[k] (List.getElem_mem hk3) l h3 (by omega)
    rw [at_of hk3, Option.bind_some, hr, Option.bind_some]
    refine wp_ite (fun h6 => wp_some (wp_some ⟨by omega, fun h => by omega⟩)) (fun h6 => ?_)
    rw [w64_succ hk3 (by omega)]
    refine wp_some ⟨⟨k + 1, rfl, by omega, by simp only; omega, by simp only; omega, fun x hx => ?_⟩, by simp only; omega⟩
    rw [List.take_add_one, List.getElem?_eq_getElem hk3] at hx
    simp only [Option.toList, List.mem_append, List.mem_singleton] at hx
    rcases hx with hx | rfl
    · exact h5 x hx
    · exact hr2 (by omega)
  · obtain rfl : k = a.length := by omega
    rw [List.take_length] at h5
    exact wp_some (wp_some ⟨h4, fun _ => ⟨by omega, h5⟩⟩)
theorem toInts {a : List Int} (ha : a.length ≤ 4294967296) : ((mk? (a.length : Int) (0 : Int)).bind fun l1 => onL (loop (S := List Int × Int) (B := List Int) (R := Empty) (fun ((out1, i1) : List Int × Int) => if i1 < (a.length : Int) then
      ((at? a i1).bind fun v1 => (at? out1 i1).bind fun v2 => some (.next (out1.set i1.toNat v1, w64 (i1 + 1)))) else some (.brk out1)) loopLim (l1, 0)) (fun (out2 : List Int) => some out2) Empty.elim) = some a := by
  have := toS a (0 : Int) some (fun _ _ => rfl) ha
  exact this
end Go.Vs
namespace Go.Vs.G
open Go Go.Vs

def smallC (c : GCause) : Prop := c.Name.length ≤ 1048576 ∧ c.Signs.length ≤ 1048576
theorem szCauseS_eq {a : List GCause} (ha : okL GCause.ok a) {left : Int} (h0 : 0 ≤ left) (h1 : left ≤ 1048576) : ∃ r, laws_szCauseS a left = some r ∧ r ≤ left ∧ (0 ≤ r → a.length ≤ left ∧ ∀ x, x ∈ a → smallC x) := by
  refine szSp a laws_szCause h0 h1 ha.1 fun x hx l hl0 hl1 => ?_
  have hn : x.Name.length ≤ 9223372036854775807 := (ha.2 x hx).1
  have hs : x.Signs.length ≤ 9223372036854775807 := (ha.2 x hx).2.1
  unfold laws_szCause laws_szInt64S
  rw [w64_id (n := l - (x.Name.length : Int)) (by omega) (by omega)]
  by_cases h : l - (x.Name.length : Int) < 0
  · rw [if_pos h]; exact ⟨_, rfl, by omega, fun h => by omega⟩
  · rw [if_neg h, w64_id (by omega) (by omega)]
    by_cases h2 : l - (x.Name.length : Int) - (x.Signs.length : Int) < 0
    · rw [if_pos h2, Option.bind_some, if_pos (by omega)]; exact ⟨_, rfl, by omega, fun h => by omega⟩
    · rw [if_neg h2, Option.bind_some, if_neg h2]; exact ⟨_, rfl, by omega, fun _ => ⟨by omega, by omega⟩⟩
theorem toInt64S_eq {a : List Int} (ha : a.length ≤ 4294967296) : laws_toInt64S a = some a := toInts ha
theorem toCauseS_eq {a : List GCause} (ha : a.length ≤ 1048576) (hs : ∀ x, x ∈ a → smallC x) : laws_toCauseS a = some a :=
  toS a _ laws_toCause (fun x hx => by unfold laws_toCause; rw [toInt64S_eq (by have := (hs x hx).2; omega)]; rfl) (by omega)
theorem eqInt64S_eqF {a b : List Int} (ha : a.length ≤ 1048576) : laws_eqInt64S a b = some (decide (a = b)) := eqSp a b (by omega)
theorem eqCauseS_eq {a b : List GCause} (ha : a.length ≤ 1048576) (hs : ∀ x, x ∈ a → smallC x) : laws_eqCauseS a b = some (decide (a = b)) := by
  rw [← zip_eq (c := fun x y => decide (x = y)) (fun _ _ => rfl)]
  refine eqS (c := fun x y => decide (x = y)) a b (fun x hx y _ => ?_) (by omega)
  unfold laws_eqCause
  rw [eqInt64S_eqF (hs x hx).2]
  rcases x with ⟨n1, s1⟩
  rcases y with ⟨n2, s2⟩
  simp only [GCause.mk.injEq, Option.bind_some]
  by_cases h1 : n1 = n2 <;> by_cases h2 : s1 = s2 <;> simp_all
/-- numbers that rise, from low to high -/
def rises (l : List Int) (low high : Int) : Prop := ∀ i (h : i < l.length), low ≤ l[i] ∧ l[i] ≤ high ∧ (∀ h2 : 0 < i, l[i - 1] < l[i])
open Classical in
theorem isIncreasing_eq {l : List Int} {m : Int} (hl : l.length ≤ 1048576) (hm : 1 ≤ m ∧ m ≤ 16) : impl_isIncreasing l m = some (decide (rises l 0 (m - 1))) := by
  unfold impl_isIncreasing
  have := scan (R := Bool) (β := Bool) (body := (fun (x1 : Int) =>
 if x1 < (l.length : Int) then
 ((at? l x1).bind fun v1 =>
 (((impl_within v1 0 (w64 (m - 1))).bind fun r1 =>
 if r1 then
 (if x1 > 0 then
 ((at? l (w64 (x1 - 1))).bind fun v2 =>
 some (decide (v2 ≥ v1)))
 else
 some false)
 else
 some true) : Option Bool).bind fun (x2 : Bool) =>
 if x2 then
 (some (.ret false))
 else
 some (.next (w64 (x1 + 1))))
 else
 some (.brk ()))) (kb := fun _ => some true) (kr := fun r => some r) (s := 0) (n := l.length) (c := fun i => if h : i < l.length then decide (0 ≤ l[i] ∧ l[i] ≤ m - 1 ∧ (∀ h2 : 0 < i, l[i - 1] < l[i])) else true) (r := false) (by omega) (by omega) (fun i _ hi => by
    rw [if_pos (by omega), at_of hi, Option.bind_some, w64_id (n := m - 1) (by omega) (by omega), w64_id (n := (i : Int) + 1) (by omega) (by omega)]
    rw [show impl_within l[i] 0 (m - 1) = some (decide (0 ≤ l[i] ∧ l[i] ≤ m - 1)) by unfold impl_within; split <;> simp <;> omega, Option.bind_some, dif_pos hi]
    by_cases h1 : 0 ≤ l[i] ∧ l[i] ≤ m - 1
    · rw [decide_eq_true h1, if_pos rfl]
      by_cases h2 : 0 < i
      · rw [if_pos (by omega), w64_id (by omega) (by omega), show (i : Int) - 1 = ((i - 1 : Nat) : Int) by omega, at_of (by omega), Option.bind_some]
        by_cases h3 : l[i - 1] < l[i]
        · rw [decide_eq_false (by omega), decide_eq_true ⟨h1.1, h1.2, fun _ => h3⟩]; rfl
        · rw [decide_eq_true (by omega), decide_eq_false (fun h => h3 (h.2.2 h2))]; rfl
      · rw [if_neg (by omega), decide_eq_true ⟨h1.1, h1.2, fun h => absurd h h2⟩]; rfl
    · rw [decide_eq_false h1, if_neg (by simp), decide_eq_false (fun h => h1 ⟨h.1, h.2.1⟩)]; rfl) (by rw [if_neg (by omega)])
  simp only [Int.natCast_zero] at this
  refine this.trans ?_
  have hiff : (∀ i, 0 ≤ i → i < l.length → (if h : i < l.length then decide (0 ≤ l[i] ∧ l[i] ≤ m - 1 ∧ (∀ h2 : 0 < i, l[i - 1] < l[i])) else true) = true) ↔ rises l 0 (m - 1) := by
    constructor
    · intro h i hi; have := h i (by omega) hi; rw [dif_pos hi] at this; exact of_decide_eq_true this
    · intro h i _ hi; rw [dif_pos hi]; exact decide_eq_true (h i hi)
  by_cases hr : rises l 0 (m - 1)
  · rw [if_pos (hiff.2 hr), decide_eq_true hr]
  · rw [if_neg (fun h => hr (hiff.1 h)), decide_eq_false hr]
open Classical in
theorem l00Rises_eq {l : List Int} {a b : Int} (hl : l.length ≤ 1048576) : spec_l00Rises l a b = some (decide (rises l a b)) := by
  unfold spec_l00Rises
  have := scan (R := Bool) (β := Bool) (body := (fun (i1 : Int) =>
 if i1 < (l.length : Int) then
 ((((at? l i1).bind fun v1 =>
 (spec_l00In v1 a b).bind fun r1 =>
 if r1 then
 (if i1 > 0 then
 ((at? l (w64 (i1 - 1))).bind fun v2 =>
 (at? l i1).bind fun v3 =>
 some (decide (v2 ≥ v3)))
 else
 some false)
 else
 some true) : Option Bool).bind fun (x1 : Bool) =>
 if x1 then
 (some (.ret false))
 else
 some (.next (w64 (i1 + 1))))
 else
 some (.brk ()))) (kb := fun _ => some true) (kr := fun r => some r) (s := 0) (n := l.length) (c := fun i => if h : i < l.length then decide (a ≤ l[i] ∧ l[i] ≤ b ∧ (∀ h2 : 0 < i, l[i - 1] < l[i])) else true) (r := false) (by omega) (by omega) (fun i _ hi => by
    rw [if_pos (by omega), at_of hi, Option.bind_some, w64_id (n := (i : Int) + 1) (by omega) (by omega)]
    rw [show spec_l00In l[i] a b = some (decide (a ≤ l[i] ∧ l[i] ≤ b)) by unfold spec_l00In; split <;> simp <;> omega, Option.bind_some, dif_pos hi]
    by_cases h1 : a ≤ l[i] ∧ l[i] ≤ b
    · rw [decide_eq_true h1, if_pos rfl]
      by_cases h2 : 0 < i
      · rw [if_pos (by omega), w64_id (by omega) (by omega), show (i : Int) - 1 = ((i - 1 : Nat) : Int) by omega, at_of (by omega), Option.bind_some, Option.bind_some]
        by_cases h3 : l[i - 1] < l[i]
        · rw [decide_eq_false (by omega), decide_eq_true ⟨h1.1, h1.2, fun _ => h3⟩]; rfl
        · rw [decide_eq_true (by omega), decide_eq_false (fun h => h3 (h.2.2 h2))]; rfl
      · rw [if_neg (by omega), decide_eq_true ⟨h1.1, h1.2, fun h => absurd h h2⟩]; rfl
    · rw [decide_eq_false h1, if_neg (by simp), decide_eq_false (fun h => h1 ⟨h.1, h.2.1⟩)]; rfl) (by rw [if_neg (by omega)])
  simp only [Int.natCast_zero] at this
  refine this.trans ?_
  have hiff : (∀ i, 0 ≤ i → i < l.length → (if h : i < l.length then decide (a ≤ l[i] ∧ l[i] ≤ b ∧ (∀ h2 : 0 < i, l[i - 1] < l[i])) else true) = true) ↔ rises l a b := by
    constructor
    · intro h i hi; have := h i (by omega) hi; rw [dif_pos hi] at this; exact of_decide_eq_true this
    · intro h i _ hi; rw [dif_pos hi]; exact decide_eq_true (h i hi)
  by_cases hr : rises l a b
  · rw [if_pos (hiff.2 hr), decide_eq_true hr]
  · rw [if_neg (fun h => hr (hiff.1 h)), decide_eq_false hr]
/-- cause i of a list is valid behind those ahead of it -/
def cok (m : Int) (l : List GCause) (i : Nat) (h : i < l.length) : Prop := isName l[i].Name = true ∧ l[i].Signs ≠ [] ∧ rises l[i].Signs 0 (m - 1) ∧ ∀ k (hk : k < i), l[k].Name ≠ l[i].Name
/-- valid causes -/
def vcs (m : Int) (l : List GCause) : Prop := (1 ≤ m ∧ m ≤ 16) ∧ l.length ≤ 10 ∧ ∀ i (h : i < l.length), cok m l i h
open Classical in
theorem ValidCauses_eq {m : Int} {l : List GCause} (hl : l.length ≤ 1048576) (hs : ∀ x, x ∈ l → smallC x) : impl_ValidCauses m l = some (decide (vcs m l)) := by
  unfold impl_ValidCauses
  rw [show impl_within m 1 16 = some (decide (1 ≤ m ∧ m ≤ 16)) by unfold impl_within; split <;> simp <;> omega, Option.bind_some]
  by_cases h1 : 1 ≤ m ∧ m ≤ 16
  · rw [decide_eq_true h1, if_pos rfl, Option.bind_some]
    by_cases h2 : l.length ≤ 10
    · rw [decide_eq_false (by omega), if_neg (by simp)]
      have := scan (R := Bool) (β := Bool) (body := (fun (x2 : Int) =>
 if x2 < (l.length : Int) then
 ((at? l x2).bind fun v1 =>
 (((impl_IsName v1.Name).bind fun r2 =>
 if r2 then
 (if (v1.Signs.length : Int) = 0 then
 (some true)
 else
 (impl_isIncreasing v1.Signs m).bind fun r3 =>
 if r3 then
 ((sub? l 0 x2).bind fun l1 =>
 (slices_ContainsFunc_impl_Cause_impl_Cause_799 l1 (fun a0 => impl_ValidCauses_1 a0 v1)).bind fun r4 =>
 some r4)
 else
 some true)
 else
 some true) : Option Bool).bind fun (x3 : Bool) =>
 if x3 then
 (some (.ret false))
 else
 some (.next (w64 (x2 + 1))))
 else
 some (.brk ()))) (kb := fun _ => some true) (kr := fun r => some r) (s := 0) (n := l.length) (c := fun i => if h : i < l.length then decide (cok m l i h) else true) (r := false) (by omega) (by omega) (fun i _ hi => by
        have hsm := hs _ (List.getElem_mem hi)
        rw [if_pos (by omega), at_of hi, Option.bind_some, impl_IsName_eq _ (by have := hsm.1; omega), Option.bind_some, w64_id (n := (i : Int) + 1) (by omega) (by omega), dif_pos hi]
        by_cases g1 : isName l[i].Name = true
        · rw [if_pos g1]
          by_cases g2 : l[i].Signs = []
          · rw [if_pos (by rw [g2]; rfl), decide_eq_false (fun h => h.2.1 g2)]; rfl
          · have : l[i].Signs.length ≠ 0 := fun h => g2 (List.length_eq_zero_iff.1 h)
            rw [if_neg (by omega), isIncreasing_eq hsm.2 h1, Option.bind_some]
            by_cases g3 : rises l[i].Signs 0 (m - 1)
            · rw [decide_eq_true g3, if_pos rfl, sub_ok (by omega) (by omega) (by omega), Option.bind_some]
              simp only [Int.toNat_natCast, Int.toNat_zero, List.drop_zero]
              have hcf : slices_ContainsFunc_impl_Cause_impl_Cause_799 (l.take i) (fun a0 => impl_ValidCauses_1 a0 l[i]) = some ((l.take i).any fun o => o.Name == l[i].Name) := by
                unfold slices_ContainsFunc_impl_Cause_impl_Cause_799 slices_IndexFunc_impl_Cause_impl_Cause_821
                exact contS _ (l.take i) (fun x _ => rfl) (by simp; omega) (fun _ => rfl)
              rw [hcf, Option.bind_some, Option.bind_some]
              by_cases g4 : ∀ k (hk : k < i), l[k].Name ≠ l[i].Name
              · have ha : ((l.take i).any fun o => o.Name == l[i].Name) = false := by
                  rw [List.any_eq_false]
                  intro x hx
                  obtain ⟨k, hk, rfl⟩ := List.getElem_of_mem hx
                  have hk2 : k < i := by simp at hk; omega
                  simpa using g4 k hk2
                rw [ha, decide_eq_true (show cok m l i hi from ⟨g1, g2, g3, g4⟩)]; rfl
              · have ha : ((l.take i).any fun o => o.Name == l[i].Name) = true := by
                  refine Classical.byContradiction fun hc => g4 fun k hk he => ?_
                  have hf : ((l.take i).any fun o => o.Name == l[i].Name) = false := by simpa using hc
                  rw [List.any_eq_false] at hf
                  have hm : l[k] ∈ l.take i := by
                    rw [List.mem_take_iff_getElem]; exact ⟨k, by omega, rfl⟩
                  exact hf _ hm (by simp [he])
                rw [ha, decide_eq_false (fun h => g4 h.2.2.2)]; rfl
            · rw [decide_eq_false g3, if_neg (by simp), decide_eq_false (fun h => g3 h.2.2.1)]; rfl
        · rw [if_neg g1, decide_eq_false (fun h => g1 h.1)]; rfl) (by rw [if_neg (by omega)])
      simp only [Int.natCast_zero] at this
      refine this.trans ?_
      by_cases hr : ∀ i (h : i < l.length), cok m l i h
      · rw [if_pos (fun i _ hi => by rw [dif_pos hi]; exact decide_eq_true (hr i hi)), decide_eq_true (show vcs m l from ⟨h1, h2, hr⟩)]
      · rw [if_neg (fun h => hr fun i hi => by have := h i (by omega) hi; rw [dif_pos hi] at this; exact of_decide_eq_true this), decide_eq_false (fun h => hr h.2.2)]
    · rw [decide_eq_true (by omega), if_pos rfl, decide_eq_false (fun h => h2 h.2.1)]
  · rw [decide_eq_false h1, if_neg (by simp), Option.bind_some, if_pos rfl, decide_eq_false (fun h => h1 h.1)]
open Classical in
theorem l22Ok_eq {m : Int} {l : List GCause} (hl : l.length ≤ 1048576) (hs : ∀ x, x ∈ l → smallC x) : spec_l22Ok m l = some (decide (vcs m l)) := by
  unfold spec_l22Ok
  rw [show spec_l00In m 1 16 = some (decide (1 ≤ m ∧ m ≤ 16)) by unfold spec_l00In; split <;> simp <;> omega, Option.bind_some]
  by_cases h1 : 1 ≤ m ∧ m ≤ 16
  · rw [decide_eq_true h1, if_pos rfl, Option.bind_some]
    by_cases h2 : l.length ≤ 10
    · rw [decide_eq_false (by omega), if_neg (by simp)]
      refine eq_of_wp ?_
      refine wp_loop (fun i : Int => ∃ k : Nat, i = (k : Int) ∧ k ≤ l.length ∧ ∀ j (h : j < l.length), j < k → cok m l j h) (fun i => (l.length - i).toNat) ⟨0, rfl, by omega, fun j _ hj => by omega⟩ (by omega) ?_
      rintro _ ⟨i, rfl, hi0, hall⟩
      refine wp_ite (fun h => ?_) (fun h => ?_)
      · have hi : i < l.length := by omega
        have hsm := hs _ (List.getElem_mem hi)
        have hno : ¬ cok m l i hi → decide (vcs m l) = false := fun h => decide_eq_false fun hv => h (hv.2.2 i hi)
        rw [at_of hi]
        simp only [Option.bind_some]
        rw [spec_IsName_eq _ (by have := hsm.1; omega), Option.bind_some, w64_id (n := m - 1) (by omega) (by omega), w64_id (n := (i : Int) + 1) (by omega) (by omega)]
        by_cases g1 : isName l[i].Name = true
        · rw [if_pos g1]
          by_cases g2 : l[i].Signs = []
          · rw [if_pos (by rw [g2]; rfl), Option.bind_some, if_pos rfl]
            exact wp_some (wp_some (hno fun h => h.2.1 g2).symm)
          · have : l[i].Signs.length ≠ 0 := fun h => g2 (List.length_eq_zero_iff.1 h)
            rw [if_neg (by omega), l00Rises_eq hsm.2, Option.bind_some]
            by_cases g3 : rises l[i].Signs 0 (m - 1)
            · rw [decide_eq_true g3, Option.bind_some]
              simp only [Bool.not_true, Bool.false_eq_true, if_false]
              refine wp_loop (fun j : Int => ∃ k : Nat, j = (k : Int) ∧ k ≤ i ∧ ∀ n (hn : n < k) (hn2 : n < l.length), l[n].Name ≠ l[i].Name) (fun j => (i - j).toNat) ⟨0, rfl, by omega, fun n hn => by omega⟩ (by omega) ?_
              rintro _ ⟨k, rfl, hk, hne⟩
              refine wp_ite (fun h3 => ?_) (fun h3 => ?_)
              · have hk2 : k < l.length := by omega
                rw [at_of hk2, Option.bind_some]
                refine wp_ite (fun h4 => ?_) (fun h4 => ?_)
                · refine wp_some (wp_some (wp_some (hno fun h => ?_).symm))
                  exact h.2.2.2 k (by omega) (by simpa using h4)
                · rw [w64_id (by omega) (by omega)]
                  refine wp_some ⟨⟨k + 1, rfl, by omega, fun n hn hn2 => ?_⟩, by omega⟩
                  rcases Nat.lt_or_ge n k with h5 | h5
                  · exact hne n h5 hn2
                  · obtain rfl : n = k := by omega
                    simpa using h4
              · obtain rfl : k = i := by omega
                refine wp_some (wp_some ⟨⟨k + 1, rfl, by omega, fun j hj hj2 => ?_⟩, by omega⟩)
                rcases Nat.lt_or_ge j k with h5 | h5
                · exact hall j hj h5
                · obtain rfl : j = k := by omega
                  exact ⟨g1, g2, g3, fun n hn => hne n hn (by omega)⟩
            · rw [decide_eq_false g3, Option.bind_some]
              exact wp_some (wp_some (hno fun h => g3 h.2.2.1).symm)
        · rw [if_neg g1, Option.bind_some, if_pos rfl]
          exact wp_some (wp_some (hno fun h => g1 h.1).symm)
      · refine wp_some (wp_some ?_)
        rw [decide_eq_true (show vcs m l from ⟨h1, h2, fun i hi => hall i hi (by omega)⟩)]
    · rw [decide_eq_true (by omega), if_pos rfl, decide_eq_false (fun h => h2 h.2.1)]
  · rw [decide_eq_false h1, if_neg (by simp), Option.bind_some, if_pos rfl, decide_eq_false (fun h => h1 h.1)]
end Go.Vs.G

namespace Go.Vs.G
open Go Go.Vs

theorem laws_eqInt64S_eq {a b : List Int} (ha : a.length ≤ 9223372036854775806) : laws_eqInt64S a b = some (decide (a = b)) := eqSp a b (by omega)
theorem laws_markInt64S_eq {a : List Int} {k : Int} (h0 : 0 ≤ k) (h1 : k ≤ 1152921504606846976) (ha : a.length ≤ 1073741824) : laws_markInt64S a k = some (k + a.length, tab (fun i => k + (i : Int)) a.length) := by
  refine eq_of_wp ?_
  unfold laws_markInt64S
  refine wp_loop (fun s : List Int × Int × Int => ∃ j : Nat, s.2.2 = (j : Int) ∧ j ≤ a.length ∧ s.2.1 = k + j ∧ s.1.length = a.length ∧ ∀ i, i < j → s.1[i]? = some (k + (i : Int))) (fun s => (a.length - s.2.2).toNat) ⟨0, rfl, by omega, by simp, rfl, by simp⟩ (by simp; omega) ?_
  rintro ⟨a2, k2, i⟩ ⟨j, rfl, hj, rfl, hl, hv⟩
  simp only at hj hl hv ⊢
  refine wp_ite (fun h => ?_) (fun h => ?_)
  · rw [at_of (by omega), Option.bind_some, w64_id (n := (j : Int) + 1) (by omega) (by omega), w64_id (by omega) (by omega)]
    refine wp_some ⟨⟨j + 1, by simp, by omega, by simp only; omega, by simp [hl], fun i hi => ?_⟩, by simp only; omega⟩
    simp only [Int.toNat_natCast, List.getElem?_set]
    by_cases h2 : j = i
    · subst h2; simp [show j < a2.length by omega]
    · rw [if_neg h2]; exact hv i (by omega)
  · refine wp_some (wp_some ?_)
    obtain rfl : j = a.length := by omega
    congr 1
    apply List.ext_getElem?
    intro i
    by_cases hi : i < a.length
    · rw [hv i hi, tab_get hi]
    · rw [List.getElem?_eq_none (by simp only; omega), List.getElem?_eq_none (by simp; omega)]
theorem laws_heldInt64S_tab {n : Nat} {k : Int} (h0 : 0 ≤ k) (h1 : k ≤ 1073741824) (hn : n ≤ 1073741824) : laws_heldInt64S (tab (fun i => k + (i : Int)) n) k = some (k + n) := by
  refine eq_of_wp ?_
  unfold laws_heldInt64S
  refine wp_loop (fun s : Int × Int => ∃ j : Nat, s.2 = (j : Int) ∧ j ≤ n ∧ s.1 = k + j) (fun s => (n - s.2).toNat) ⟨0, rfl, by omega, by simp⟩ (by simp; omega) ?_
  rintro ⟨k2, i⟩ ⟨j, rfl, hj, rfl⟩
  simp only at hj ⊢
  simp only [tab_length]
  refine wp_ite (fun h => ?_) (fun h => ?_)
  · rw [tab_at (by omega) (by omega), Option.bind_some, Int.toNat_natCast, if_pos rfl, w64_id (n := (j : Int) + 1) (by omega) (by omega), w64_id (by omega) (by omega)]
    exact wp_some ⟨⟨j + 1, by simp, by omega, by simp only; omega⟩, by simp only; omega⟩
  · exact wp_some (wp_some (by omega))
end Go.Vs.G

namespace Go.Vs.G
open Go Go.Vs

/-- f is n / d in lowest terms -/
structure Red (n d : Int) (f : GFraction) : Prop where
  pos : 0 < f.Den
  cop : Int.gcd f.Num f.Den = 1
  eq : f.Num * d = n * f.Den
theorem dvd_of_cop {a b c : Int} (h : Int.gcd a b = 1) (hd : b ∣ a * c) : b ∣ c := by
  rw [← Int.natAbs_dvd_natAbs] at hd ⊢
  rw [Int.natAbs_mul] at hd
  have : Nat.Coprime b.natAbs a.natAbs := by rw [Nat.coprime_comm]; exact h
  exact this.dvd_of_dvd_mul_left hd
theorem Red.unique {f g : GFraction} (hf : 0 < f.Den) (hg : 0 < g.Den) (cf : Int.gcd f.Num f.Den = 1) (cg : Int.gcd g.Num g.Den = 1) (h : f.Num * g.Den = g.Num * f.Den) : f = g := by
  have h1 : f.Den ∣ g.Den := dvd_of_cop cf ⟨g.Num, by rw [h, Int.mul_comm]⟩
  have h2 : g.Den ∣ f.Den := dvd_of_cop cg ⟨f.Num, by rw [← h, Int.mul_comm]⟩
  have hd : f.Den = g.Den := Int.le_antisymm (Int.le_of_dvd hg h1) (Int.le_of_dvd hf h2)
  have hn : f.Num = g.Num := by
    rw [hd] at h
    exact Int.eq_of_mul_eq_mul_right (by omega) h
  cases f; cases g
  simp_all
/-- a valid fraction -/
def GFraction.valid (f : GFraction) : Prop := 1 ≤ f.Den ∧ f.Den ≤ 1000000 ∧ -1000000 ≤ f.Num ∧ f.Num ≤ 1000000 ∧ Int.gcd f.Num f.Den = 1
/-- a drawn fraction -/
structure Drawn (f : GFraction) : Prop where
  d0 : 1 ≤ f.Den
  d1 : f.Den ≤ 20
  n0 : -15 ≤ f.Num
  n1 : f.Num ≤ 44
  cop : Int.gcd f.Num f.Den = 1
theorem Drawn.valid {f : GFraction} (h : Drawn f) : f.valid := ⟨h.d0, by have := h.d1; omega, by have := h.n0; omega, by have := h.n1; omega, h.cop⟩
end Go.Vs.G

namespace Go.Vs.G
open Go Go.Vs

theorem Red.same {n d : Int} {f g : GFraction} (hf : Red n d f) (hg : Red n d g) (hd : d ≠ 0) : f = g := by
  refine Red.unique hf.pos hg.pos hf.cop hg.cop ?_
  have e1 := hf.eq
  have e2 := hg.eq
  refine Int.eq_of_mul_eq_mul_left (a := d) hd ?_
  calc d * (f.Num * g.Den) = (f.Num * d) * g.Den := by simp only [Int.mul_assoc, Int.mul_comm, Int.mul_left_comm]
    _ = (g.Num * d) * f.Den := by rw [e1, e2]; simp only [Int.mul_assoc, Int.mul_comm, Int.mul_left_comm]
    _ = d * (g.Num * f.Den) := by simp only [Int.mul_assoc, Int.mul_comm, Int.mul_left_comm]
/- counting -/
/- the same on both sides -/
/- draws -/
end Go.Vs.G

namespace Go.Vs.G
open Go Go.Vs

theorem withinB (n a b : Int) : impl_within n a b = some (decide (a ≤ n ∧ n ≤ b)) := by unfold impl_within; split <;> simp <;> omega
theorem inB (n a b : Int) : spec_l00In n a b = some (decide (a ≤ n ∧ n ≤ b)) := by unfold spec_l00In; split <;> simp <;> omega
/-- a brightness -/
def brt (f : GFraction) : Prop := (0 ≤ f.Num ∧ f.Num ≤ 100000) ∧ f.Den ≤ 100000
instance (f : GFraction) : Decidable (brt f) := by unfold brt; infer_instance
instance (f : GFraction) : Decidable f.valid := by unfold GFraction.valid; infer_instance
/- light behind losses -/
/- the farthest -/
def FarR (c : Int → Bool) (r : Int × Int) : Prop := (r.2 = 0 ∧ 1 ≤ r.1 ∧ r.1 ≤ 1000 ∧ c r.1 = true ∧ ∀ t, r.1 < t → t ≤ 1000 → c t = false) ∨ (r = (0, 3) ∧ ∀ t, 1 ≤ t → t ≤ 1000 → c t = false)
theorem FarR.unique {c : Int → Bool} {r r' : Int × Int} (h : FarR c r) (h' : FarR c r') : r = r' := by
  obtain ⟨v, e⟩ := r
  obtain ⟨v', e'⟩ := r'
  rcases h with ⟨h1, h2, h3, h4, h5⟩ | ⟨h1, h2⟩ <;> rcases h' with ⟨k1, k2, k3, k4, k5⟩ | ⟨k1, k2⟩ <;> (try simp only at *)
  · subst h1 k1
    rcases Int.lt_trichotomy v v' with hh | hh | hh
    · rw [h5 v' hh k3] at k4; cases k4
    · rw [hh]
    · rw [k5 v hh h3] at h4; cases h4
  · rw [k2 v h2 h3] at h4; cases h4
  · rw [h2 v' k2 k3] at k4; cases k4
  · rw [h1, k1]
/- draws -/
section
variable {code : List Int} (hc : okL (okI .u8) code) (hl : code.length ≤ 1000000)
include hc hl
end

end Go.Vs.G

namespace Go.Vs
open Go

theorem and_one {q : Nat} (h : q < 9223372036854775808) : bit_and .i64 (q : Int) 1 = ((q % 2 : Nat) : Int) := by
  show IntKind.wrap .i64 (((BitVec.ofInt 64 (q : Int) &&& BitVec.ofInt 64 1).toNat : Nat) : Int) = _
  rw [BitVec.toNat_and, BitVec.toNat_ofInt, BitVec.toNat_ofInt]
  have h1 : ((q : Int) % ((2 ^ 64 : Nat) : Int)).toNat = q := by omega
  have h2 : ((1 : Int) % ((2 ^ 64 : Nat) : Int)).toNat = 1 := by decide
  rw [h1, h2, Nat.and_one_is_mod]
  exact w64_id (by omega) (by omega)
theorem wu64 {i : Nat} (h : i < 18446744073709551616) : IntKind.wrap .u64 (i : Int) = (i : Int) := by rw [wu64_def]; omega
theorem shr_nat {x i : Nat} (hi : i ≤ 64) : shr? .i64 (x : Int) (IntKind.wrap .u64 (i : Int)) = some ((x / 2 ^ i : Nat) : Int) := by
  rw [wu64 (by omega)]
  have h1 : ¬ ((i : Int) < 0) := by omega
  have h2 : min (i : Int).toNat IntKind.i64.bits = i := by simp [IntKind.bits]; omega
  rw [shr?, if_neg h1, h2, Int.fdiv_eq_ediv_of_nonneg _ (by exact_mod_cast Nat.zero_le (2 ^ i))]
  congr 1
theorem shl_one {n : Nat} (hn : n ≤ 62) : shl? .i64 1 (IntKind.wrap .u64 (n : Int)) = some ((2 ^ n : Nat) : Int) := by
  rw [wu64 (by omega)]
  have h1 : ¬ ((n : Int) < 0) := by omega
  have h2 : min (n : Int).toNat IntKind.i64.bits = n := by simp [IntKind.bits]; omega
  have h3 : 2 ^ n ≤ 2 ^ 62 := Nat.pow_le_pow_right (by omega) hn
  rw [shl?, if_neg h1, h2, Int.one_mul]
  have e : ((2 : Int) ^ n) = ((2 ^ n : Nat) : Int) := by simp
  have h4 : (2 : Nat) ^ 62 = 4611686018427387904 := by decide
  rw [e]
  rw [h4] at h3
  generalize 2 ^ n = P at h3 ⊢
  exact congrArg some (w64_id (by omega) (by omega))
theorem bit_of {x i : Nat} : (((x / 2 ^ i % 2 : Nat) : Int) = 1) ↔ x.testBit i = true := by
  rw [Nat.testBit_eq_decide_div_mod_eq, decide_eq_true_eq]; omega
theorem bit_at {x i : Nat} (hx : x < 9223372036854775808) (hi : i ≤ 64) : bit_and .i64 ((x / 2 ^ i : Nat) : Int) 1 = 1 ↔ x.testBit i = true := by
  have : x / 2 ^ i ≤ x := Nat.div_le_self ..
  rw [and_one (by omega), bit_of]
theorem mem_sl' {c : Nat → Bool} {v : Int} : ∀ {k : Nat}, v ∈ sl c k → ∃ j : Nat, v = (j : Int) ∧ j < k ∧ c j = true
  | 0, h => by simp [sl] at h
  | k + 1, h => by
    rw [sl] at h
    split at h
    · rename_i hc
      simp only [List.mem_append, List.mem_singleton] at h
      rcases h with h | h
      · obtain ⟨j, h1, h2, h3⟩ := mem_sl' h; exact ⟨j, h1, by omega, h3⟩
      · exact ⟨k, h, by omega, hc⟩
    · obtain ⟨j, h1, h2, h3⟩ := mem_sl' h; exact ⟨j, h1, by omega, h3⟩
end Go.Vs

namespace Go.Vs.G
open Go Go.Vs

/-- the lamps of a set -/
abbrev ixs (n x : Nat) : List Int := sl (fun i => x.testBit i) n
theorem ix_rng {n x : Nat} : ∀ v, v ∈ ixs n x → 0 ≤ v ∧ v < n := fun v hv => by
  obtain ⟨j, rfl, hj, _⟩ := mem_sl' hv; omega
theorem ix_len (n x : Nat) : (ixs n x).length ≤ n := sl_len _ _
theorem p16 {n : Nat} (h : n ≤ 16) : 2 ^ n ≤ 65536 := Nat.le_trans (Nat.pow_le_pow_right (by omega) h) (by decide)
theorem indicesOf_eq {n x : Nat} (hn : n ≤ 16) (hx : x < 2 ^ n) : impl_indicesOf (x : Int) = some (ixs n x) := by
  have h8 := p16 hn
  refine eq_of_wp ?_
  unfold impl_indicesOf
  -- where no bits are left
  have hex : ∃ m, m ≤ n ∧ x / 2 ^ m = 0 ∧ ∀ j, j < m → 0 < x / 2 ^ j := by
    have : ∀ d, x / 2 ^ d = 0 → ∃ m, m ≤ d ∧ x / 2 ^ m = 0 ∧ ∀ j, j < m → 0 < x / 2 ^ j := by
      intro d
      induction d with
      | zero => intro h; exact ⟨0, by omega, h, fun j hj => by omega⟩
      | succ d ih =>
        intro h
        by_cases h0 : x / 2 ^ d = 0
        · obtain ⟨m, h1, h2⟩ := ih h0; exact ⟨m, by omega, h2⟩
        · refine ⟨d + 1, Nat.le_refl _, h, fun j hj => ?_⟩
          have : x / 2 ^ d ≤ x / 2 ^ j := Nat.div_le_div_left (Nat.pow_le_pow_right (by omega) (by omega)) (Nat.pow_pos (by omega))
          exact Nat.lt_of_lt_of_le (Nat.pos_of_ne_zero h0) this
    exact this n (Nat.div_eq_of_lt hx)
  obtain ⟨m, hm, hz, hp⟩ := hex
  have hcut : ∀ k, m ≤ k → ixs k x = ixs m x := by
    intro k hk
    induction k with
    | zero => rw [show m = 0 by omega]
    | succ k ih =>
      rcases Nat.lt_or_ge k m with h1 | h1
      · rw [show m = k + 1 by omega]
      · have hb : x.testBit k = false := by
          rw [Nat.testBit_eq_decide_div_mod_eq, decide_eq_false_iff_not]
          have : x / 2 ^ k ≤ x / 2 ^ m := Nat.div_le_div_left (Nat.pow_le_pow_right (by omega) h1) (Nat.pow_pos (by omega))
          rw [hz] at this
          rw [Nat.le_zero.1 this]; decide
        rw [ixs, sl, hb, ← ih h1]; rfl
  refine wp_cnt (fun k => (ixs k x, (k : Int))) m rfl (by omega) (fun k hk => ?_) (b := ixs n x) ?_ (wp_some rfl)
  · have h1 := ix_len k x
    have h2 := hp k hk
    simp only
    rw [shr_nat (by omega), Option.bind_some, if_pos (by omega), Option.bind_some, w64_id (by omega) (by omega)]
    by_cases hb : x.testBit k = true
    · rw [if_pos ((bit_at (by omega) (by omega)).2 hb), app_ok (by simp; omega), Option.bind_some]
      simp only [ixs, sl, hb, if_true]; rfl
    · rw [if_neg (fun h => hb ((bit_at (by omega) (by omega)).1 h))]
      simp only [ixs, sl, hb, if_false]; rfl
  · simp only
    rw [shr_nat (by omega), Option.bind_some, if_neg (by omega), hcut n hm]
/-- the first difference decides -/
def lexlt : List Int → List Int → Bool
  | x :: a, y :: b => if x = y then lexlt a b else decide (x < y)
  | _, _ => false
def less (a b : List Int) : Bool := if a.length = b.length then lexlt a b else decide (a.length < b.length)
theorem lexlt_drop {a b : List Int} {i : Nat} (ha : i < a.length) (hb : i < b.length) : lexlt (a.drop i) (b.drop i) = if a[i] = b[i] then lexlt (a.drop (i + 1)) (b.drop (i + 1)) else decide (a[i] < b[i]) := by
  rw [List.drop_eq_getElem_cons ha, List.drop_eq_getElem_cons hb, lexlt]
theorem l11Less_eq {a b : List Int} (ha : a.length ≤ 1000000) : spec_l11Less a b = some (less a b) := by
  unfold spec_l11Less less
  by_cases hl : a.length = b.length
  · rw [if_pos (by omega), if_pos hl]
    refine eq_of_wp ?_
    refine wp_loop (fun i : Int => ∃ k : Nat, i = (k : Int) ∧ k ≤ a.length ∧ lexlt (a.drop k) (b.drop k) = lexlt a b) (fun i => (a.length - i).toNat) ⟨0, rfl, by omega, by simp⟩ (by omega) ?_
    rintro i ⟨k, rfl, hk, he⟩
    refine wp_ite (fun h => ?_) (fun h => ?_)
    · have h1 : k < a.length := by omega
      have h2 : k < b.length := by omega
      rw [at_of h1, Option.bind_some, at_of h2, Option.bind_some]
      rw [lexlt_drop h1 h2] at he
      refine wp_ite (fun h3 => ?_) (fun h3 => ?_)
      · rw [if_pos h3] at he
        rw [w64_succ h1 (by omega)]
        exact wp_some ⟨⟨k + 1, rfl, by omega, he⟩, by omega⟩
      · rw [if_neg h3] at he
        exact wp_some (wp_some he)
    · obtain rfl : k = a.length := by omega
      refine wp_some (wp_some ?_)
      rw [← he]; simp [lexlt]
  · rw [if_neg (by omega), if_neg hl]; congr 1; rw [decide_eq_decide]; omega
theorem cmp_eq (x y : Int) : cmp_Compare_int64_27 x y = some (if x < y then -1 else if x > y then 1 else 0) := by
  unfold cmp_Compare_int64_27 cmp_isNaN_int64_31
  simp only [decide_true, Bool.not_true, Option.bind_some, Bool.false_eq_true, if_false]
  split
  · rfl
  · split <;> rfl
theorem Compare_eq {a b : List Int} (hl : a.length = b.length) (ha : a.length ≤ 1000000) : ∃ r, slices_Compare_int64_int64_792 a b = some r ∧ decide (r < 0) = lexlt a b := by
  have key : wp (slices_Compare_int64_int64_792 a b) (fun r => decide (r < 0) = lexlt a b) := by
    unfold slices_Compare_int64_int64_792
    refine wp_loop (fun i : Int => ∃ k : Nat, i = (k : Int) ∧ k ≤ a.length ∧ lexlt (a.drop k) (b.drop k) = lexlt a b) (fun i => (a.length - i).toNat) ⟨0, rfl, by omega, by simp⟩ (by omega) ?_
    rintro i ⟨k, rfl, hk, he⟩
    refine wp_ite (fun h => ?_) (fun h => ?_)
    · have h1 : k < a.length := by omega
      have h2 : k < b.length := by omega
      rw [at_of h1, Option.bind_some, if_neg (by omega), at_of h2, Option.bind_some, cmp_eq, Option.bind_some]
      rw [lexlt_drop h1 h2] at he
      refine wp_ite (fun h3 => ?_) (fun h3 => ?_)
      · have hh : a[k] = b[k] := by
          split at h3
          · omega
          · split at h3 <;> omega
        rw [if_pos hh] at he
        rw [w64_succ h1 (by omega)]
        exact wp_some ⟨⟨k + 1, rfl, by omega, he⟩, by omega⟩
      · refine wp_some (wp_some ?_)
        by_cases hlt : a[k] < b[k]
        · rw [if_neg (by omega), decide_eq_true hlt] at he
          rw [if_pos hlt, ← he]; rfl
        · have hh : a[k] ≠ b[k] := fun hh => h3 (by rw [if_neg hlt, if_neg (by omega)])
          rw [if_neg hh, decide_eq_false hlt] at he
          rw [if_neg hlt, if_pos (by omega), ← he]; rfl
    · obtain rfl : k = a.length := by omega
      refine wp_some ?_
      rw [if_neg (by omega)]
      refine wp_some ?_
      rw [← he]; simp [lexlt]
  exact key
end Go.Vs.G

namespace Go.Vs
open Go

/-- numbers that rise -/
def Rise (l : List Int) : Prop := l.Pairwise (· < ·)
theorem rise_eq : ∀ {a b : List Int}, Rise a → Rise b → (∀ x, x ∈ a ↔ x ∈ b) → a = b
  | [], [], _, _, _ => rfl
  | [], y :: b, _, _, h => by have := (h y).2 (by simp); simp at this
  | x :: a, [], _, _, h => by have := (h x).1 (by simp); simp at this
  | x :: a, y :: b, ha, hb, h => by
    unfold Rise at ha hb
    rw [List.pairwise_cons] at ha hb
    have hxy : x = y := by
      have h1 := (h x).1 (by simp)
      have h2 := (h y).2 (by simp)
      simp only [List.mem_cons] at h1 h2
      rcases h1 with h1 | h1
      · exact h1
      · rcases h2 with h2 | h2
        · exact h2.symm
        · have := hb.1 x h1; have := ha.1 y h2; omega
    subst hxy
    rw [rise_eq ha.2 hb.2 fun z => ?_]
    constructor
    · intro hz
      have h1 := (h z).1 (by simp [hz])
      have := ha.1 z hz
      simp only [List.mem_cons] at h1
      rcases h1 with h1 | h1
      · omega
      · exact h1
    · intro hz
      have h1 := (h z).2 (by simp [hz])
      have := hb.1 z hz
      simp only [List.mem_cons] at h1
      rcases h1 with h1 | h1
      · omega
      · exact h1
theorem mem_sl {c : Nat → Bool} {v : Int} : ∀ {k : Nat}, v ∈ sl c k ↔ ∃ j : Nat, v = (j : Int) ∧ j < k ∧ c j = true := by
  intro k
  refine ⟨mem_sl', ?_⟩
  rintro ⟨j, rfl, hj, hc⟩
  induction k with
  | zero => omega
  | succ k ih =>
    rw [sl]
    rcases Nat.lt_or_ge j k with h | h
    · split <;> simp [ih h]
    · obtain rfl : j = k := by omega
      rw [if_pos hc]; simp
theorem rise_sl (c : Nat → Bool) : ∀ k, Rise (sl c k)
  | 0 => by simp [Rise, sl]
  | k + 1 => by
    have ih := rise_sl c k
    rw [sl]
    split
    · unfold Rise at ih ⊢
      rw [List.pairwise_append]
      refine ⟨ih, by simp, fun x hx y hy => ?_⟩
      obtain ⟨j, rfl, hj, _⟩ := mem_sl'  hx
      simp only [List.mem_singleton] at hy
      omega
    · exact ih
theorem rise_mono {l : List Int} : ∀ {n : Nat}, (∀ i (h : i < l.length), (∀ h2 : 0 < i, l[i - 1] < l[i])) → ∀ (i j : Nat) (hij : i < j) (hj : j < l.length), l[i] < l[j] := by
  intro _ h i j hij hj
  induction j with
  | zero => omega
  | succ j ih =>
    have h1 := h (j + 1) hj (by omega)
    simp only [Nat.add_sub_cancel] at h1
    rcases Nat.lt_or_ge i j with h2 | h2
    · have := ih h2 (by omega); omega
    · obtain rfl : i = j := by omega
      exact h1
theorem rise_of {l : List Int} (h : ∀ i (h : i < l.length), (∀ h2 : 0 < i, l[i - 1] < l[i])) : Rise l := by
  unfold Rise
  rw [List.pairwise_iff_getElem]
  intro i j hi hj hij
  exact rise_mono (n := 0) h i j hij hj
/-- a sorted list without doubles -/
theorem getB {l : List Int} {j : Nat} (h : j < l.length) : l.toArray[j]! = l[j] := by simp [h]
theorem mem_compact {l : List Int} {x : Int} : x ∈ Lib.compact l ↔ x ∈ l := by
  unfold Lib.compact Lib.compactUpTo
  rw [List.mem_map]
  constructor
  · rintro ⟨j, hj, rfl⟩
    rw [List.mem_filter, List.mem_range] at hj
    rw [getB hj.1]; exact List.getElem_mem _
  · intro hx
    obtain ⟨j, hj, rfl⟩ := List.getElem_of_mem hx
    clear hx
    induction j with
    | zero => exact ⟨0, by rw [List.mem_filter, List.mem_range]; exact ⟨hj, by simp [Lib.keeps]⟩, getB hj⟩
    | succ j ih =>
      by_cases he : l[j + 1] = l[j]
      · rw [he]; exact ih (by omega)
      · refine ⟨j + 1, ?_, getB hj⟩
        rw [List.mem_filter, List.mem_range]
        refine ⟨hj, Lib.keeps_pos ?_⟩
        rw [getB hj, Nat.add_sub_cancel, getB (by omega)]; exact he
theorem rise_compact {l : List Int} (h : l.Pairwise fun x y => decide (x ≤ y) = true) : Rise (Lib.compact l) := by
  unfold Rise Lib.compact Lib.compactUpTo
  rw [List.pairwise_map]
  have h0 : (List.range l.length).Pairwise (· < ·) := List.pairwise_lt_range
  refine List.Pairwise.imp_of_mem ?_ (List.Pairwise.filter _ h0)
  intro i j hi hj hij
  rw [List.mem_filter, List.mem_range] at hi hj
  rw [List.pairwise_iff_getElem] at h
  have hk := hj.2
  unfold Lib.keeps at hk
  rw [decide_eq_true_eq] at hk
  rcases hk with hk | hk
  · omega
  · rw [getB hj.1, getB (by omega)] at hk
    rw [getB hi.1, getB hj.1]
    have h1 := h (j - 1) j (by omega) hj.1 (by omega)
    rw [decide_eq_true_eq] at h1
    rcases Nat.lt_or_ge i (j - 1) with h2 | h2
    · have h3 := h i (j - 1) hi.1 (by omega) h2
      rw [decide_eq_true_eq] at h3
      omega
    · have : i = j - 1 := by omega
      subst this
      omega
theorem rise_srt {l : List Int} : Rise (Lib.compact (srt l)) := by
  refine rise_compact ?_
  exact List.pairwise_mergeSort (fun a b c h1 h2 => by simp only [decide_eq_true_eq] at *; omega) (fun a b => by simp only [Bool.or_eq_true, decide_eq_true_eq]; omega) l
theorem mem_srt {l : List Int} {x : Int} : x ∈ Lib.compact (srt l) ↔ x ∈ l := by
  rw [mem_compact]; exact List.mem_mergeSort
theorem i64_nat {x : Nat} (hx : x < 9223372036854775808) : (BitVec.ofInt IntKind.i64.bits (x : Int)) = BitVec.ofNat 64 x := by
  show BitVec.ofInt 64 (x : Int) = _
  rw [BitVec.ofInt_natCast]
theorem bor_nat {x y : Nat} (hx : x < 2 ^ 62) (hy : y < 2 ^ 62) : bit_or .i64 (x : Int) (y : Int) = ((x ||| y : Nat) : Int) := by
  have hlt : x ||| y < 2 ^ 62 := Nat.or_lt_two_pow hx hy
  have h4 : (2 : Nat) ^ 62 = 4611686018427387904 := by decide
  rw [h4] at hx hy hlt
  unfold bit_or
  rw [i64_nat (by omega), i64_nat (by omega)]
  show IntKind.wrap .i64 (((BitVec.ofNat 64 x ||| BitVec.ofNat 64 y).toNat : Nat) : Int) = _
  rw [BitVec.toNat_or, BitVec.toNat_ofNat, BitVec.toNat_ofNat, Nat.mod_eq_of_lt (by omega), Nat.mod_eq_of_lt (by omega)]
  exact w64_id (by omega) (by omega)
/-- numbers as bits -/
def bitsN : List Int → Nat
  | [] => 0
  | v :: l => 2 ^ v.toNat ||| bitsN l
def small20 (l : List Int) : Prop := ∀ v, v ∈ l → 0 ≤ v ∧ v < 20
theorem bitsN_test : ∀ {l : List Int}, (∀ v, v ∈ l → 0 ≤ v) → ∀ i, (bitsN l).testBit i = decide ((i : Int) ∈ l)
  | [], _, i => by simp [bitsN]
  | v :: l, h, i => by
    have h0 := h v (by simp)
    rw [bitsN, Nat.testBit_or, bitsN_test (fun x hx => h x (by simp [hx])), Nat.testBit_two_pow]
    by_cases h1 : v.toNat = i
    · have : (i : Int) = v := by omega
      simp [h1, this]
    · have : ¬ ((i : Int) = v) := by omega
      simp [h1, this]
theorem bitsN_lt : ∀ {l : List Int}, small20 l → bitsN l < 2 ^ 20
  | [], _ => by simp [bitsN]
  | v :: l, h => by
    have h0 := h v (by simp)
    rw [bitsN]
    exact Nat.or_lt_two_pow (Nat.pow_lt_pow_right (by omega) (by omega)) (bitsN_lt fun x hx => h x (by simp [hx]))
theorem bitsN_snoc (l : List Int) (v : Int) : bitsN (l ++ [v]) = bitsN l ||| 2 ^ v.toNat := by
  induction l with
  | nil => simp [bitsN]
  | cons x l ih => rw [List.cons_append, bitsN, ih, bitsN, Nat.or_assoc]
/-- the set of a rising list -/
theorem sl_bits {l : List Int} {n : Nat} (hr : Rise l) (hl : ∀ v, v ∈ l → 0 ≤ v ∧ v < n) : sl (bitsN l).testBit n = l := by
  refine rise_eq (rise_sl _ _) hr fun x => ?_
  rw [mem_sl]
  constructor
  · rintro ⟨j, rfl, hj, hb⟩
    rw [bitsN_test (fun v hv => (hl v hv).1)] at hb
    exact of_decide_eq_true hb
  · intro hx
    have := hl x hx
    refine ⟨x.toNat, by omega, by omega, ?_⟩
    rw [bitsN_test (fun v hv => (hl v hv).1), show ((x.toNat : Nat) : Int) = x by omega]
    exact decide_eq_true hx
theorem bits_sl {x n : Nat} (hx : x < 2 ^ n) : bitsN (sl x.testBit n) = x := by
  refine Nat.eq_of_testBit_eq fun i => ?_
  rw [bitsN_test (fun v hv => by obtain ⟨j, rfl, _⟩ := mem_sl' hv; omega)]
  by_cases h : x.testBit i = true
  · rw [h]
    refine decide_eq_true (mem_sl.2 ⟨i, rfl, ?_, h⟩)
    refine Classical.byContradiction fun hn => ?_
    have : x.testBit i = false := Nat.testBit_lt_two_pow (Nat.lt_of_lt_of_le hx (Nat.pow_le_pow_right (by omega) (by omega)))
    rw [this] at h; cases h
  · rw [decide_eq_false]
    · simpa using h
    · intro hm
      obtain ⟨j, hj, _, hb⟩ := mem_sl'  hm
      have : j = i := by omega
      subst this
      exact h hb
end Go.Vs

namespace Go.Vs.G
open Go Go.Vs

/-- bits of a list, by the reference -/
theorem l22Bits_eq {l : List Int} (hl : small20 l) (h2 : l.length ≤ 1048576) : spec_l22Bits l = some ((bitsN l : Nat) : Int) := by
  refine eq_of_wp ?_
  unfold spec_l22Bits
  refine wp_cnt (fun k => (((bitsN (l.take k) : Nat) : Int), (k : Int))) l.length (by simp [bitsN]) (by omega) (fun k hk => ?_) (b := ((bitsN l : Nat) : Int)) ?_ (wp_some rfl)
  · simp only
    have h3 := hl l[k] (List.getElem_mem hk)
    have e : l.take (k + 1) = l.take k ++ [l[k]] := by rw [List.take_add_one, List.getElem?_eq_getElem hk]; rfl
    have hs : small20 (l.take k) := fun v hv => hl v (List.mem_of_mem_take hv)
    have ev : l[k] = ((l[k].toNat : Nat) : Int) := by omega
    rw [if_pos (by omega), at_of hk, Option.bind_some, ev, shl_one (by omega), Option.bind_some, w64_id (by omega) (by omega),
      bor_nat (Nat.lt_of_lt_of_le (bitsN_lt hs) (Nat.pow_le_pow_right (by omega) (by omega))) (Nat.pow_lt_pow_right (by omega) (by omega)), e, bitsN_snoc]
    rfl
  · simp only; rw [if_neg (by omega), List.take_length]
theorem l22List_eq {b : Nat} (hb : b < 2 ^ 20) : spec_l22List (b : Int) = some (sl b.testBit 20) := by
  have h4 : (2 : Nat) ^ 20 = 1048576 := by decide
  rw [h4] at hb
  refine eq_of_wp ?_
  unfold spec_l22List
  refine wp_cnt (fun k => (sl b.testBit k, (k : Int))) 20 rfl (by omega) (fun k hk => ?_) (b := sl b.testBit 20) ?_ (wp_some rfl)
  · have := sl_len b.testBit k
    have h5 : b / 2 ^ k ≤ b := Nat.div_le_self ..
    simp only
    rw [if_pos (by omega), shr_nat (by omega), Option.bind_some, w64_id (by omega) (by omega)]
    by_cases hc : b.testBit k = true
    · rw [if_pos ((bit_at (by omega) (by omega)).2 hc), app_ok (by simp; omega), Option.bind_some]
      simp only [sl, hc, if_true]; rfl
    · rw [if_neg (fun h => hc ((bit_at (by omega) (by omega)).1 h))]
      simp only [sl, hc, if_false]; rfl
  · simp only; rw [if_neg (by omega)]
/-- causes with few signs -/
def few20 (l : List GCause) : Prop := l.length ≤ 10 ∧ (∀ x, x ∈ l → small20 x.Signs) ∧ (∀ x, x ∈ l → x.Signs.length ≤ 1048576) ∧ ∀ x, x ∈ l → Rise x.Signs
/-- the signs of cause i -/
def sg (l : List GCause) (i : Nat) : List Int := (l.getD i (GCause.mk [] [])).Signs
theorem sg_get {l : List GCause} {i : Nat} (h : i < l.length) : sg l i = l[i].Signs := by simp [sg, List.getD_eq_getElem?_getD, List.getElem?_eq_getElem h]
theorem sg_small {l : List GCause} (hl : few20 l) {i : Nat} (h : i < l.length) : small20 (sg l i) := by rw [sg_get h]; exact hl.2.1 _ (List.getElem_mem h)
/-- the signs of some causes as bits -/
def sgN (l : List GCause) (c : Nat → Bool) : Nat → Nat
  | 0 => 0
  | k + 1 => if c k = true then sgN l c k ||| bitsN (sg l k) else sgN l c k
theorem sgN_lt {l : List GCause} (hl : few20 l) (c : Nat → Bool) : ∀ {k : Nat}, k ≤ l.length → sgN l c k < 2 ^ 20
  | 0, _ => by simp [sgN]
  | k + 1, h => by
    have ih := sgN_lt hl c (k := k) (by omega)
    rw [sgN]
    split
    · exact Nat.or_lt_two_pow ih (bitsN_lt (sg_small hl (by omega)))
    · exact ih
theorem sgN_test {l : List GCause} (hl : few20 l) (c : Nat → Bool) {i : Nat} : ∀ {k : Nat}, k ≤ l.length → ((sgN l c k).testBit i = true ↔ ∃ j, j < k ∧ c j = true ∧ (i : Int) ∈ sg l j)
  | 0, _ => by simp [sgN]
  | k + 1, h => by
    have ih := sgN_test hl c (i := i) (k := k) (by omega)
    have hb := bitsN_test (l := sg l k) (fun v hv => (sg_small hl (by omega) v hv).1) i
    rw [sgN]
    constructor
    · intro ht
      split at ht
      · rename_i hc
        rw [Nat.testBit_or, Bool.or_eq_true, ih, hb, decide_eq_true_eq] at ht
        rcases ht with ⟨j, h1, h2, h3⟩ | ht
        · exact ⟨j, by omega, h2, h3⟩
        · exact ⟨k, by omega, hc, ht⟩
      · obtain ⟨j, h1, h2, h3⟩ := ih.1 ht; exact ⟨j, by omega, h2, h3⟩
    · rintro ⟨j, h1, h2, h3⟩
      rcases Nat.lt_or_ge j k with h4 | h4
      · have := ih.2 ⟨j, h4, h2, h3⟩
        split
        · rw [Nat.testBit_or, this]; rfl
        · exact this
      · obtain rfl : j = k := by omega
        rw [if_pos h2, Nat.testBit_or, hb, decide_eq_true h3, Bool.or_true]
theorem l22Signs_eq {l : List GCause} (hl : few20 l) {b : Nat} (hb : b < 2 ^ 20) : spec_l22Signs l (b : Int) = some ((sgN l b.testBit l.length : Nat) : Int) := by
  have h4 : (2 : Nat) ^ 20 = 1048576 := by decide
  rw [h4] at hb
  have h10 := hl.1
  refine eq_of_wp ?_
  unfold spec_l22Signs
  refine wp_cnt (fun k => (((sgN l b.testBit k : Nat) : Int), (k : Int))) l.length (by simp [sgN]) (by omega) (fun k hk => ?_) (b := ((sgN l b.testBit l.length : Nat) : Int)) ?_ (wp_some rfl)
  · have h5 : b / 2 ^ k ≤ b := Nat.div_le_self ..
    simp only
    rw [if_pos (by omega), shr_nat (by omega), Option.bind_some, w64_id (by omega) (by omega)]
    by_cases hc : b.testBit k = true
    · rw [if_pos ((bit_at (by omega) (by omega)).2 hc), at_of hk, Option.bind_some, l22Bits_eq (hl.2.1 _ (List.getElem_mem hk)) (hl.2.2.1 _ (List.getElem_mem hk)), Option.bind_some,
        bor_nat (Nat.lt_of_lt_of_le (sgN_lt hl _ (by omega)) (Nat.pow_le_pow_right (by omega) (by omega))) (Nat.lt_of_lt_of_le (bitsN_lt (hl.2.1 _ (List.getElem_mem hk))) (Nat.pow_le_pow_right (by omega) (by omega)))]
      simp only [sgN, hc, if_true, sg_get hk]; rfl
    · rw [if_neg (fun h => hc ((bit_at (by omega) (by omega)).1 h))]
      simp only [sgN, hc, if_false]; rfl
  · simp only; rw [if_neg (by omega)]
/-- the signs of some causes, all in a row -/
def cat (l : List GCause) : List Int → List Int
  | [] => []
  | k :: s => sg l k.toNat ++ cat l s
theorem cat_snoc (l : List GCause) (s : List Int) (k : Int) : cat l (s ++ [k]) = cat l s ++ sg l k.toNat := by
  induction s with
  | nil => simp [cat]
  | cons x s ih => rw [List.cons_append, cat, ih, cat, List.append_assoc]
theorem mem_cat {l : List GCause} {x : Int} : ∀ {s : List Int}, x ∈ cat l s ↔ ∃ k, k ∈ s ∧ x ∈ sg l k.toNat
  | [] => by simp [cat]
  | k :: s => by rw [cat, List.mem_append, mem_cat]; simp
theorem sg_len {l : List GCause} (hl : few20 l) {i : Nat} (h : i < l.length) : (sg l i).length ≤ 20 := by
  have h1 := sg_small hl h
  have h2 : Rise (sg l i) := by rw [sg_get h]; exact hl.2.2.2 _ (List.getElem_mem h)
  rw [← sl_bits (n := 20) h2 (fun v hv => by have := h1 v hv; omega)]
  exact sl_len _ _
theorem cat_len {l : List GCause} (hl : few20 l) : ∀ {s : List Int}, (∀ v, v ∈ s → 0 ≤ v ∧ v < l.length) → (cat l s).length ≤ 20 * s.length
  | [], _ => by simp [cat]
  | k :: s, h => by
    have h0 := h k (by simp)
    have h1 := sg_len hl (i := k.toNat) (by omega)
    have h2 := cat_len hl (s := s) (fun v hv => h v (by simp [hv]))
    rw [cat, List.length_append, List.length_cons]; omega
theorem signsOf_eq {l : List GCause} (hl : few20 l) {s : List Int} (hs : ∀ v, v ∈ s → 0 ≤ v ∧ v < l.length) (hn : s.length ≤ 1048576) {c : Nat → Bool} (hc : ∀ i, i < l.length → (c i = true ↔ (i : Int) ∈ s)) :
    impl_signsOf l s = some (sl (sgN l c l.length).testBit 20) := by
  have h10 := hl.1
  refine eq_of_wp ?_
  unfold impl_signsOf
  refine wp_cnt (fun k => (cat l (s.take k), (k : Int))) s.length (by simp [cat]) (by omega) (fun k hk => ?_) (b := cat l s) ?_ ?_
  · have h3 := hs s[k] (List.getElem_mem hk)
    have e : s.take (k + 1) = s.take k ++ [s[k]] := by rw [List.take_add_one, List.getElem?_eq_getElem hk]; rfl
    have h4 := cat_len hl (s := s.take k) (fun v hv => hs v (List.mem_of_mem_take hv))
    have h5 : (s.take k).length ≤ s.length := List.length_take_le' ..
    have ev : s[k] = ((s[k].toNat : Nat) : Int) := by omega
    have hk2 : s[k].toNat < l.length := by omega
    have h6 := sg_len hl hk2
    rw [sg_get hk2] at h6
    simp only
    rw [if_pos (by omega), at_of hk, Option.bind_some, ev, at_of hk2, Option.bind_some, app_ok (by omega), Option.bind_some, w64_id (by omega) (by omega), e, cat_snoc, sg_get hk2]
    rfl
  · simp only; rw [if_neg (by omega), List.take_length]
  · have h4 := cat_len hl hs
    unfold slices_Sort_int64 slices_Compact_int64
    have h5 : (srt (cat l s)).length = (cat l s).length := List.length_mergeSort _
    rw [if_pos (by omega), Option.bind_some, if_pos (by omega), Option.bind_some]
    refine wp_some (rise_eq rise_srt (rise_sl _ _) fun x => ?_)
    rw [mem_srt, mem_cat, mem_sl]
    constructor
    · rintro ⟨k, hk, hx⟩
      have h3 := hs k hk
      have h7 := sg_small hl (i := k.toNat) (by omega) x hx
      refine ⟨x.toNat, by omega, by omega, (sgN_test hl c (Nat.le_refl _)).2 ⟨k.toNat, by omega, (hc _ (by omega)).2 ?_, ?_⟩⟩
      · rwa [show ((k.toNat : Nat) : Int) = k by omega]
      · rwa [show ((x.toNat : Nat) : Int) = x by omega]
    · rintro ⟨j, rfl, hj, hb⟩
      obtain ⟨k, h1, h2, h3⟩ := (sgN_test hl c (Nat.le_refl _)).1 hb
      exact ⟨(k : Int), (hc k h1).1 h2, h3⟩
theorem vcs.few {m : Int} {l : List GCause} (h : vcs m l) (hs : ∀ x, x ∈ l → smallC x) : few20 l := by
  have hb : ∀ x, x ∈ l → rises x.Signs 0 (m - 1) := fun x hx => by
    obtain ⟨i, hi, rfl⟩ := List.getElem_of_mem hx; exact (h.2.2 i hi).2.2.1
  refine ⟨h.2.1, fun x hx v hv => ?_, fun x hx => (hs x hx).2, fun x hx => rise_of fun i hi => (hb x hx i hi).2.2⟩
  obtain ⟨i, hi, rfl⟩ := List.getElem_of_mem hv
  have := hb x hx i hi
  have := h.1
  omega
/-- rising numbers from a to b -/
theorem rises.rise {s : List Int} {a b : Int} (h : rises s a b) : Rise s := rise_of fun i hi => (h i hi).2.2
theorem rises.rng {s : List Int} {a b : Int} (h : rises s a b) {v : Int} (hv : v ∈ s) : a ≤ v ∧ v ≤ b := by
  obtain ⟨i, hi, rfl⟩ := List.getElem_of_mem hv; exact ⟨(h i hi).1, (h i hi).2.1⟩
theorem rises.small {s : List Int} {b : Int} (h : rises s 0 b) (hb : b < 20) : small20 s := fun v hv => by have := h.rng hv; omega
open Classical in
/-- the code of causes, some of them and signs that are seen -/
noncomputable def code22 (m : Int) (l : List GCause) (s seen : List Int) : Int := if vcs m l then (if rises s 0 (l.length - 1) ∧ rises seen 0 (m - 1) then 0 else 2) else 1
theorem rises_nil (a b : Int) : rises [] a b := fun i hi => absurd hi (by simp)
open Classical in
/-- n may be 0 here -/
theorem isIncreasing_eq' {l : List Int} {m : Int} (hl : l.length ≤ 1048576) (hm : 0 ≤ m ∧ m ≤ 16) : impl_isIncreasing l m = some (decide (rises l 0 (m - 1))) := by
  by_cases h : 1 ≤ m
  · exact isIncreasing_eq hl ⟨h, hm.2⟩
  · obtain rfl : m = 0 := by omega
    rw [← l00Rises_eq hl]
    unfold impl_isIncreasing spec_l00Rises
    congr 2
    funext i
    split
    · cases at? l i with
      | none => rfl
      | some v =>
        simp only [Option.bind_some]
        rw [show impl_within v 0 (w64 (0 - 1)) = some (decide (0 ≤ v ∧ v ≤ -1)) by rw [w64_id (by omega) (by omega), withinB]; rfl, show spec_l00In v 0 (0 - 1) = some (decide (0 ≤ v ∧ v ≤ -1)) by rw [inB]; rfl, decide_eq_false (by omega)]
    · rfl
open Classical in
theorem causesCode_eq {m : Int} {l : List GCause} {s seen : List Int} (hl : l.length ≤ 1048576) (hs : ∀ x, x ∈ l → smallC x) (h1 : s.length ≤ 1048576) (h2 : seen.length ≤ 1048576) :
    impl_causesCode m l s seen = some (code22 m l s seen) := by
  unfold impl_causesCode code22
  rw [ValidCauses_eq hl hs, Option.bind_some]
  by_cases hv : vcs m l
  · have h3 := hv.1
    have h4 := hv.2.1
    rw [decide_eq_true hv, if_pos rfl, if_pos hv, isIncreasing_eq' h1 (by omega), Option.bind_some]
    by_cases h5 : rises s 0 (l.length - 1)
    · rw [decide_eq_true h5, if_pos rfl, isIncreasing_eq h2 h3, Option.bind_some]
      by_cases h6 : rises seen 0 (m - 1)
      · rw [decide_eq_true h6, if_pos ⟨h5, h6⟩]; rfl
      · rw [decide_eq_false h6, if_neg (fun h => h6 h.2)]; rfl
    · rw [decide_eq_false h5, if_neg (by simp), if_neg (fun h => h5 h.1)]; rfl
  · rw [decide_eq_false hv, if_neg (by simp), if_neg hv]
open Classical in
theorem l22Code_eq {m : Int} {l : List GCause} {seen : List Int} (hl : l.length ≤ 1048576) (hs : ∀ x, x ∈ l → smallC x) (h2 : seen.length ≤ 1048576) :
    spec_l22Code m l seen = some (code22 m l [] seen) := by
  unfold spec_l22Code code22
  rw [l22Ok_eq hl hs, Option.bind_some]
  by_cases hv : vcs m l
  · have h3 := hv.1
    rw [decide_eq_true hv, if_pos rfl, if_pos hv, w64_id (by omega) (by omega), l00Rises_eq h2, Option.bind_some]
    by_cases h6 : rises seen 0 (m - 1)
    · rw [decide_eq_true h6, if_pos rfl, if_pos ⟨rises_nil _ _, h6⟩]
    · rw [decide_eq_false h6, if_neg (by simp), if_neg (fun h => h6 h.2)]
  · rw [decide_eq_false hv, if_neg (by simp), if_neg hv]
theorem code22_zero {m : Int} {l : List GCause} {s seen : List Int} (h : code22 m l s seen = 0) : vcs m l ∧ rises s 0 (l.length - 1) ∧ rises seen 0 (m - 1) := by
  unfold code22 at h
  split at h
  · rename_i hv
    split at h
    · rename_i h2; exact ⟨hv, h2⟩
    · omega
  · omega
end Go.Vs.G

namespace Go.Vs
open Go
/-- those below k that fit, told by g -/
def flt {α : Type} (P : Nat → Bool) (g : Nat → α) (k : Nat) : List α := ((List.range k).filter P).map g
theorem flt_succ {α : Type} (P : Nat → Bool) (g : Nat → α) (k : Nat) : flt P g (k + 1) = flt P g k ++ if P k = true then [g k] else [] := by
  unfold flt
  rw [List.range_succ, List.filter_append, List.map_append]
  congr 1
  by_cases h : P k = true
  · rw [if_pos h]; simp [h]
  · rw [if_neg h]; simp [h]
theorem flt_len {α : Type} (P : Nat → Bool) (g : Nat → α) (k : Nat) : (flt P g k).length ≤ k := by
  unfold flt; rw [List.length_map]; exact Nat.le_trans (List.length_filter_le _ _) (by simp)
end Go.Vs
namespace Go.Vs.G
open Go Go.Vs
theorem EqualL {a b : List Int} (ha : a.length ≤ 1048576) : slices_Equal_int64_int64_811 a b = some (decide (a = b)) := eqSp a b (by omega)
/-- equal signs, as lists and as bits -/
theorem sl_eq_iff {x : Nat} {s : List Int} (hx : x < 2 ^ 20) (hr : Rise s) (hs : small20 s) : sl x.testBit 20 = s ↔ x = bitsN s := by
  have hs' : ∀ v, v ∈ s → 0 ≤ v ∧ v < (20 : Nat) := fun v hv => by have := hs v hv; omega
  constructor
  · intro h; rw [← h, bits_sl hx]
  · intro h; rw [h, sl_bits hr hs']
/-- the sets of causes that explain the signs -/
def expl (l : List GCause) (seen : List Int) : List Nat := (List.range (2 ^ l.length)).filter fun b => decide (sgN l b.testBit l.length = bitsN seen)
theorem expl_len (l : List GCause) (seen : List Int) (h : l.length ≤ 10) : (expl l seen).length ≤ 1024 := by
  have h1 : (2 : Nat) ^ l.length ≤ 2 ^ 10 := Nat.pow_le_pow_right (by omega) h
  have h2 : (expl l seen).length ≤ (List.range (2 ^ l.length)).length := List.length_filter_le _ _
  rw [List.length_range] at h2
  omega
theorem mem_expl {l : List GCause} {seen : List Int} {b : Nat} : b ∈ expl l seen ↔ b < 2 ^ l.length ∧ sgN l b.testBit l.length = bitsN seen := by
  unfold expl; rw [List.mem_filter, List.mem_range, decide_eq_true_eq]
theorem explanations_eq {l : List GCause} {seen : List Int} (hf : few20 l) (hr : Rise seen) (hs : small20 seen) (h2 : seen.length ≤ 1048576) : impl_explanations l seen = some ((expl l seen).map (ixs l.length)) := by
  have h10 := hf.1
  have h1 : (2 : Nat) ^ l.length ≤ 2 ^ 10 := Nat.pow_le_pow_right (by omega) h10
  have h3 : (2 : Nat) ^ 10 = 1024 := by decide
  rw [h3] at h1
  unfold impl_explanations
  rw [shl_one (by omega), Option.bind_some]
  refine eq_of_wp ?_
  generalize hN : 2 ^ l.length = N at h1
  refine wp_cnt (fun k => (flt (fun b => decide (sgN l b.testBit l.length = bitsN seen)) (ixs l.length) k, (k : Int))) N rfl (by omega) (fun k hk => ?_) (b := (expl l seen).map (ixs l.length)) ?_ (wp_some rfl)
  · have hlen := flt_len (fun b => decide (sgN l b.testBit l.length = bitsN seen)) (ixs l.length) k
    have hlt := sgN_lt hf k.testBit (Nat.le_refl _)
    simp only
    rw [if_pos (by omega), indicesOf_eq (n := l.length) (by omega) (by omega), Option.bind_some, signsOf_eq hf (fun v hv => ix_rng v hv) (by have := ix_len l.length k; omega) (c := k.testBit) (fun i hi => by
      rw [mem_sl]
      constructor
      · intro h; exact ⟨i, rfl, hi, h⟩
      · rintro ⟨j, hj, _, h⟩; rwa [show i = j by omega]), Option.bind_some, EqualL (by have := sl_len (sgN l k.testBit l.length).testBit 20; omega), Option.bind_some, w64_id (by omega) (by omega), app_ok (by simp; omega), flt_succ]
    by_cases hb : sgN l k.testBit l.length = bitsN seen
    · rw [decide_eq_true ((sl_eq_iff hlt hr hs).2 hb)]; simp only [hb, decide_true, if_true]; rfl
    · rw [decide_eq_false (fun h => hb ((sl_eq_iff hlt hr hs).1 h))]; simp [hb]
  · simp only; rw [if_neg (by omega), ← hN]; rfl
theorem l22All_eq {l : List GCause} {seen : List Int} (hf : few20 l) (hs : small20 seen) (h2 : seen.length ≤ 1048576) : spec_l22All l seen = some ((expl l seen).map fun b => ((b : Nat) : Int)) := by
  have h10 := hf.1
  have h1 : (2 : Nat) ^ l.length ≤ 2 ^ 10 := Nat.pow_le_pow_right (by omega) h10
  have h3 : (2 : Nat) ^ 10 = 1024 := by decide
  have h4 : (2 : Nat) ^ 20 = 1048576 := by decide
  rw [h3] at h1
  unfold spec_l22All
  rw [l22Bits_eq hs h2, Option.bind_some]
  refine eq_of_wp ?_
  rw [show shl? .i64 1 (IntKind.wrap .u64 (l.length : Int)) = some ((2 ^ l.length : Nat) : Int) from shl_one (by omega)]
  simp only [Option.bind_some]
  generalize hN : 2 ^ l.length = N at h1
  refine wp_cnt (fun k => (flt (fun b => decide (sgN l b.testBit l.length = bitsN seen)) (fun b => ((b : Nat) : Int)) k, (k : Int))) N rfl (by omega) (fun k hk => ?_) (b := (expl l seen).map fun b => ((b : Nat) : Int)) ?_ (wp_some rfl)
  · have hlen := flt_len (fun b => decide (sgN l b.testBit l.length = bitsN seen)) (fun b => ((b : Nat) : Int)) k
    simp only
    rw [if_pos (by omega), l22Signs_eq hf (by omega), Option.bind_some, w64_id (by omega) (by omega), app_ok (by simp; omega), flt_succ]
    by_cases hb : sgN l k.testBit l.length = bitsN seen
    · rw [if_pos (by omega)]; simp only [hb, decide_true, if_true]; rfl
    · rw [if_neg (by omega)]; simp [hb]
  · simp only; rw [if_neg (by omega), ← hN]; rfl
end Go.Vs.G

namespace Go.Vs.G
open Go Go.Vs
theorem markText_big {k : Int} (h0 : 0 ≤ k) (h1 : k ≤ 1152921504606846976) : ∃ s, laws_markText k = some s := by
  have : wp (laws_markText k) (fun _ => True) := by
    unfold laws_markText
    refine wp_ite (fun h => ?_) (fun h => ?_)
    · exact wp_some trivial
    · refine wp_loop (fun s : Int × List UInt8 => 0 ≤ s.1 ∧ s.2.length ≤ 61 ∧ s.1 * ((2 ^ s.2.length : Nat) : Int) ≤ k) (fun s => s.1.toNat) ⟨by simp only; omega, by simp, by simp⟩ (by simp only; omega) ?_
      rintro ⟨k2, out⟩ ⟨h2, h3, h4⟩
      simp only at h2 h3 h4 ⊢
      refine wp_ite (fun h => ?_) (fun h => ?_)
      · have hd : k2.tdiv 10 = k2 / 10 := Int.tdiv_eq_ediv_of_nonneg h2
        have hlt : out.length ≤ 60 := by
          refine Classical.byContradiction fun hn => ?_
          have h5 : (2 : Nat) ^ 61 ≤ 2 ^ out.length := Nat.pow_le_pow_right (by omega) (by omega)
          have h6 : (2 : Nat) ^ 61 = 2305843009213693952 := by decide
          rw [h6] at h5
          generalize 2 ^ out.length = P at h4 h5
          have h7 : (1 : Int) * (P : Int) ≤ k2 * (P : Int) := Int.mul_le_mul_of_nonneg_right (by omega) (by omega)
          omega
        have hk2 : k2 ≤ k := by
          have h5 : 1 ≤ 2 ^ out.length := Nat.pow_pos (by omega)
          generalize 2 ^ out.length = P at h4 h5
          have h7 : k2 * 1 ≤ k2 * (P : Int) := Int.mul_le_mul_of_nonneg_left (by omega) h2
          omega
        rw [app_ok (by simp [b2s]; omega), Option.bind_some, hd, w64_id (n := k2 / 10) (by omega) (by omega)]
        refine wp_some ⟨⟨by simp only; omega, by simp [b2s]; omega, ?_⟩, by simp only; omega⟩
        have e : (b2s [IntKind.wrap .u8 (w64 (48 + k2.tmod 10))] ++ out).length = out.length + 1 := by simp [b2s]
        simp only
        rw [e, Nat.pow_succ, Int.natCast_mul]
        generalize hP : 2 ^ out.length = P at h4
        have h8 : k2 / 10 * ((P : Int) * ((2 : Nat) : Int)) = (k2 / 10 * 2) * (P : Int) := by
          rw [Int.mul_comm (P : Int), Int.mul_assoc]; rfl
        rw [h8]
        exact Int.le_trans (Int.mul_le_mul_of_nonneg_right (by omega) (by omega)) h4
      · refine wp_some ?_
        show wp ((app? ([109] : List UInt8) out).bind fun s2 => some s2) fun _ => True
        rw [app_ok (by simp; omega), Option.bind_some]
        exact wp_some trivial
  obtain ⟨s, hs, _⟩ := this
  exact ⟨s, hs⟩
theorem markCauseS_ok {a : List GCause} {k : Int} (h0 : 0 ≤ k) (h1 : k ≤ 1048576) (ha : a.length ≤ 1048576) (hs : ∀ x, x ∈ a → smallC x) : ∃ k2 b, laws_markCauseS a k = some (k2, b) ∧ 0 ≤ k2 ∧ k2 ≤ 1125899906842624 := by
  have : wp (laws_markCauseS a k) (fun r => 0 ≤ r.1 ∧ r.1 ≤ 1125899906842624) := by
    unfold laws_markCauseS
    refine wp_loop (fun s : List GCause × Int × Int => ∃ j : Nat, s.2.2 = (j : Int) ∧ j ≤ a.length ∧ 0 ≤ s.2.1 ∧ s.2.1 ≤ 1048576 + j * 1048577 ∧ s.1.length = a.length ∧ ∀ i, j ≤ i → s.1[i]? = a[i]?) (fun s => (a.length - s.2.2).toNat) ⟨0, rfl, by omega, h0, by simpa using h1, rfl, fun i _ => rfl⟩ (by simp; omega) ?_
    rintro ⟨a2, k2, i⟩ ⟨j, rfl, hj, hk0, hk1, hl, hv⟩
    simp only at hj hk0 hk1 hl hv ⊢
    refine wp_ite (fun h => ?_) (fun h => ?_)
    · obtain ⟨s, hs2⟩ := markText_big (k := k2) hk0 (by omega)
      have hj2 : j < a2.length := by omega
      have hj3 : j < a.length := by omega
      have he : a2[j] = a[j] := by
        have := hv j (Nat.le_refl _)
        rw [List.getElem?_eq_getElem hj2, List.getElem?_eq_getElem hj3] at this
        exact Option.some.inj this
      have hsm := (hs _ (List.getElem_mem hj3)).2
      rw [hs2, Option.bind_some, at_of hj2, Option.bind_some, at_of (by simpa using hj2), Option.bind_some]
      simp only [Int.toNat_natCast, List.getElem_set_self]
      rw [laws_markInt64S_eq (by rw [w64_id] <;> omega) (by rw [w64_id] <;> omega) (by rw [he]; omega), Option.bind_some, w64_id (n := (j : Int) + 1) (by omega) (by omega), w64_id (by omega) (by omega)]
      refine wp_some ⟨⟨j + 1, by simp, by omega, by simp only; omega, by simp only; rw [he]; omega, by simp [hl], fun i hi => ?_⟩, by simp only; omega⟩
      rw [List.getElem?_set_ne (by omega), List.getElem?_set_ne (by omega)]
      exact hv i (by omega)
    · exact wp_some (wp_some ⟨hk0, by simp only; omega⟩)
  obtain ⟨⟨k2, b⟩, h, h2⟩ := this
  exact ⟨k2, b, h, h2⟩
/-- an exact law with a list and a code -/
theorem exactL {m1 : Option (Int × List GCause)} {m2 : Int → Option (Int × List Int)} (hm1 : ∃ k b, m1 = some (k, b) ∧ 0 ≤ k ∧ k ≤ 1125899906842624) (hm2 : ∀ k, 0 ≤ k → k ≤ 1125899906842624 → ∃ k2 b, m2 k = some (k2, b) ∧ 0 ≤ k2)
    {w : List Int × Int} {again : Option (List Int × Int)} (ha : again = some w) (hw : w.1.length ≤ 1048576) :
    (m1.bind fun r13 => (m2 r13.1).bind fun r14 => ((if r14.1 < 0 then (some true) else (laws_eqInt64S w.1 w.1).bind fun r15 => if r15 then (some (!(decide (w.2 = w.2)))) else some true : Option Bool)).bind fun (x2 : Bool) =>
      if x2 then (some false) else (laws_markInt64S w.1 1).bind fun r16 => (laws_heldInt64S r16.2 1).bind fun r17 => if r17 < 0 then (some false) else if r17 = r16.1 then
        (again.bind fun r20 => (((laws_eqInt64S r20.1 w.1).bind fun r21 => if r21 then (some (!(decide (r20.2 = w.2)))) else some true) : Option Bool).bind fun (x3 : Bool) => if x3 then (some false) else
          (laws_heldInt64S r16.2 1).bind fun r22 => if r22 < 0 then (some false) else if r22 = r16.1 then (some true) else some false) else some false) = some true := by
  obtain ⟨k, b, h1, h2, h3⟩ := hm1
  obtain ⟨k2, b2, h4, h5⟩ := hm2 k h2 h3
  rw [h1, Option.bind_some]
  simp only
  rw [h4, Option.bind_some, if_neg (by simp only; omega), laws_eqInt64S_eq (by omega), Option.bind_some]
  simp only [decide_true, if_true, Bool.not_true, Option.bind_some, Bool.false_eq_true, if_false]
  rw [laws_markInt64S_eq (by omega) (by omega) (by omega), Option.bind_some]
  simp only
  rw [laws_heldInt64S_tab (by omega) (by omega) (by omega), Option.bind_some, if_neg (by omega), ha, Option.bind_some, laws_eqInt64S_eq (by omega), Option.bind_some]
  simp only [decide_true, if_true, Bool.not_true, Option.bind_some, Bool.false_eq_true, if_false]
  rw [if_neg (by omega)]
/-- what the size of a list of causes tells -/
theorem smallCs {a : List GCause} {r : Int} (h : r ≤ 1048576 ∧ (0 ≤ r → a.length ≤ (1048576 : Int) ∧ ∀ x, x ∈ a → smallC x)) (hr : ¬ r < 0) : a.length ≤ 1048576 ∧ ∀ x, x ∈ a → smallC x := by
  have := h.2 (by omega); exact ⟨by omega, this.2⟩
end Go.Vs.G

namespace Go.Vs
open Go
end Go.Vs
namespace Go.Vs.G
open Go Go.Vs
theorem l22Some_eq {m : Int} {l : List GCause} {seen : List Int} (hl : l.length ≤ 1048576) (hs : ∀ x, x ∈ l → smallC x) (h2 : seen.length ≤ 1048576) :
    spec_l22Some m l seen = some (if code22 m l [] seen = 0 then (if expl l seen = [] then ([], 3) else ((expl l seen).map fun b => ((b : Nat) : Int), 0)) else ([], code22 m l [] seen)) := by
  unfold spec_l22Some
  rw [l22Code_eq hl hs h2, Option.bind_some]
  by_cases h : code22 m l [] seen = 0
  · obtain ⟨hv, _, h3⟩ := code22_zero h
    have hm := hv.1
    rw [if_pos h, if_pos h, l22All_eq (hv.few hs) (h3.small (by omega)) h2, Option.bind_some, List.length_map]
    by_cases he : expl l seen = []
    · rw [if_pos (by simp [he]), if_pos he]
    · have : (expl l seen).length ≠ 0 := fun h => he (List.length_eq_zero_iff.1 h)
      rw [if_neg (by omega), if_neg he]
  · rw [if_neg h, if_neg h]
end Go.Vs.G

namespace Go.Vs.G
open Go Go.Vs
/-- the fewest so far -/
def fw (n : Nat) : Nat → List Nat → Nat
  | x, [] => x
  | x, y :: r => fw n (if less (ixs n y) (ixs n x) = true then y else x) r
theorem fw_snoc (n : Nat) : ∀ (L : List Nat) (x y : Nat), fw n x (L ++ [y]) = if less (ixs n y) (ixs n (fw n x L)) = true then y else fw n x L
  | [], x, y => rfl
  | z :: L, x, y => by rw [List.cons_append, fw, fw_snoc n L, fw]
theorem lexlt_irr : ∀ a : List Int, lexlt a a = false
  | [] => by unfold lexlt; rfl
  | x :: a => by rw [lexlt, if_pos rfl]; exact lexlt_irr a
theorem less_irr (a : List Int) : less a a = false := by unfold less; rw [if_pos rfl]; exact lexlt_irr a
theorem sl20 {n x : Nat} (hn : n ≤ 10) (hx : x < 2 ^ n) : sl x.testBit 20 = ixs n x := by
  refine rise_eq (rise_sl _ _) (rise_sl _ _) fun v => ?_
  rw [mem_sl, mem_sl]
  constructor
  · rintro ⟨j, rfl, hj, hb⟩
    refine ⟨j, rfl, ?_, hb⟩
    refine Classical.byContradiction fun hc => ?_
    rw [Nat.testBit_lt_two_pow (Nat.lt_of_lt_of_le hx (Nat.pow_le_pow_right (by omega) (by omega)))] at hb
    cases hb
  · rintro ⟨j, rfl, hj, hb⟩; exact ⟨j, rfl, by omega, hb⟩
open Classical in
noncomputable def fewestR (m : Int) (l : List GCause) (seen : List Int) : List Int × Int :=
  if code22 m l [] seen = 0 then (match expl l seen with | [] => ([], 3) | x :: r => (ixs l.length (fw l.length x r), 0)) else ([], code22 m l [] seen)
theorem FewestCauses_eq {m : Int} {l : List GCause} {seen : List Int} (hl : l.length ≤ 1048576) (hs : ∀ x, x ∈ l → smallC x) (h2 : seen.length ≤ 1048576) : impl_FewestCauses m l seen = some (fewestR m l seen) := by
  unfold impl_FewestCauses fewestR
  rw [causesCode_eq hl hs (by simp) h2, Option.bind_some]
  by_cases h : code22 m l [] seen = 0
  · obtain ⟨hv, _, h3⟩ := code22_zero h
    have hm := hv.1
    have h10 := hv.2.1
    rw [if_pos h, if_pos h, explanations_eq (hv.few hs) h3.rise (h3.small (by omega)) h2, Option.bind_some, List.length_map]
    have hE := expl_len l seen h10
    generalize expl l seen = E at hE
    match E, hE with
    | [], _ => rfl
    | x :: r, hE =>
      rw [if_neg (by simp; omega)]
      have ha0 : at? ((x :: r).map (ixs l.length)) 0 = some (ixs l.length x) := rfl
      rw [ha0, Option.bind_some]
      simp only
      have hfw : fw l.length x r = fw l.length x (x :: r) := by rw [fw, less_irr]; rfl
      rw [hfw]
      generalize hE2 : x :: r = E at hE
      have hE0 : E[0]? = some x := by rw [← hE2]; rfl
      have hEm : (E.map (ixs l.length)).length = E.length := List.length_map ..
      refine eq_of_wp ?_
      refine wp_loop (fun s : Int × Int => ∃ i j : Nat, s = ((i : Int), (j : Int)) ∧ j ≤ E.length ∧ E[i]? = some (fw l.length x (E.take j))) (fun s => (E.length - s.2).toNat) ⟨0, 0, rfl, by omega, hE0⟩ (by simp only; omega) ?_
      rintro s ⟨i, j, rfl, hj, hi⟩
      have hi1 := (List.getElem?_eq_some_iff.1 hi).1
      have hati : at? (E.map (ixs l.length)) (i : Int) = some (ixs l.length (fw l.length x (E.take j))) := by
        rw [at_of (by simpa using hi1), List.getElem_map, (List.getElem?_eq_some_iff.1 hi).2]
      simp only [hEm]
      refine wp_ite (fun hx => ?_) (fun hx => ?_)
      · have hj2 : j < E.length := by omega
        have e : E.take (j + 1) = E.take j ++ [E[j]] := by rw [List.take_add_one, List.getElem?_eq_getElem hj2]; rfl
        have h6 := ix_len l.length E[j]
        rw [at_of (by simpa using hj2), Option.bind_some, List.getElem_map, hati, Option.bind_some, w64_id (by omega) (by omega)]
        have hless : (if ((ixs l.length E[j]).length : Int) < ((ixs l.length (fw l.length x (E.take j))).length : Int) then (some true) else if ((ixs l.length E[j]).length : Int) = ((ixs l.length (fw l.length x (E.take j))).length : Int) then ((slices_Compare_int64_int64_792 (ixs l.length E[j]) (ixs l.length (fw l.length x (E.take j)))).bind fun r3 => some (decide (r3 < 0))) else some false : Option Bool) = some (less (ixs l.length E[j]) (ixs l.length (fw l.length x (E.take j)))) := by
          unfold less
          by_cases h7 : (ixs l.length E[j]).length = (ixs l.length (fw l.length x (E.take j))).length
          · obtain ⟨r, h8, h9⟩ := Compare_eq h7 (by omega)
            rw [if_neg (by omega), if_pos (by omega), if_pos h7, h8, Option.bind_some, h9]
          · rw [if_neg h7]
            by_cases h8 : (ixs l.length E[j]).length < (ixs l.length (fw l.length x (E.take j))).length
            · rw [if_pos (by omega), decide_eq_true h8]
            · rw [if_neg (by omega), if_neg (by omega), decide_eq_false h8]
        rw [hless, Option.bind_some]
        have hfn : fw l.length x (E.take (j + 1)) = if less (ixs l.length E[j]) (ixs l.length (fw l.length x (E.take j))) = true then E[j] else fw l.length x (E.take j) := by rw [e, fw_snoc]
        refine wp_ite (fun h9 => wp_some ⟨⟨j, j + 1, rfl, hj2, ?_⟩, by simp only; omega⟩) (fun h9 => wp_some ⟨⟨i, j + 1, rfl, hj2, ?_⟩, by simp only; omega⟩)
        · rw [hfn, if_pos h9]; exact List.getElem?_eq_getElem hj2
        · rw [hfn, if_neg h9]; exact hi
      · refine wp_some ?_
        simp only
        rw [hati, Option.bind_some]
        rw [show E.take j = E from List.take_of_length_le (by omega)]
        exact wp_some rfl
  · rw [if_neg h, if_neg h]
theorem FewestCauses_spec {m : Int} {l : List GCause} {seen : List Int} (hl : l.length ≤ 1048576) (hs : ∀ x, x ∈ l → smallC x) (h2 : seen.length ≤ 1048576) : spec_FewestCauses m l seen = some (fewestR m l seen) := by
  unfold spec_FewestCauses fewestR
  rw [l22Some_eq hl hs h2, Option.bind_some]
  by_cases h : code22 m l [] seen = 0
  · obtain ⟨hv, _, h3⟩ := code22_zero h
    have hm := hv.1
    have h10 := hv.2.1
    rw [if_pos h, if_pos h]
    have hE := expl_len l seen h10
    have hE2 : ∀ b, b ∈ expl l seen → b < 2 ^ l.length := fun b hb => (mem_expl.1 hb).1
    generalize expl l seen = E at hE hE2
    have hp : 2 ^ l.length ≤ 2 ^ 10 := Nat.pow_le_pow_right (by omega) h10
    have hp2 : (2 : Nat) ^ 10 = 1024 := by decide
    have hp3 : (2 : Nat) ^ 20 = 1048576 := by decide
    match E, hE, hE2 with
    | [], _, _ => rfl
    | x :: r, hE, hE2 =>
      simp only [reduceCtorEq, if_false, if_true, List.map_cons]
      have hx := hE2 x (by simp)
      have ha0 : at? (((x : Nat) : Int) :: r.map fun b => ((b : Nat) : Int)) 0 = some (x : Int) := rfl
      rw [ha0, Option.bind_some, l22List_eq (by omega), Option.bind_some, sl20 h10 hx]
      have hr : ∀ b, b ∈ r → b < 2 ^ l.length := fun b hb => hE2 b (by simp [hb])
      refine eq_of_wp ?_
      refine wp_cnt (fun j => (ixs l.length (fw l.length x (r.take j)), ((j + 1 : Nat) : Int))) r.length rfl (by simp at hE; omega) (fun j hj => ?_) (b := ixs l.length (fw l.length x r)) ?_ (wp_some rfl)
      · have e : r.take (j + 1) = r.take j ++ [r[j]] := by rw [List.take_add_one, List.getElem?_eq_getElem hj]; rfl
        have h6 := hr r[j] (List.getElem_mem hj)
        have h7 := ix_len l.length r[j]
        simp only
        rw [if_pos (by simp; omega), at_of (i := j + 1) (by simp; omega), Option.bind_some]
        simp only [List.getElem_cons_succ, List.getElem_map]
        rw [l22List_eq (by omega), Option.bind_some, sl20 h10 h6, l11Less_eq (by omega), Option.bind_some, w64_id (by simp at hE; omega) (by simp at hE; omega), e, fw_snoc]
        by_cases h9 : less (ixs l.length r[j]) (ixs l.length (fw l.length x (r.take j))) = true
        · rw [if_pos h9, if_pos h9]; rfl
        · rw [if_neg h9, if_neg h9]; rfl
      · simp only; rw [if_neg (by simp), List.take_length]
  · rw [if_neg h, if_neg h]
    simp only [h, if_false]
/- what is drawn -/
section
variable {B : Int} {s : GL00Src}
end
end Go.Vs.G

namespace Go.Vs.G
open Go Go.Vs
theorem fewestR_len (m : Int) (l : List GCause) (s : List Int) (hl : l.length ≤ 1048576) : (fewestR m l s).1.length ≤ 1048576 := by
  unfold fewestR
  split
  · split
    · simp
    · exact Nat.le_trans (ix_len _ _) hl
  · simp
theorem laws_FnExactFewestCauses_true {m : Int} {a : List GCause} {s : List Int} (hm : okI .i64 m) (ha : okL GCause.ok a) (hs : okL (okI .i64) s) : laws_FnExactFewestCauses m a s = some true := by
  unfold laws_FnExactFewestCauses
  split
  · rfl
  rename_i hsl
  have hsl : s.length ≤ 1048576 := by omega
  obtain ⟨r1, h1, h2⟩ := szCauseS_eq ha (left := 1048576) (by omega) (by omega)
  rw [h1, Option.bind_some]
  split
  · rfl
  rename_i hr
  obtain ⟨hl, hsm⟩ := smallCs h2 hr
  have hlen := fewestR_len m a s hl
  simp only [toCauseS_eq hl hsm, toInt64S_eq (a := s) (by omega), Option.bind_some, FewestCauses_eq hl hsm hsl, FewestCauses_spec hl hsm hsl, laws_eqInt64S_eq (a := (fewestR m a s).1) (by omega), eqCauseS_eq hl hsm, eqInt64S_eqF (a := s) hsl, decide_true, if_true, Bool.not_true, Bool.false_eq_true, if_false]
  refine Eq.trans ?_ (exactL (m1 := laws_markCauseS a 1) (m2 := fun k => laws_markInt64S s k) (markCauseS_ok (by omega) (by omega) hl hsm) (fun k h0 h1 => ⟨_, _, laws_markInt64S_eq h0 (by omega) (by omega), by omega⟩) (w := fewestR m a s) (again := some (fewestR m a s)) rfl hlen)
  simp only [Option.bind_some, laws_eqInt64S_eq (a := (fewestR m a s).1) (by omega), decide_true, if_true, Bool.not_true, Bool.false_eq_true, if_false]
end Go.Vs.G

