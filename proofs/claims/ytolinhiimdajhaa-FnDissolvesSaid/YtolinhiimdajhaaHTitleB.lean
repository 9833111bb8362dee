/- Titles: names, validity, free numbers, whole titles. No conditions. -/
import Derived.Test.YtolinhiimdajhaaHTitle
namespace Go.Vs.G
open Go Go.Vs

theorem within_eq' (n a b : Int) : impl_within n a b = some (decide (a ≤ n ∧ n ≤ b)) := by
  unfold impl_within; split <;> simp <;> omega
theorem l00In_eq' (n a b : Int) : spec_l00In n a b = some (decide (a ≤ n ∧ n ≤ b)) := by
  unfold spec_l00In; split <;> simp <;> omega
def small (c : UInt8) : Bool := decide (97 ≤ c.toNat ∧ c.toNat ≤ 122)
def letter (c : UInt8) : Bool := small c || decide (48 ≤ c.toNat ∧ c.toNat ≤ 57) || decide (c.toNat = 45)
/-- a name: one to twelve small letters, digits and hyphens, a letter first -/
def isName : List UInt8 → Bool
  | [] => false
  | c :: s => decide (s.length ≤ 11) && small c && (c :: s).all letter

theorem scanBytes {s : List UInt8} (hl : s.length ≤ 12) {k : Nat} (hk : k ≤ s.length) {body : Int → Option (Step Int Unit Bool)} (hb : ∀ i : Nat, k ≤ i → (hi : i < s.length) → body (i : Int) = some (if letter s[i] = true then .next ((i : Int) + 1) else .ret false)) (he : body (s.length : Int) = some (.brk ())) :
    onL (loop body loopLim (k : Int)) (fun _ => some true) (fun r => some r) = some ((s.drop k).all letter) := by
  rw [scan (n := s.length) (c := fun i => if h : i < s.length then letter s[i] else true) (r := false) hk (by omega) (fun i h1 h2 => by rw [hb i h1 h2]; simp [h2]) he]
  split
  · rename_i h
    congr 1; symm
    rw [List.all_eq_true]
    intro c hc
    obtain ⟨i, hi, rfl⟩ := List.getElem_of_mem hc
    rw [List.length_drop] at hi
    have := h (k + i) (by omega) (by omega)
    simpa [show k + i < s.length by omega] using this
  · rename_i h
    congr 1; symm
    refine Classical.byContradiction fun hc => h fun i h1 h2 => ?_
    have hall : (s.drop k).all letter = true := by simpa using hc
    rw [List.all_eq_true] at hall
    simp only [h2, dite_true]
    refine hall _ ?_
    rw [List.mem_iff_getElem]
    exact ⟨i - k, by rw [List.length_drop]; omega, by simp [show k + (i - k) = i by omega]⟩

theorem small_iff (c : UInt8) : small c = true ↔ 97 ≤ c.toNat ∧ c.toNat ≤ 122 := by simp [small]
theorem letter_iff (c : UInt8) : letter c = true ↔ (97 ≤ c.toNat ∧ c.toNat ≤ 122) ∨ (48 ≤ c.toNat ∧ c.toNat ≤ 57) ∨ c.toNat = 45 := by simp [letter, small, or_assoc]

theorem impl_IsName_eq (s : List UInt8) (hs : s.length ≤ 9223372036854775807) : impl_IsName s = some (isName s) := by
  unfold impl_IsName
  cases s with
  | nil => simp [isName]
  | cons c t =>
    have h0 : at? (c :: t) 0 = some c := rfl
    have hlen : ((c :: t).length : Int) = t.length + 1 := by simp
    simp only [h0, Option.bind_some, hlen]
    rw [if_neg (show ¬ (t.length : Int) + 1 < 1 by omega)]
    by_cases h1 : (t.length : Int) + 1 > 12
    · rw [if_pos h1]
      have : ¬ t.length ≤ 11 := by omega
      simp [isName, this]
    · rw [if_neg h1]
      have h11 : t.length ≤ 11 := by omega
      have hsm : (if (c.toNat : Int) < 97 then some true else some (decide ((c.toNat : Int) > 122))) = some (!small c) := by
        split
        · rename_i h; congr 1; symm; have : ¬ (small c = true) := by rw [small_iff]; omega
          simpa using this
        · rename_i h; congr 1
          rw [Bool.eq_iff_iff]; simp [small]; omega
      rw [hsm, Option.bind_some]
      by_cases hc : small c = true
      · simp only [hc, Bool.not_true, Bool.false_eq_true, if_false]
        have hlc : letter c = true := by simp [letter, hc]
        refine (scanBytes (s := c :: t) (by simp; omega) (k := 1) (by simp) ?_ (by simp)).trans ?_
        rotate_left
        · simp [isName, h11, hc, hlc]
        · intro i hi1 hi2
          have h5 : (i : Int) < (t.length : Int) + 1 := by simp at hi2; omega
          simp only [h5, if_true, at_of hi2, Option.bind_some]
          generalize (c :: t)[i] = d
          have hw : w64 ((i : Int) + 1) = i + 1 := w64_id (by omega) (by omega)
          have key : (if (d.toNat : Int) < 97 then (if (d.toNat : Int) < 48 then some (!(decide ((d.toNat : Int) = 45))) else if (d.toNat : Int) > 57 then some (!(decide ((d.toNat : Int) = 45))) else some false)
            else if (d.toNat : Int) > 122 then (if (d.toNat : Int) < 48 then some (!(decide ((d.toNat : Int) = 45))) else if (d.toNat : Int) > 57 then some (!(decide ((d.toNat : Int) = 45))) else some false) else some false) = some (!letter d) := by
            have hl := letter_iff d
            cases hd : letter d <;> simp only [hd, Bool.false_eq_true, false_iff, true_iff, not_or] at hl
            · repeat' split
              all_goals simp
              all_goals omega
            · repeat' split
              all_goals simp
              all_goals omega
          rw [key, Option.bind_some, hw]
          cases letter d <;> rfl
      · have hc' : small c = false := by simpa using hc
        simp [hc', isName]

theorem l01Small_eq (c : UInt8) : spec_l01Small (c.toNat : Int) = some (small c) := by
  unfold spec_l01Small small
  split
  · congr 1; rw [decide_eq_decide]; omega
  · congr 1; symm; rw [decide_eq_false_iff_not]; omega
theorem l01Digit_eq (c : UInt8) : spec_l01Digit (c.toNat : Int) = some (decide (48 ≤ c.toNat ∧ c.toNat ≤ 57)) := by
  unfold spec_l01Digit
  split
  · congr 1; rw [decide_eq_decide]; omega
  · congr 1; symm; rw [decide_eq_false_iff_not]; omega
theorem spec_IsName_eq (s : List UInt8) (hs : s.length ≤ 9223372036854775807) : spec_IsName s = some (isName s) := by
  unfold spec_IsName
  cases s with
  | nil => simp [isName]
  | cons c t =>
    have h0 : at? (c :: t) 0 = some c := rfl
    have hlen : ((c :: t).length : Int) = t.length + 1 := by simp
    simp only [h0, Option.bind_some, hlen, l01Small_eq, l01Digit_eq]
    rw [if_neg (by simp)]
    by_cases h1 : (t.length : Int) + 1 > 12
    · rw [if_pos h1]
      have : ¬ t.length ≤ 11 := by omega
      simp [isName, this]
    · rw [if_neg h1]
      have h11 : t.length ≤ 11 := by omega
      by_cases hc : small c = true
      · simp only [hc, Bool.not_true, Bool.false_eq_true, if_false, Option.bind_some]
        refine (scanBytes (s := c :: t) (by simp; omega) (k := 0) (by simp) ?_ (by simp)).trans ?_
        rotate_left
        · simp [isName, h11, hc]
        · intro i hi1 hi2
          have h5 : (i : Int) < (t.length : Int) + 1 := by simp at hi2; omega
          simp only [h5, if_true, at_of hi2, Option.bind_some, l01Small_eq, l01Digit_eq]
          generalize (c :: t)[i] = d
          have hw : w64 ((i : Int) + 1) = i + 1 := w64_id (by omega) (by omega)
          have key : (if small d = true then some false else if decide (48 ≤ d.toNat ∧ d.toNat ≤ 57) = true then some false else some (!(decide ((d.toNat : Int) = 45)))) = some (!letter d) := by
            unfold letter
            split
            · simp_all
            · split
              · simp_all
              · have : decide ((d.toNat : Int) = 45) = decide (d.toNat = 45) := by rw [decide_eq_decide]; omega
                simp_all
                omega
          rw [key, Option.bind_some, hw]
          cases letter d <;> rfl
      · have hc' : small c = false := by simpa using hc
        simp [hc', isName]

def isTitle (x : GTitle) : Bool := decide (1 ≤ x.No ∧ x.No ≤ 9999) && isName x.Name && decide (1 ≤ x.Glass ∧ x.Glass ≤ 30) && decide (0 ≤ x.Broken ∧ x.Broken ≤ x.Glass)
theorem impl_validTitle_eq (x : GTitle) (hx : x.Name.length ≤ 9223372036854775807) : impl_validTitle x = some (isTitle x) := by
  unfold impl_validTitle isTitle
  simp only [within_eq', impl_IsName_eq _ hx, Option.bind_some]
  repeat' split
  all_goals simp_all
  all_goals (intros; omega)
theorem spec_l23One_eq (x : GTitle) (hx : x.Name.length ≤ 9223372036854775807) : spec_l23One x = some (isTitle x) := by
  unfold spec_l23One isTitle
  simp only [l00In_eq', spec_IsName_eq _ hx, Option.bind_some]
  repeat' split
  all_goals simp_all
  all_goals (intros; omega)

def titleAt (l : List GTitle) (i : Nat) : Bool := if h : i < l.length then isTitle l[i] && (decide (i = 0) || decide (l[i - 1].No < l[i].No)) else true
open Classical in
/-- valid titles -/
noncomputable def titlesOk (l : List GTitle) : Bool := if ∀ i, 0 ≤ i → i < l.length → titleAt l i = true then decide ((l.length : Int) ≤ 20) else false
theorem titlesOk_len {l : List GTitle} (h : titlesOk l = true) : l.length ≤ 20 := by
  unfold titlesOk at h; split at h <;> simp at h; omega
theorem titlesOk_no {l : List GTitle} (h : titlesOk l = true) {i : Nat} (hi : i < l.length) : isTitle l[i] = true ∧ (i = 0 ∨ l[i - 1].No < l[i].No) := by
  unfold titlesOk at h
  split at h
  · rename_i hh
    have := hh i (Nat.zero_le _) hi
    simpa [titleAt, hi] using this
  · simp at h

theorem impl_ValidTitles_eq {l : List GTitle} (hl : okL GTitle.ok l) (hlen : l.length ≤ 1048576) : impl_ValidTitles l = some (titlesOk l) := by
  unfold impl_ValidTitles titlesOk
  refine (scan (s := 0) (n := l.length) (c := titleAt l) (r := false) (Nat.zero_le _) (by omega) ?_ (by simp)).trans ?_
  · intro i _ hi
    have hx : l[i].Name.length ≤ 9223372036854775807 := (hl.2 l[i] (List.getElem_mem hi)).2.1
    have h5 : (i : Int) < (l.length : Int) := by omega
    simp only [h5, if_true, at_of hi, Option.bind_some, impl_validTitle_eq _ hx, titleAt, hi, dite_true]
    rw [w64_id (n := (i : Int) + 1) (by omega) (by omega)]
    cases ht : isTitle l[i]
    · simp
    · simp only [if_true, Bool.true_and]
      by_cases h0 : i = 0
      · subst h0; simp
      · rw [if_pos (by omega), w64_id (by omega) (by omega), show ((i : Int) - 1) = ((i - 1 : Nat) : Int) by omega, at_of (by omega), Option.bind_some, Option.bind_some]
        by_cases hno : l[i - 1].No < l[i].No
        · simp [h0, hno]
        · simp [h0, hno]
  · split <;> rfl
theorem spec_l23Ok_eq {l : List GTitle} (hl : okL GTitle.ok l) (hlen : l.length ≤ 1048576) : spec_l23Ok l = some (titlesOk l) := by
  unfold spec_l23Ok titlesOk
  refine (scan (s := 0) (n := l.length) (c := titleAt l) (r := false) (Nat.zero_le _) (by omega) ?_ (by simp)).trans ?_
  · intro i _ hi
    have hx : l[i].Name.length ≤ 9223372036854775807 := (hl.2 l[i] (List.getElem_mem hi)).2.1
    have h5 : (i : Int) < (l.length : Int) := by omega
    simp only [h5, if_true, at_of hi, Option.bind_some, spec_l23One_eq _ hx, titleAt, hi, dite_true]
    rw [w64_id (n := (i : Int) + 1) (by omega) (by omega)]
    cases ht : isTitle l[i]
    · simp
    · simp only [if_true, Bool.true_and]
      by_cases h0 : i = 0
      · subst h0; simp
      · rw [if_pos (by omega), w64_id (by omega) (by omega), show ((i : Int) - 1) = ((i - 1 : Nat) : Int) by omega, at_of (by omega), Option.bind_some, Option.bind_some]
        by_cases hno : l[i - 1].No < l[i].No
        · simp [h0, hno]
        · simp [h0, hno]
  · split <;> rfl

/-- the end of a law: arguments that are compared with themselves -/
theorem title_arg {a : List GTitle} (ha : okL GTitle.ok a) : ∃ r, laws_szTitleS a 1048576 = some r ∧ (r < 0 ∨ a.length ≤ 1048576) := by
  obtain ⟨r1, h1, h2, h3⟩ := laws_szTitleS_eq ha (left := 1048576) (by omega) (by omega)
  exact ⟨r1, h1, by omega⟩
theorem laws_FnExactValidTitles_true {a : List GTitle} (ha : okL GTitle.ok a) : laws_FnExactValidTitles a = some true := by
  obtain ⟨r1, h1, h2, h3⟩ := laws_szTitleS_eq ha (left := 1048576) (by omega) (by omega)
  unfold laws_FnExactValidTitles
  rw [h1, Option.bind_some]
  split
  · rfl
  · have hl : a.length ≤ 1048576 := by omega
    simp [laws_toTitleS_eq hl, spec_ValidTitles, spec_l23Ok_eq ha hl, impl_ValidTitles_eq ha hl, laws_eqTitleS_eq hl]

/-- the least number that no title has, as it is looked for -/
def freeNo (l : List GTitle) : Nat → Int
  | 0 => 1
  | k + 1 => if (l[k]?.map (·.No)) = some (freeNo l k) then freeNo l k + 1 else freeNo l k
theorem freeNo_bd (l : List GTitle) : ∀ k, 1 ≤ freeNo l k ∧ freeNo l k ≤ k + 1
  | 0 => by simp [freeNo]
  | k + 1 => by have := freeNo_bd l k; simp only [freeNo]; split <;> omega
theorem freeLoop {l : List GTitle} (hlen : l.length ≤ 20) {kb : Int → Option (Int × Int)} {kr : Empty → Option (Int × Int)} {body : Int × Int → Option (Step (Int × Int) Int Empty)} (hb : ∀ (no : Int) (i : Nat), 0 ≤ no → no ≤ 100 → (hi : i < l.length) → body (no, (i : Int)) = some (.next (if l[i].No = no then no + 1 else no, (i : Int) + 1)))
    (he : ∀ no, body (no, (l.length : Int)) = some (.brk no)) : onL (loop body loopLim (1, 0)) kb kr = kb (freeNo l l.length) := by
  have := loop_brk (body := body) (fun j => (freeNo l j, (j : Int))) (b := freeNo l l.length) l.length (by omega) (fun j hj => by
    have hbd := freeNo_bd l j
    rw [hb _ _ (by omega) (by omega) hj]
    simp [freeNo, List.getElem?_eq_getElem hj]) (he _)
  exact (congrArg (fun o => onL o kb kr) this)
theorem impl_FreeNumber_eq {l : List GTitle} (hl : okL GTitle.ok l) (hlen : l.length ≤ 1048576) : impl_FreeNumber l = some (if titlesOk l = true then (freeNo l l.length, 0) else (0, 1)) := by
  unfold impl_FreeNumber
  rw [impl_ValidTitles_eq hl hlen, Option.bind_some]
  split
  · rename_i h
    have h20 := titlesOk_len h
    refine freeLoop h20 (fun no i h0 h1 hi => ?_) (fun no => by simp)
    have h5 : (i : Int) < (l.length : Int) := by omega
    simp only [h5, if_true, at_of hi, Option.bind_some]
    rw [w64_id (n := (i : Int) + 1) (by omega) (by omega), w64_id (by omega) (by omega)]
    split <;> rfl
  · rfl
theorem spec_FreeNumber_eq {l : List GTitle} (hl : okL GTitle.ok l) (hlen : l.length ≤ 1048576) : spec_FreeNumber l = some (if titlesOk l = true then (freeNo l l.length, 0) else (0, 1)) := by
  unfold spec_FreeNumber
  rw [spec_l23Ok_eq hl hlen, Option.bind_some]
  split
  · rename_i h
    have h20 := titlesOk_len h
    refine freeLoop h20 (fun no i h0 h1 hi => ?_) (fun no => by simp)
    have h5 : (i : Int) < (l.length : Int) := by omega
    simp only [h5, if_true, at_of hi, Option.bind_some]
    rw [w64_id (n := (i : Int) + 1) (by omega) (by omega), w64_id (by omega) (by omega)]
    split <;> rfl
  · rfl
theorem laws_FnExactFreeNumber_true {a : List GTitle} (ha : okL GTitle.ok a) : laws_FnExactFreeNumber a = some true := by
  obtain ⟨r1, h1, h2, h3⟩ := laws_szTitleS_eq ha (left := 1048576) (by omega) (by omega)
  unfold laws_FnExactFreeNumber
  rw [h1, Option.bind_some]
  split
  · rfl
  · have hl : a.length ≤ 1048576 := by omega
    simp [laws_toTitleS_eq hl, spec_FreeNumber_eq ha hl, impl_FreeNumber_eq ha hl, laws_eqTitleS_eq hl]
end Go.Vs.G
