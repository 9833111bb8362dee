/- Causes: what is handed to the exact laws; FnExactValidCauses. No conditions. -/
import Derived.Test.YtolinhiimdajhaaHTitleB
import Derived.Test.YtolinhiimdajhaaHGenB
namespace Go.Vs
open Go
/-- sizes: each element fits, too -/
theorem szSp {α : Type} {p : α → Prop} (a : List α) (f : α → Int → Option Int) {left : Int} (h0 : 0 ≤ left) (h1 : left ≤ 1048576) (ha : a.length ≤ 9223372036854775807) (hf : ∀ x, x ∈ a → ∀ l, 0 ≤ l → l ≤ 1048576 → ∃ r, f x l = some r ∧ r ≤ l ∧ (0 ≤ r → p x)) :
    wp (if (w64 (left - (a.length : Int))) < 0 then (some (-1)) else
      onL (loop (S := (Int × Int)) (B := Int) (R := Int) (fun ((left2, i1) : Int × Int) => if i1 < (a.length : Int) then
        ((at? a i1).bind fun v1 => (f v1 left2).bind fun r1 => if r1 < 0 then (some (.ret (-1))) else some (.next (r1, w64 (i1 + 1)))) else some (.brk left2)) loopLim (w64 (left - (a.length : Int)), 0))
        (fun (left3 : Int) => some left3) (fun r => some r)) (fun r => r ≤ left ∧ (0 ≤ r → a.length ≤ left ∧ ∀ x, x ∈ a → p x)) := by
  rw [w64_id (by omega) (by omega)]
  refine wp_ite (fun hl => wp_some ⟨by omega, fun h => by omega⟩) (fun hl => ?_)
  refine wp_loop (fun s : Int × Int => ∃ k : Nat, s.2 = (k : Int) ∧ k ≤ a.length ∧ 0 ≤ s.1 ∧ s.1 ≤ left ∧ ∀ x, x ∈ a.take k → p x) (fun s => (a.length - s.2).toNat) ⟨0, rfl, by omega, by simp only; omega, by simp only; omega, by simp⟩ (by simp; omega) ?_
  rintro ⟨l, i⟩ ⟨k, hk, hk2, h3, h4, h5⟩
  simp only at hk h3 h4
  subst hk
  simp only
  refine wp_ite (fun h => ?_) (fun h => ?_)
  · have hk3 : k < a.length := by omega
    obtain ⟨r, hr, hr1, hr2⟩ := hf a[k] (List.getElem_mem hk3) l h3 (by omega)
    rw [at_of hk3, Option.bind_some, hr, Option.bind_some]
    refine wp_ite (fun h6 => wp_some (wp_some ⟨by omega, fun h => by omega⟩)) (fun h6 => ?_)
    rw [w64_succ hk3 (by omega)]
    refine wp_some ⟨⟨k + 1, rfl, by omega, by simp only; omega, by simp only; omega, fun x hx => ?_⟩, by simp only; omega⟩
    rw [List.take_add_one, List.getElem?_eq_getElem hk3] at hx
    simp only [Option.toList, List.mem_append, List.mem_singleton] at hx
    rcases hx with hx | rfl
    · exact h5 x hx
    · exact hr2 (by omega)
  · obtain rfl : k = a.length := by omega
    rw [List.take_length] at h5
    exact wp_some (wp_some ⟨h4, fun _ => ⟨by omega, h5⟩⟩)
theorem toInts {a : List Int} (ha : a.length ≤ 4294967296) : ((mk? (a.length : Int) (0 : Int)).bind fun l1 => onL (loop (S := List Int × Int) (B := List Int) (R := Empty) (fun ((out1, i1) : List Int × Int) => if i1 < (a.length : Int) then
      ((at? a i1).bind fun v1 => (at? out1 i1).bind fun v2 => some (.next (out1.set i1.toNat v1, w64 (i1 + 1)))) else some (.brk out1)) loopLim (l1, 0)) (fun (out2 : List Int) => some out2) Empty.elim) = some a := by
  have := toS a (0 : Int) some (fun _ _ => rfl) ha
  exact this
end Go.Vs
namespace Go.Vs.G
open Go Go.Vs

def smallC (c : GCause) : Prop := c.Name.length ≤ 1048576 ∧ c.Signs.length ≤ 1048576
theorem szCauseS_eq {a : List GCause} (ha : okL GCause.ok a) {left : Int} (h0 : 0 ≤ left) (h1 : left ≤ 1048576) : ∃ r, laws_szCauseS a left = some r ∧ r ≤ left ∧ (0 ≤ r → a.length ≤ left ∧ ∀ x, x ∈ a → smallC x) := by
  refine szSp a laws_szCause h0 h1 ha.1 fun x hx l hl0 hl1 => ?_
  have hn : x.Name.length ≤ 9223372036854775807 := (ha.2 x hx).1
  have hs : x.Signs.length ≤ 9223372036854775807 := (ha.2 x hx).2.1
  unfold laws_szCause laws_szInt64S
  rw [w64_id (n := l - (x.Name.length : Int)) (by omega) (by omega)]
  by_cases h : l - (x.Name.length : Int) < 0
  · rw [if_pos h]; exact ⟨_, rfl, by omega, fun h => by omega⟩
  · rw [if_neg h, w64_id (by omega) (by omega)]
    by_cases h2 : l - (x.Name.length : Int) - (x.Signs.length : Int) < 0
    · rw [if_pos h2, Option.bind_some, if_pos (by omega)]; exact ⟨_, rfl, by omega, fun h => by omega⟩
    · rw [if_neg h2, Option.bind_some, if_neg h2]; exact ⟨_, rfl, by omega, fun _ => ⟨by omega, by omega⟩⟩
theorem toInt64S_eq {a : List Int} (ha : a.length ≤ 4294967296) : laws_toInt64S a = some a := toInts ha
theorem toCauseS_eq {a : List GCause} (ha : a.length ≤ 1048576) (hs : ∀ x, x ∈ a → smallC x) : laws_toCauseS a = some a :=
  toS a _ laws_toCause (fun x hx => by unfold laws_toCause; rw [toInt64S_eq (by have := (hs x hx).2; omega)]; rfl) (by omega)
theorem eqInt64S_eqF {a b : List Int} (ha : a.length ≤ 1048576) : laws_eqInt64S a b = some (decide (a = b)) := eqSp a b (by omega)
theorem eqCauseS_eq {a b : List GCause} (ha : a.length ≤ 1048576) (hs : ∀ x, x ∈ a → smallC x) : laws_eqCauseS a b = some (decide (a = b)) := by
  rw [← zip_eq (c := fun x y => decide (x = y)) (fun _ _ => rfl)]
  refine eqS (c := fun x y => decide (x = y)) a b (fun x hx y _ => ?_) (by omega)
  unfold laws_eqCause
  rw [eqInt64S_eqF (hs x hx).2]
  rcases x with ⟨n1, s1⟩
  rcases y with ⟨n2, s2⟩
  simp only [GCause.mk.injEq, Option.bind_some]
  by_cases h1 : n1 = n2 <;> by_cases h2 : s1 = s2 <;> simp_all
/-- numbers that rise, from low to high -/
def rises (l : List Int) (low high : Int) : Prop := ∀ i (h : i < l.length), low ≤ l[i] ∧ l[i] ≤ high ∧ (∀ h2 : 0 < i, l[i - 1] < l[i])
open Classical in
theorem isIncreasing_eq {l : List Int} {m : Int} (hl : l.length ≤ 1048576) (hm : 1 ≤ m ∧ m ≤ 16) : impl_isIncreasing l m = some (decide (rises l 0 (m - 1))) := by
  unfold impl_isIncreasing
  have := scan (R := Bool) (β := Bool) (body := (fun (x1 : Int) =>
 if x1 < (l.length : Int) then
 ((at? l x1).bind fun v1 =>
 (((impl_within v1 0 (w64 (m - 1))).bind fun r1 =>
 if r1 then
 (if x1 > 0 then
 ((at? l (w64 (x1 - 1))).bind fun v2 =>
 some (decide (v2 ≥ v1)))
 else
 some false)
 else
 some true) : Option Bool).bind fun (x2 : Bool) =>
 if x2 then
 (some (.ret false))
 else
 some (.next (w64 (x1 + 1))))
 else
 some (.brk ()))) (kb := fun _ => some true) (kr := fun r => some r) (s := 0) (n := l.length) (c := fun i => if h : i < l.length then decide (0 ≤ l[i] ∧ l[i] ≤ m - 1 ∧ (∀ h2 : 0 < i, l[i - 1] < l[i])) else true) (r := false) (by omega) (by omega) (fun i _ hi => by
    rw [if_pos (by omega), at_of hi, Option.bind_some, w64_id (n := m - 1) (by omega) (by omega), w64_id (n := (i : Int) + 1) (by omega) (by omega)]
    rw [show impl_within l[i] 0 (m - 1) = some (decide (0 ≤ l[i] ∧ l[i] ≤ m - 1)) by unfold impl_within; split <;> simp <;> omega, Option.bind_some, dif_pos hi]
    by_cases h1 : 0 ≤ l[i] ∧ l[i] ≤ m - 1
    · rw [decide_eq_true h1, if_pos rfl]
      by_cases h2 : 0 < i
      · rw [if_pos (by omega), w64_id (by omega) (by omega), show (i : Int) - 1 = ((i - 1 : Nat) : Int) by omega, at_of (by omega), Option.bind_some]
        by_cases h3 : l[i - 1] < l[i]
        · rw [decide_eq_false (by omega), decide_eq_true ⟨h1.1, h1.2, fun _ => h3⟩]; rfl
        · rw [decide_eq_true (by omega), decide_eq_false (fun h => h3 (h.2.2 h2))]; rfl
      · rw [if_neg (by omega), decide_eq_true ⟨h1.1, h1.2, fun h => absurd h h2⟩]; rfl
    · rw [decide_eq_false h1, if_neg (by simp), decide_eq_false (fun h => h1 ⟨h.1, h.2.1⟩)]; rfl) (by rw [if_neg (by omega)])
  simp only [Int.natCast_zero] at this
  refine this.trans ?_
  have hiff : (∀ i, 0 ≤ i → i < l.length → (if h : i < l.length then decide (0 ≤ l[i] ∧ l[i] ≤ m - 1 ∧ (∀ h2 : 0 < i, l[i - 1] < l[i])) else true) = true) ↔ rises l 0 (m - 1) := by
    constructor
    · intro h i hi; have := h i (by omega) hi; rw [dif_pos hi] at this; exact of_decide_eq_true this
    · intro h i _ hi; rw [dif_pos hi]; exact decide_eq_true (h i hi)
  by_cases hr : rises l 0 (m - 1)
  · rw [if_pos (hiff.2 hr), decide_eq_true hr]
  · rw [if_neg (fun h => hr (hiff.1 h)), decide_eq_false hr]
open Classical in
theorem l00Rises_eq {l : List Int} {a b : Int} (hl : l.length ≤ 1048576) : spec_l00Rises l a b = some (decide (rises l a b)) := by
  unfold spec_l00Rises
  have := scan (R := Bool) (β := Bool) (body := (fun (i1 : Int) =>
 if i1 < (l.length : Int) then
 ((((at? l i1).bind fun v1 =>
 (spec_l00In v1 a b).bind fun r1 =>
 if r1 then
 (if i1 > 0 then
 ((at? l (w64 (i1 - 1))).bind fun v2 =>
 (at? l i1).bind fun v3 =>
 some (decide (v2 ≥ v3)))
 else
 some false)
 else
 some true) : Option Bool).bind fun (x1 : Bool) =>
 if x1 then
 (some (.ret false))
 else
 some (.next (w64 (i1 + 1))))
 else
 some (.brk ()))) (kb := fun _ => some true) (kr := fun r => some r) (s := 0) (n := l.length) (c := fun i => if h : i < l.length then decide (a ≤ l[i] ∧ l[i] ≤ b ∧ (∀ h2 : 0 < i, l[i - 1] < l[i])) else true) (r := false) (by omega) (by omega) (fun i _ hi => by
    rw [if_pos (by omega), at_of hi, Option.bind_some, w64_id (n := (i : Int) + 1) (by omega) (by omega)]
    rw [show spec_l00In l[i] a b = some (decide (a ≤ l[i] ∧ l[i] ≤ b)) by unfold spec_l00In; split <;> simp <;> omega, Option.bind_some, dif_pos hi]
    by_cases h1 : a ≤ l[i] ∧ l[i] ≤ b
    · rw [decide_eq_true h1, if_pos rfl]
      by_cases h2 : 0 < i
      · rw [if_pos (by omega), w64_id (by omega) (by omega), show (i : Int) - 1 = ((i - 1 : Nat) : Int) by omega, at_of (by omega), Option.bind_some, Option.bind_some]
        by_cases h3 : l[i - 1] < l[i]
        · rw [decide_eq_false (by omega), decide_eq_true ⟨h1.1, h1.2, fun _ => h3⟩]; rfl
        · rw [decide_eq_true (by omega), decide_eq_false (fun h => h3 (h.2.2 h2))]; rfl
      · rw [if_neg (by omega), decide_eq_true ⟨h1.1, h1.2, fun h => absurd h h2⟩]; rfl
    · rw [decide_eq_false h1, if_neg (by simp), decide_eq_false (fun h => h1 ⟨h.1, h.2.1⟩)]; rfl) (by rw [if_neg (by omega)])
  simp only [Int.natCast_zero] at this
  refine this.trans ?_
  have hiff : (∀ i, 0 ≤ i → i < l.length → (if h : i < l.length then decide (a ≤ l[i] ∧ l[i] ≤ b ∧ (∀ h2 : 0 < i, l[i - 1] < l[i])) else true) = true) ↔ rises l a b := by
    constructor
    · intro h i hi; have := h i (by omega) hi; rw [dif_pos hi] at this; exact of_decide_eq_true this
    · intro h i _ hi; rw [dif_pos hi]; exact decide_eq_true (h i hi)
  by_cases hr : rises l a b
  · rw [if_pos (hiff.2 hr), decide_eq_true hr]
  · rw [if_neg (fun h => hr (hiff.1 h)), decide_eq_false hr]

/-- cause i of a list is valid behind those ahead of it -/
def cok (m : Int) (l : List GCause) (i : Nat) (h : i < l.length) : Prop := isName l[i].Name = true ∧ l[i].Signs ≠ [] ∧ rises l[i].Signs 0 (m - 1) ∧ ∀ k (hk : k < i), l[k].Name ≠ l[i].Name
/-- valid causes -/
def vcs (m : Int) (l : List GCause) : Prop := (1 ≤ m ∧ m ≤ 16) ∧ l.length ≤ 10 ∧ ∀ i (h : i < l.length), cok m l i h
open Classical in
theorem ValidCauses_eq {m : Int} {l : List GCause} (hl : l.length ≤ 1048576) (hs : ∀ x, x ∈ l → smallC x) : impl_ValidCauses m l = some (decide (vcs m l)) := by
  unfold impl_ValidCauses
  rw [show impl_within m 1 16 = some (decide (1 ≤ m ∧ m ≤ 16)) by unfold impl_within; split <;> simp <;> omega, Option.bind_some]
  by_cases h1 : 1 ≤ m ∧ m ≤ 16
  · rw [decide_eq_true h1, if_pos rfl, Option.bind_some]
    by_cases h2 : l.length ≤ 10
    · rw [decide_eq_false (by omega), if_neg (by simp)]
      have := scan (R := Bool) (β := Bool) (body := (fun (x2 : Int) =>
 if x2 < (l.length : Int) then
 ((at? l x2).bind fun v1 =>
 (((impl_IsName v1.Name).bind fun r2 =>
 if r2 then
 (if (v1.Signs.length : Int) = 0 then
 (some true)
 else
 (impl_isIncreasing v1.Signs m).bind fun r3 =>
 if r3 then
 ((sub? l 0 x2).bind fun l1 =>
 (slices_ContainsFunc_impl_Cause_impl_Cause_799 l1 (fun a0 => impl_ValidCauses_1 a0 v1)).bind fun r4 =>
 some r4)
 else
 some true)
 else
 some true) : Option Bool).bind fun (x3 : Bool) =>
 if x3 then
 (some (.ret false))
 else
 some (.next (w64 (x2 + 1))))
 else
 some (.brk ()))) (kb := fun _ => some true) (kr := fun r => some r) (s := 0) (n := l.length) (c := fun i => if h : i < l.length then decide (cok m l i h) else true) (r := false) (by omega) (by omega) (fun i _ hi => by
        have hsm := hs _ (List.getElem_mem hi)
        rw [if_pos (by omega), at_of hi, Option.bind_some, impl_IsName_eq _ (by have := hsm.1; omega), Option.bind_some, w64_id (n := (i : Int) + 1) (by omega) (by omega), dif_pos hi]
        by_cases g1 : isName l[i].Name = true
        · rw [if_pos g1]
          by_cases g2 : l[i].Signs = []
          · rw [if_pos (by rw [g2]; rfl), decide_eq_false (fun h => h.2.1 g2)]; rfl
          · have : l[i].Signs.length ≠ 0 := fun h => g2 (List.length_eq_zero_iff.1 h)
            rw [if_neg (by omega), isIncreasing_eq hsm.2 h1, Option.bind_some]
            by_cases g3 : rises l[i].Signs 0 (m - 1)
            · rw [decide_eq_true g3, if_pos rfl, sub_ok (by omega) (by omega) (by omega), Option.bind_some]
              simp only [Int.toNat_natCast, Int.toNat_zero, List.drop_zero]
              have hcf : slices_ContainsFunc_impl_Cause_impl_Cause_799 (l.take i) (fun a0 => impl_ValidCauses_1 a0 l[i]) = some ((l.take i).any fun o => o.Name == l[i].Name) := by
                unfold slices_ContainsFunc_impl_Cause_impl_Cause_799 slices_IndexFunc_impl_Cause_impl_Cause_821
                exact contS _ (l.take i) (fun x _ => rfl) (by simp; omega) (fun _ => rfl)
              rw [hcf, Option.bind_some, Option.bind_some]
              by_cases g4 : ∀ k (hk : k < i), l[k].Name ≠ l[i].Name
              · have ha : ((l.take i).any fun o => o.Name == l[i].Name) = false := by
                  rw [List.any_eq_false]
                  intro x hx
                  obtain ⟨k, hk, rfl⟩ := List.getElem_of_mem hx
                  have hk2 : k < i := by simp at hk; omega
                  simpa using g4 k hk2
                rw [ha, decide_eq_true (show cok m l i hi from ⟨g1, g2, g3, g4⟩)]; rfl
              · have ha : ((l.take i).any fun o => o.Name == l[i].Name) = true := by
                  refine Classical.byContradiction fun hc => g4 fun k hk he => ?_
                  have hf : ((l.take i).any fun o => o.Name == l[i].Name) = false := by simpa using hc
                  rw [List.any_eq_false] at hf
                  have hm : l[k] ∈ l.take i := by
                    rw [List.mem_take_iff_getElem]; exact ⟨k, by omega, rfl⟩
                  exact hf _ hm (by simp [he])
                rw [ha, decide_eq_false (fun h => g4 h.2.2.2)]; rfl
            · rw [decide_eq_false g3, if_neg (by simp), decide_eq_false (fun h => g3 h.2.2.1)]; rfl
        · rw [if_neg g1, decide_eq_false (fun h => g1 h.1)]; rfl) (by rw [if_neg (by omega)])
      simp only [Int.natCast_zero] at this
      refine this.trans ?_
      by_cases hr : ∀ i (h : i < l.length), cok m l i h
      · rw [if_pos (fun i _ hi => by rw [dif_pos hi]; exact decide_eq_true (hr i hi)), decide_eq_true (show vcs m l from ⟨h1, h2, hr⟩)]
      · rw [if_neg (fun h => hr fun i hi => by have := h i (by omega) hi; rw [dif_pos hi] at this; exact of_decide_eq_true this), decide_eq_false (fun h => hr h.2.2)]
    · rw [decide_eq_true (by omega), if_pos rfl, decide_eq_false (fun h => h2 h.2.1)]
  · rw [decide_eq_false h1, if_neg (by simp), Option.bind_some, if_pos rfl, decide_eq_false (fun h => h1 h.1)]
open Classical in
theorem l22Ok_eq {m : Int} {l : List GCause} (hl : l.length ≤ 1048576) (hs : ∀ x, x ∈ l → smallC x) : spec_l22Ok m l = some (decide (vcs m l)) := by
  unfold spec_l22Ok
  rw [show spec_l00In m 1 16 = some (decide (1 ≤ m ∧ m ≤ 16)) by unfold spec_l00In; split <;> simp <;> omega, Option.bind_some]
  by_cases h1 : 1 ≤ m ∧ m ≤ 16
  · rw [decide_eq_true h1, if_pos rfl, Option.bind_some]
    by_cases h2 : l.length ≤ 10
    · rw [decide_eq_false (by omega), if_neg (by simp)]
      refine eq_of_wp ?_
      refine wp_loop (fun i : Int => ∃ k : Nat, i = (k : Int) ∧ k ≤ l.length ∧ ∀ j (h : j < l.length), j < k → cok m l j h) (fun i => (l.length - i).toNat) ⟨0, rfl, by omega, fun j _ hj => by omega⟩ (by omega) ?_
      rintro _ ⟨i, rfl, hi0, hall⟩
      refine wp_ite (fun h => ?_) (fun h => ?_)
      · have hi : i < l.length := by omega
        have hsm := hs _ (List.getElem_mem hi)
        have hno : ¬ cok m l i hi → decide (vcs m l) = false := fun h => decide_eq_false fun hv => h (hv.2.2 i hi)
        rw [at_of hi]
        simp only [Option.bind_some]
        rw [spec_IsName_eq _ (by have := hsm.1; omega), Option.bind_some, w64_id (n := m - 1) (by omega) (by omega), w64_id (n := (i : Int) + 1) (by omega) (by omega)]
        by_cases g1 : isName l[i].Name = true
        · rw [if_pos g1]
          by_cases g2 : l[i].Signs = []
          · rw [if_pos (by rw [g2]; rfl), Option.bind_some, if_pos rfl]
            exact wp_some (wp_some (hno fun h => h.2.1 g2).symm)
          · have : l[i].Signs.length ≠ 0 := fun h => g2 (List.length_eq_zero_iff.1 h)
            rw [if_neg (by omega), l00Rises_eq hsm.2, Option.bind_some]
            by_cases g3 : rises l[i].Signs 0 (m - 1)
            · rw [decide_eq_true g3, Option.bind_some]
              simp only [Bool.not_true, Bool.false_eq_true, if_false]
              refine wp_loop (fun j : Int => ∃ k : Nat, j = (k : Int) ∧ k ≤ i ∧ ∀ n (hn : n < k) (hn2 : n < l.length), l[n].Name ≠ l[i].Name) (fun j => (i - j).toNat) ⟨0, rfl, by omega, fun n hn => by omega⟩ (by omega) ?_
              rintro _ ⟨k, rfl, hk, hne⟩
              refine wp_ite (fun h3 => ?_) (fun h3 => ?_)
              · have hk2 : k < l.length := by omega
                rw [at_of hk2, Option.bind_some]
                refine wp_ite (fun h4 => ?_) (fun h4 => ?_)
                · refine wp_some (wp_some (wp_some (hno fun h => ?_).symm))
                  exact h.2.2.2 k (by omega) (by simpa using h4)
                · rw [w64_id (by omega) (by omega)]
                  refine wp_some ⟨⟨k + 1, rfl, by omega, fun n hn hn2 => ?_⟩, by omega⟩
                  rcases Nat.lt_or_ge n k with h5 | h5
                  · exact hne n h5 hn2
                  · obtain rfl : n = k := by omega
                    simpa using h4
              · obtain rfl : k = i := by omega
                refine wp_some (wp_some ⟨⟨k + 1, rfl, by omega, fun j hj hj2 => ?_⟩, by omega⟩)
                rcases Nat.lt_or_ge j k with h5 | h5
                · exact hall j hj h5
                · obtain rfl : j = k := by omega
                  exact ⟨g1, g2, g3, fun n hn => hne n hn (by omega)⟩
            · rw [decide_eq_false g3, Option.bind_some]
              exact wp_some (wp_some (hno fun h => g3 h.2.2.1).symm)
        · rw [if_neg g1, Option.bind_some, if_pos rfl]
          exact wp_some (wp_some (hno fun h => g1 h.1).symm)
      · refine wp_some (wp_some ?_)
        rw [decide_eq_true (show vcs m l from ⟨h1, h2, fun i hi => hall i hi (by omega)⟩)]
    · rw [decide_eq_true (by omega), if_pos rfl, decide_eq_false (fun h => h2 h.2.1)]
  · rw [decide_eq_false h1, if_neg (by simp), Option.bind_some, if_pos rfl, decide_eq_false (fun h => h1 h.1)]
theorem laws_FnExactValidCauses_true {m : Int} {a : List GCause} (hm : okI .i64 m) (ha : okL GCause.ok a) : laws_FnExactValidCauses m a = some true := by
  obtain ⟨r1, h1, h2, h3⟩ := szCauseS_eq ha (left := 1048576) (by omega) (by omega)
  unfold laws_FnExactValidCauses
  rw [h1, Option.bind_some]
  split
  · rfl
  · obtain ⟨hl, hs⟩ := h3 (by omega)
    have hl : a.length ≤ 1048576 := by omega
    have hS : spec_ValidCauses m a = impl_ValidCauses m a := by
      unfold spec_ValidCauses; rw [l22Ok_eq hl hs, ValidCauses_eq hl hs]; rfl
    rw [toCauseS_eq hl hs, Option.bind_some, hS, ValidCauses_eq hl hs]
    simp [ValidCauses_eq hl hs, eqCauseS_eq hl hs]
end Go.Vs.G
