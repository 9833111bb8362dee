/- Plain facts about the typed functions, up to the law: no program in sight. No conditions. -/
import Derived.Test.YtomlgmfkjibijaaDoorV5
import Derived.Test.YtomlgmfkjibijaaDoorDXValidBurning
namespace Go.Vs
open Go

section
variable {α β S B R : Type}

theorem at_of {l : List α} {i : Nat} (h : i < l.length) : at? l (i : Int) = some l[i] := at_nat h
end
end Go.Vs

namespace Go.Vs.G
open Go Go.Vs

/-- a valid fraction -/
def GFraction.valid (f : GFraction) : Prop := 1 ≤ f.Den ∧ f.Den ≤ 1000000 ∧ -1000000 ≤ f.Num ∧ f.Num ≤ 1000000 ∧ Int.gcd f.Num f.Den = 1
/-- a drawn fraction -/
structure Drawn (f : GFraction) : Prop where
  d0 : 1 ≤ f.Den
  d1 : f.Den ≤ 20
  n0 : -15 ≤ f.Num
  n1 : f.Num ≤ 44
  cop : Int.gcd f.Num f.Den = 1
theorem Drawn.valid {f : GFraction} (h : Drawn f) : f.valid := ⟨h.d0, by have := h.d1; omega, by have := h.n0; omega, by have := h.n1; omega, h.cop⟩
end Go.Vs.G

namespace Go.Vs.G
open Go Go.Vs

/-- a brightness -/
def brt (f : GFraction) : Prop := (0 ≤ f.Num ∧ f.Num ≤ 100000) ∧ f.Den ≤ 100000
instance (f : GFraction) : Decidable (brt f) := by unfold brt; infer_instance
instance (f : GFraction) : Decidable f.valid := by unfold GFraction.valid; infer_instance
/- light behind losses -/
/- the farthest -/
/- draws -/
section
variable {code : List Int} (hc : okL (okI .u8) code) (hl : code.length ≤ 1000000)
include hc hl
end

end Go.Vs.G

namespace Go.Vs
open Go
/-- trimmed to nothing -/
theorem dropWhile_nil {p : UInt8 → Bool} : ∀ {l : List UInt8}, l.dropWhile p = [] ↔ ∀ x, x ∈ l → p x = true
  | [] => by simp
  | a :: l => by
    rw [List.dropWhile_cons]
    by_cases h : p a = true
    · rw [if_pos h, dropWhile_nil]; simp [h]
    · rw [if_neg h]; simp [h]
theorem trim_nil {l cs : List UInt8} : Lib.trimS l cs = [] ↔ ∀ x, x ∈ l → cs.contains x = true := by
  unfold Lib.trimS Lib.trimLeftS Lib.trimRightS
  rw [dropWhile_nil]
  constructor
  · intro h
    have h2 : l.reverse.dropWhile (cs.contains ·) = [] := by
      refine Classical.byContradiction fun hn => ?_
      obtain ⟨a, t, ht⟩ := List.exists_cons_of_ne_nil hn
      have h3 := h a (by rw [ht]; simp)
      have h4 := List.head_dropWhile_not (cs.contains ·) (l := l.reverse) hn
      simp only [ht, List.head_cons] at h4
      rw [h3] at h4; cases h4
    rw [dropWhile_nil] at h2
    exact fun x hx => h2 x (by simpa using hx)
  · intro h x hx
    refine h x ?_
    rw [List.mem_reverse] at hx
    exact List.mem_reverse.1 ((List.dropWhile_sublist _).subset hx)
end Go.Vs
namespace Go.Vs.G
open Go Go.Vs
/-- a burning -/
def brn (s : List UInt8) : Prop := s.length ≤ 60 ∧ ∀ c, c ∈ s → c = 48 ∨ c = 49
instance (s : List UInt8) : Decidable (brn s) := inferInstanceAs (Decidable (_ ∧ _))
theorem u8_eq (c : UInt8) (n : Nat) (hn : n < 256) : ((c.toNat : Int) = (n : Int)) ↔ c = UInt8.ofNat n := by
  constructor
  · intro h
    have h2 : c.toNat = n := by omega
    rw [← h2, UInt8.ofNat_toNat]
  · rintro rfl
    simp [UInt8.toNat_ofNat']
    omega
theorem u48 (c : UInt8) : ((c.toNat : Int) = 48) ↔ c = 48 := u8_eq c 48 (by decide)
theorem u49 (c : UInt8) : ((c.toNat : Int) = 49) ↔ c = 49 := u8_eq c 49 (by decide)
theorem l21Burning_eq {s : List UInt8} (hs : s.length ≤ 1048576) : spec_l21Burning s = some (decide (brn s)) := by
  unfold spec_l21Burning
  refine eq_of_wp ?_
  refine wp_loop (fun i : Int => ∃ k : Nat, i = (k : Int) ∧ k ≤ s.length ∧ ∀ c, c ∈ s.take k → c = 48 ∨ c = 49) (fun i => (s.length - i).toNat) ⟨0, rfl, by omega, by simp⟩ (by omega) ?_
  rintro _ ⟨k, rfl, hk, hall⟩
  refine wp_ite (fun h => ?_) (fun h => ?_)
  · have hk2 : k < s.length := by omega
    rw [at_of hk2]
    simp only [Option.bind_some]
    by_cases h1 : s[k] = 48 ∨ s[k] = 49
    · have e : (if (s[k].toNat : Int) = 48 then (some false : Option Bool) else some (!(decide ((s[k].toNat : Int) = 49)))) = some false := by
        rcases h1 with h1 | h1
        · rw [if_pos ((u48 _).2 h1)]
        · rw [decide_eq_true ((u49 _).2 h1)]; split <;> rfl
      rw [e, Option.bind_some, w64_id (by omega) (by omega)]
      refine wp_some ⟨⟨k + 1, rfl, by omega, fun c hc => ?_⟩, by omega⟩
      rw [List.take_add_one, List.getElem?_eq_getElem hk2] at hc
      simp only [Option.toList, List.mem_append, List.mem_singleton] at hc
      rcases hc with hc | rfl
      · exact hall c hc
      · exact h1
    · have e : (if (s[k].toNat : Int) = 48 then (some false : Option Bool) else some (!(decide ((s[k].toNat : Int) = 49)))) = some true := by
        rw [if_neg (fun h => h1 (.inl ((u48 _).1 h))), decide_eq_false (fun h => h1 (.inr ((u49 _).1 h)))]; rfl
      rw [e, Option.bind_some]
      refine wp_some (wp_some ?_)
      exact (decide_eq_false fun hb => h1 (hb.2 _ (List.getElem_mem hk2))).symm
  · refine wp_some (wp_some ?_)
    obtain rfl : k = s.length := by omega
    rw [List.take_length] at hall
    refine decide_eq_decide.2 ?_
    exact ⟨fun h => ⟨by omega, hall⟩, fun h => by have := h.1; omega⟩
end Go.Vs.G

namespace Go.Vs.G
open Go Go.Vs
theorem ValidBurning_eq {s : List UInt8} (hs : s.length ≤ 1048576) : impl_ValidBurning s = some (decide (brn s)) := by
  unfold impl_ValidBurning
  by_cases h : s.length ≤ 60
  · rw [if_pos (by omega)]
    unfold strings_Trim
    rw [if_pos ⟨by omega, by decide, by decide⟩, Option.bind_some]
    have hiff : Lib.trimS s [48, 49] = [] ↔ brn s := by
      rw [trim_nil]
      unfold brn
      constructor
      · intro h2
        refine ⟨h, fun c hc => ?_⟩
        have := h2 c hc
        simpa using this
      · intro h2 c hc
        have := h2.2 c hc
        simpa using this
    by_cases hb : brn s
    · rw [hiff.2 hb, decide_eq_true hb]; rfl
    · rw [decide_eq_false hb]
      have : Lib.trimS s [48, 49] ≠ [] := fun h => hb (hiff.1 h)
      simpa using this
  · rw [if_neg (by omega), decide_eq_false (fun h2 => h h2.1)]
theorem laws_FnExactValidBurning_true {s : List UInt8} (hs : okS s) : laws_FnExactValidBurning s = some true := by
  unfold laws_FnExactValidBurning
  split
  · rfl
  · have hl : s.length ≤ 1048576 := by omega
    unfold spec_ValidBurning
    rw [l21Burning_eq hl, Option.bind_some, Option.bind_some, ValidBurning_eq hl, Option.bind_some]
    simp
end Go.Vs.G

