/- Cues: hands at a tick, the first overload. No conditions. -/
import Derived.Test.YtolinhiimdajhaaHBurns
import Derived.Test.YtolinhiimdajhaaHDraw
namespace Go.Vs
open Go
theorem mx_at {f : Nat → Int} : ∀ {k : Nat}, 0 < mx f k → ∃ i, i < k ∧ f i = mx f k
  | k + 1, h => by
    rw [mx] at h ⊢
    by_cases h1 : f k > mx f k
    · exact ⟨k, by omega, by omega⟩
    · obtain ⟨i, hi, he⟩ := mx_at (f := f) (k := k) (by omega)
      exact ⟨i, by omega, by omega⟩
end Go.Vs
namespace Go.Vs.G
open Go Go.Vs
def cq (l : List GCue) (i : Nat) : GCue := l.getD i default
theorem at_cq {l : List GCue} {i : Nat} (h : i < l.length) : at? l (i : Int) = some (cq l i) := by
  unfold cq; rw [at_of h, List.getD_eq_getElem?_getD, List.getElem?_eq_getElem h]; rfl
/-- a cue as it is drawn -/
def dcue (c : GCue) : Prop := (0 ≤ c.At ∧ c.At ≤ 23) ∧ (1 ≤ c.Ticks ∧ c.Ticks ≤ 7) ∧ (1 ≤ c.Hands ∧ c.Hands ≤ 2) ∧ (0 ≤ c.Slack ∧ c.Slack ≤ 4)
def dcues (l : List GCue) : Prop := l.length ≤ 6 ∧ ∀ i, i < l.length → dcue (cq l i)
def act (c : GCue) (t : Int) : Bool := decide (c.At ≤ t ∧ t < c.At + c.Ticks)
/-- the hands at a tick -/
def hnd (l : List GCue) (t : Int) : Nat → Int
  | 0 => 0
  | k + 1 => hnd l t k + if act (cq l k) t = true then (cq l k).Hands else 0
theorem hnd_bd {l : List GCue} (h : dcues l) (t : Int) : ∀ k, k ≤ l.length → 0 ≤ hnd l t k ∧ hnd l t k ≤ 2 * k
  | 0, _ => by simp [hnd]
  | k + 1, hk => by
    have h1 := hnd_bd h t k (by omega)
    have h2 := (h.2 k (by omega)).2.2.1
    rw [hnd]; split <;> omega
abbrev H (l : List GCue) (t : Int) : Int := hnd l t l.length
theorem hnd_zero {l : List GCue} {t : Int} : ∀ k, (∀ i, i < k → act (cq l i) t = false) → hnd l t k = 0
  | 0, _ => rfl
  | k + 1, h => by rw [hnd, hnd_zero k fun i hi => h i (by omega), h k (by omega)]; simp
theorem hnd_pos {l : List GCue} (h : dcues l) {t : Int} : ∀ {k i : Nat}, k ≤ l.length → i < k → act (cq l i) t = true → 0 < hnd l t k
  | k + 1, i, hk, hi, ha => by
    have h1 := hnd_bd h t k (by omega)
    have h2 := (h.2 k (by omega)).2.2.1
    rw [hnd]
    rcases Nat.lt_or_ge i k with h3 | h3
    · have := hnd_pos h (k := k) (by omega) h3 ha
      split <;> omega
    · obtain rfl : i = k := by omega
      rw [if_pos ha]; omega
/-- where no cue begins there are no more hands than before -/
theorem hnd_step {l : List GCue} (h : dcues l) {t : Int} : ∀ k, k ≤ l.length → (∀ i, i < k → (cq l i).At ≠ t) → hnd l t k ≤ hnd l (t - 1) k
  | 0, _, _ => by simp [hnd]
  | k + 1, hk, hn => by
    have h1 := hnd_step h k (by omega) fun i hi => hn i (by omega)
    have h2 := hn k (by omega)
    have h3 := (h.2 k (by omega)).2.2.1
    rw [hnd, hnd]
    by_cases ha : act (cq l k) t = true
    · have hb : act (cq l k) (t - 1) = true := by
        unfold act at ha ⊢
        have := of_decide_eq_true ha
        exact decide_eq_true (by omega)
      rw [if_pos ha, if_pos hb]; omega
    · rw [if_neg ha]; split <;> omega
theorem H_neg {l : List GCue} (h : dcues l) : H l (-1) = 0 := hnd_zero _ fun i hi => by
  have := (h.2 i hi).1
  unfold act; exact decide_eq_false (by omega)
/-- an overload begins where a cue does -/
theorem over_at {l : List GCue} (h : dcues l) {m : Int} (hm : 0 ≤ m) {t : Int} (ht : 0 ≤ t) (ho : H l t > m) (hb : ∀ u : Int, 0 ≤ u → u < t → H l u ≤ m) : ∃ i, i < l.length ∧ (cq l i).At = t := by
  refine Classical.byContradiction fun hn => ?_
  have hs := hnd_step h (t := t) l.length (Nat.le_refl _) fun i hi he => hn ⟨i, hi, he⟩
  by_cases h0 : t = 0
  · subst h0
    have := H_neg h
    simp only [H] at *
    rw [show (0 : Int) - 1 = -1 by omega] at hs
    omega
  · have := hb (t - 1) (by omega) (by omega)
    simp only [H] at *
    omega
/-- no tick needs more hands than the beginnings of cues -/
theorem H_le {l : List GCue} (h : dcues l) : ∀ (t : Nat), H l (t : Int) ≤ mx (fun i => H l (cq l i).At) l.length
  | 0 => by
    by_cases hex : ∃ i, i < l.length ∧ (cq l i).At = ((0 : Nat) : Int)
    · obtain ⟨i, hi, he⟩ := hex
      rw [← he]; exact le_mx (f := fun i => H l (cq l i).At) hi
    · have hs := hnd_step h (t := ((0 : Nat) : Int)) l.length (Nat.le_refl _) fun i hi he => hex ⟨i, hi, he⟩
      have h1 : H l (-1) = 0 := H_neg h
      have h2 := mx_nonneg (fun i => H l (cq l i).At) l.length
      rw [show ((0 : Nat) : Int) - 1 = -1 by omega] at hs
      exact Int.le_trans hs (by rw [show hnd l (-1) l.length = 0 from h1]; exact h2)
  | t + 1 => by
    by_cases hex : ∃ i, i < l.length ∧ (cq l i).At = ((t + 1 : Nat) : Int)
    · obtain ⟨i, hi, he⟩ := hex
      rw [← he]; exact le_mx (f := fun i => H l (cq l i).At) hi
    · have hs := hnd_step h (t := ((t + 1 : Nat) : Int)) l.length (Nat.le_refl _) fun i hi he => hex ⟨i, hi, he⟩
      rw [show ((t + 1 : Nat) : Int) - 1 = (t : Int) by omega] at hs
      exact Int.le_trans hs (H_le h t)
def Ecu (l : List GCue) : Int := mx (fun i => (cq l i).At + (cq l i).Ticks) l.length
theorem Ecu_bd {l : List GCue} (h : dcues l) : 0 ≤ Ecu l ∧ Ecu l ≤ 30 := ⟨mx_nonneg _ _, mx_le (by omega) fun i hi => by have := h.2 i hi; have := this.1; have := (h.2 i hi).2.1; omega⟩
theorem H_end {l : List GCue} (h : dcues l) : H l (Ecu l) = 0 := hnd_zero _ fun i hi => by
  have := le_mx (f := fun i => (cq l i).At + (cq l i).Ticks) hi
  unfold act Ecu; exact decide_eq_false (by omega)
theorem H_last {l : List GCue} (h : dcues l) (h0 : 0 < Ecu l) : 0 < H l (Ecu l - 1) := by
  obtain ⟨i, hi, he⟩ := mx_at h0
  have h1 := (h.2 i hi).2.1
  refine hnd_pos h (Nat.le_refl _) hi ?_
  unfold act Ecu
  refine decide_eq_true ?_
  omega
section
variable {l : List GCue} (h : dcues l)
include h
theorem handsAt_eq (t : Int) : impl_handsAt l t = some (H l t) := by
  have h6 := h.1
  unfold impl_handsAt
  refine eq_of_wp ?_
  refine wp_cnt (fun k => (hnd l t k, (k : Int))) l.length rfl (by omega) (fun k hk => ?_) (b := H l t) ?_ (wp_some rfl)
  · have hb := hnd_bd h t k (by omega)
    have hc := h.2 k hk
    obtain ⟨c1, c2, c3, c4⟩ := hc
    simp only
    rw [if_pos (by omega), at_cq hk, Option.bind_some, w64_id (n := (k : Int) + 1) (by omega) (by omega), w64_id (n := (cq l k).At + (cq l k).Ticks) (by omega) (by omega), w64_id (by omega) (by omega)]
    have e : (if (cq l k).At ≤ t then (some (decide (t < (cq l k).At + (cq l k).Ticks))) else some false : Option Bool) = some (act (cq l k) t) := by
      unfold act
      by_cases h1 : (cq l k).At ≤ t
      · rw [if_pos h1]; exact congrArg some (decide_eq_decide.2 (by omega))
      · rw [if_neg h1, decide_eq_false (fun h => h1 h.1)]
    rw [e, Option.bind_some, hnd]
    split
    · rfl
    · rw [Int.add_zero]; rfl
  · simp only; rw [if_neg (by omega)]
theorem ValidCues_true : impl_ValidCues l = some true := by
  have h6 := h.1
  unfold impl_ValidCues
  rw [if_pos (by omega)]
  have hcf : slices_ContainsFunc_impl_Cue_impl_Cue_800 l (fun a0 => impl_ValidCues_1 a0) = some (l.any fun _ => false) := by
    unfold slices_ContainsFunc_impl_Cue_impl_Cue_800 slices_IndexFunc_impl_Cue_impl_Cue_822
    refine contS (fun _ => false) l (fun x hx => ?_) (by omega) (fun _ => rfl)
    obtain ⟨i, hi, rfl⟩ := List.getElem_of_mem hx
    have hc := h.2 i hi
    unfold cq at hc
    rw [List.getD_eq_getElem?_getD, List.getElem?_eq_getElem hi] at hc
    obtain ⟨c1, c2, c3, c4⟩ := hc
    simp only [Option.getD_some] at c1 c2 c3 c4
    have hw : ∀ n a b : Int, a ≤ n ∧ n ≤ b → impl_within n a b = some true := fun n a b hn => by unfold impl_within; rw [if_pos (by omega), decide_eq_true hn.2]
    unfold impl_ValidCues_1
    simp only [hw _ 0 10000 ⟨c1.1, by omega⟩, hw _ 1 1000 ⟨c2.1, by omega⟩, hw _ 1 4 ⟨c3.1, by omega⟩, hw _ 0 6 ⟨c4.1, by omega⟩, Option.bind_some, if_true]
    rfl
  rw [hcf, Option.bind_some]
  have : (l.any fun _ => false) = false := by induction l <;> simp
  rw [this]; rfl
theorem endOfCues_eq : impl_endOfCues l = some (Ecu l) := by
  have h6 := h.1
  unfold impl_endOfCues
  refine eq_of_wp ?_
  refine wp_cnt (fun k => (mx (fun i => (cq l i).At + (cq l i).Ticks) k, (k : Int))) l.length rfl (by omega) (fun k hk => ?_) (b := Ecu l) ?_ (wp_some rfl)
  · obtain ⟨c1, c2, c3, c4⟩ := h.2 k hk
    simp only
    rw [if_pos (by omega), at_cq hk, Option.bind_some, w64_id (n := (k : Int) + 1) (by omega) (by omega), w64_id (by omega) (by omega), imax_def, mx]
    rfl
  · simp only; rw [if_neg (by omega)]; rfl
theorem mostHands_eq : impl_mostHands l = some (mx (fun i => H l (cq l i).At) l.length) := by
  have h6 := h.1
  unfold impl_mostHands
  refine eq_of_wp ?_
  refine wp_cnt (fun k => (mx (fun i => H l (cq l i).At) k, (k : Int))) l.length rfl (by omega) (fun k hk => ?_) (b := mx (fun i => H l (cq l i).At) l.length) ?_ (wp_some rfl)
  · simp only
    rw [if_pos (by omega), at_cq hk, Option.bind_some, handsAt_eq h, Option.bind_some, w64_id (n := (k : Int) + 1) (by omega) (by omega), imax_def, mx]
    rfl
  · simp only; rw [if_neg (by omega)]
/-- idle ticks -/
def idl (l : List GCue) (t : Nat) : Bool := decide (H l (t : Int) = 0)
theorem IdleCues_eq : impl_IdleCues l = some (((ones (idl l) (Ecu l).toNat : Nat) : Int), 0) := by
  have hb := Ecu_bd h
  unfold impl_IdleCues
  rw [ValidCues_true h, Option.bind_some, if_pos rfl, endOfCues_eq h, Option.bind_some]
  refine eq_of_wp ?_
  refine wp_cnt (fun k => (((ones (idl l) k : Nat) : Int), (k : Int))) (Ecu l).toNat rfl (by omega) (fun k hk => ?_) (b := ((ones (idl l) (Ecu l).toNat : Nat) : Int)) ?_ (wp_some rfl)
  · have := ones_le (idl l) k
    simp only
    rw [if_pos (by omega), handsAt_eq h, Option.bind_some, w64_id (n := (k : Int) + 1) (by omega) (by omega), w64_id (by omega) (by omega), ones]
    by_cases h0 : H l (k : Int) = 0
    · rw [if_pos h0, if_pos (show idl l k = true from decide_eq_true h0)]; rfl
    · rw [if_neg h0, if_neg (show ¬ idl l k = true from by unfold idl; simpa using h0)]; rfl
  · simp only; rw [if_neg (by omega)]
def over (l : List GCue) (m : Int) (t : Nat) : Bool := decide (H l (t : Int) > m)
def overR (o : Option Nat) : Int × Int := match o with | some t => ((t : Int), 0) | none => (0, 3)
theorem FirstOverload_eq {m : Int} (hm : 0 ≤ m) (hm2 : m ≤ 24) : impl_FirstOverload l m = some (overR (ff (over l m) ((Ecu l).toNat + 1))) := by
  have h6 := h.1
  have hE := Ecu_bd h
  unfold impl_FirstOverload impl_cuesCode
  rw [ValidCues_true h, Option.bind_some, if_pos rfl, show impl_within m 0 24 = some true by unfold impl_within; rw [if_pos (by omega), decide_eq_true (by omega)], Option.bind_some, if_pos rfl, Option.bind_some, if_pos rfl]
  refine eq_of_wp ?_
  refine wp_loop (fun q : Int × Int => ∃ k : Nat, q.2 = (k : Int) ∧ k ≤ l.length ∧ ((q.1 = -1 ∧ ∀ i, i < k → H l (cq l i).At ≤ m) ∨ (∃ i, i < k ∧ q.1 = (cq l i).At ∧ H l (cq l i).At > m ∧ ∀ j, j < k → H l (cq l j).At > m → q.1 ≤ (cq l j).At))) (fun q => (l.length - q.2).toNat) ⟨0, rfl, by omega, .inl ⟨rfl, fun i hi => by omega⟩⟩ (by simp; omega) ?_
  rintro ⟨first, i⟩ ⟨k, rfl, hk, hinv⟩
  simp only at hk hinv ⊢
  refine wp_ite (fun hlt => ?_) (fun hlt => ?_)
  · have hk2 : k < l.length := by omega
    have hck := (h.2 k hk2).1
    rw [at_cq hk2, Option.bind_some, handsAt_eq h, Option.bind_some, w64_id (n := (k : Int) + 1) (by omega) (by omega)]
    by_cases ho : H l (cq l k).At > m
    · rw [if_pos ho]
      have e : (if first < 0 then (some true) else some (decide ((cq l k).At < first)) : Option Bool) = some (decide (first < 0 ∨ (cq l k).At < first)) := by
        by_cases hf : first < 0
        · rw [if_pos hf, decide_eq_true (.inl hf)]
        · rw [if_neg hf]; exact congrArg some (decide_eq_decide.2 ⟨.inr, fun h => h.resolve_left hf⟩)
      rw [e, Option.bind_some]
      by_cases hn : first < 0 ∨ (cq l k).At < first
      · rw [decide_eq_true hn, if_pos rfl]
        refine wp_some ⟨⟨k + 1, rfl, by omega, .inr ⟨k, by omega, rfl, ho, fun j hj hoj => ?_⟩⟩, by simp only; omega⟩
        simp only
        rcases Nat.lt_or_ge j k with h3 | h3
        · rcases hinv with ⟨h4, h5⟩ | ⟨i, h4, h5, h6, h7⟩
          · have := h5 j h3; omega
          · have := h7 j h3 hoj
            have := (h.2 i (by omega)).1
            omega
        · obtain rfl : j = k := by omega
          omega
      · rw [decide_eq_false hn, if_neg (by simp)]
        refine wp_some ⟨⟨k + 1, rfl, by omega, ?_⟩, by simp only; omega⟩
        simp only
        rcases hinv with ⟨h4, h5⟩ | ⟨i, h4, h5, h6, h7⟩
        · exact absurd (.inl (by omega)) hn
        · refine .inr ⟨i, by omega, h5, h6, fun j hj hoj => ?_⟩
          rcases Nat.lt_or_ge j k with h3 | h3
          · exact h7 j h3 hoj
          · obtain rfl : j = k := by omega
            omega
    · rw [if_neg ho, Option.bind_some, if_neg (by simp)]
      refine wp_some ⟨⟨k + 1, rfl, by omega, ?_⟩, by simp only; omega⟩
      simp only
      rcases hinv with ⟨h4, h5⟩ | ⟨i, h4, h5, h6, h7⟩
      · refine .inl ⟨h4, fun j hj => ?_⟩
        rcases Nat.lt_or_ge j k with h3 | h3
        · exact h5 j h3
        · obtain rfl : j = k := by omega
          omega
      · refine .inr ⟨i, by omega, h5, h6, fun j hj hoj => ?_⟩
        rcases Nat.lt_or_ge j k with h3 | h3
        · exact h7 j h3 hoj
        · obtain rfl : j = k := by omega
          exact absurd hoj ho
  · obtain rfl : k = l.length := by omega
    refine wp_some ?_
    show wp (if first < 0 then _ else _) _
    -- the least tick with an overload is the beginning of a cue
    cases hff : ff (over l m) ((Ecu l).toNat + 1) with
    | none =>
      have hall := ff_none.1 hff
      rcases hinv with ⟨h4, h5⟩ | ⟨i, h4, h5, h6, h7⟩
      · rw [if_pos (by omega)]; exact wp_some rfl
      · have h8 := (h.2 i (by omega)).1
        have h9 := le_mx (f := fun i => (cq l i).At + (cq l i).Ticks) (show i < l.length by omega)
        have h10 := (h.2 i (by omega)).2.1
        have := hall (cq l i).At.toNat (by unfold Ecu; omega)
        unfold over at this
        have := of_decide_eq_false this
        rw [show (((cq l i).At.toNat : Nat) : Int) = (cq l i).At by omega] at this
        omega
    | some t =>
      obtain ⟨ht1, ht2⟩ := ff_lt hff
      have hot := of_decide_eq_true (p := H l (t : Int) > m) ht2
      have hless : ∀ u : Nat, u < t → H l (u : Int) ≤ m := fun u hu => by
        refine Classical.byContradiction fun hn => ?_
        have hex : ∃ v, v ≤ u ∧ ff (over l m) v = none ∧ over l m v = true := by
          have : ∀ n : Nat, (∀ v, v < n → over l m v = false) ∨ ∃ v, v < n ∧ ff (over l m) v = none ∧ over l m v = true := by
            intro n
            induction n with
            | zero => exact .inl fun v hv => by omega
            | succ n ih =>
              rcases ih with ih | ⟨v, hv, hr⟩
              · by_cases hv : over l m n = true
                · exact .inr ⟨n, by omega, ff_none.2 ih, hv⟩
                · refine .inl fun v hv2 => ?_
                  rcases Nat.lt_or_ge v n with h3 | h3
                  · exact ih v h3
                  · obtain rfl : v = n := by omega
                    simpa using hv
              · exact .inr ⟨v, by omega, hr⟩
          rcases this (u + 1) with h3 | ⟨v, hv, hr⟩
          · have := h3 u (by omega)
            unfold over at this
            exact absurd (by omega) (of_decide_eq_false this)
          · exact ⟨v, by omega, hr⟩
        obtain ⟨v, hv1, hv2, hv3⟩ := hex
        have := ff_some hv2 hv3 (n := (Ecu l).toNat + 1) (by omega)
        rw [hff] at this
        have := Option.some.inj this
        omega
      obtain ⟨i, hi, hia⟩ := over_at h hm (t := (t : Int)) (by omega) hot fun u hu hut => by
        have := hless u.toNat (by omega)
        rwa [show ((u.toNat : Nat) : Int) = u by omega] at this
      rcases hinv with ⟨h4, h5⟩ | ⟨j, h4, h5, h6, h7⟩
      · have := h5 i hi
        rw [hia] at this; omega
      · have h8 := h7 i hi (by rw [hia]; exact hot)
        have h9 := (h.2 j (by omega)).1
        have h10 : ¬ (cq l j).At < (t : Int) := fun hlt2 => by
          have := hless (cq l j).At.toNat (by omega)
          rw [show (((cq l j).At.toNat : Nat) : Int) = (cq l j).At by omega] at this
          omega
        rw [if_neg (by omega)]
        refine wp_some ?_
        simp only [overR]
        rw [show first = (t : Int) by omega]
end
end Go.Vs.G
