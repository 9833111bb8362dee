/- Burnings of a lamp: heat, the first tick that is too hot. No conditions. -/
import Derived.Test.YtolinhiimdajhaaHSigns
import Derived.Test.YtolinhiimdajhaaHLampC
namespace Go.Vs
open Go
/-- the first number below n that fits -/
def ff (c : Nat → Bool) : Nat → Option Nat
  | 0 => none
  | n + 1 => match ff c n with
    | some i => some i
    | none => if c n = true then some n else none
theorem ff_none {c : Nat → Bool} : ∀ {n : Nat}, ff c n = none ↔ ∀ i, i < n → c i = false
  | 0 => by simp [ff]
  | n + 1 => by
    have ih := ff_none (c := c) (n := n)
    rw [ff]
    cases h : ff c n with
    | some i =>
      simp only [reduceCtorEq, false_iff]
      intro h2
      have := ih.2 fun j hj => h2 j (by omega)
      rw [h] at this; cases this
    | none =>
      have h1 := ih.1 h
      simp only
      constructor
      · intro h2 i hi
        rcases Nat.lt_or_ge i n with h3 | h3
        · exact h1 i h3
        · obtain rfl : i = n := by omega
          by_cases hc : c i = true
          · rw [if_pos hc] at h2; cases h2
          · simpa using hc
      · intro h2; rw [h2 n (by omega), if_neg (by simp)]
theorem ff_some {c : Nat → Bool} {k : Nat} (h : ff c k = none) (hc : c k = true) : ∀ {n : Nat}, k < n → ff c n = some k
  | n + 1, hk => by
    rw [ff]
    rcases Nat.lt_or_ge k n with h1 | h1
    · rw [ff_some h hc h1]
    · obtain rfl : k = n := by omega
      rw [h]; simp only; rw [if_pos hc]
theorem ff_lt {c : Nat → Bool} : ∀ {n i : Nat}, ff c n = some i → i < n ∧ c i = true
  | n + 1, i, h => by
    rw [ff] at h
    cases h2 : ff c n with
    | some j => rw [h2] at h; cases h; have := ff_lt h2; exact ⟨by omega, this.2⟩
    | none =>
      rw [h2] at h; simp only at h
      by_cases hc : c n = true
      · rw [if_pos hc] at h; cases h; exact ⟨by omega, hc⟩
      · rw [if_neg hc] at h; cases h
/-- trimmed to nothing -/
theorem dropWhile_nil {p : UInt8 → Bool} : ∀ {l : List UInt8}, l.dropWhile p = [] ↔ ∀ x, x ∈ l → p x = true
  | [] => by simp
  | a :: l => by
    rw [List.dropWhile_cons]
    by_cases h : p a = true
    · rw [if_pos h, dropWhile_nil]; simp [h]
    · rw [if_neg h]; simp [h]
theorem trim_nil {l cs : List UInt8} : Lib.trimS l cs = [] ↔ ∀ x, x ∈ l → cs.contains x = true := by
  unfold Lib.trimS Lib.trimLeftS Lib.trimRightS
  rw [dropWhile_nil]
  constructor
  · intro h
    have h2 : l.reverse.dropWhile (cs.contains ·) = [] := by
      refine Classical.byContradiction fun hn => ?_
      obtain ⟨a, t, ht⟩ := List.exists_cons_of_ne_nil hn
      have h3 := h a (by rw [ht]; simp)
      have h4 := List.head_dropWhile_not (cs.contains ·) (l := l.reverse) hn
      simp only [ht, List.head_cons] at h4
      rw [h3] at h4; cases h4
    rw [dropWhile_nil] at h2
    exact fun x hx => h2 x (by simpa using hx)
  · intro h x hx
    refine h x ?_
    rw [List.mem_reverse] at hx
    exact List.mem_reverse.1 ((List.dropWhile_sublist _).subset hx)
end Go.Vs
namespace Go.Vs.G
open Go Go.Vs
/-- a burning -/
def brn (s : List UInt8) : Prop := s.length ≤ 60 ∧ ∀ c, c ∈ s → c = 48 ∨ c = 49
instance (s : List UInt8) : Decidable (brn s) := inferInstanceAs (Decidable (_ ∧ _))
theorem u8_eq (c : UInt8) (n : Nat) (hn : n < 256) : ((c.toNat : Int) = (n : Int)) ↔ c = UInt8.ofNat n := by
  constructor
  · intro h
    have h2 : c.toNat = n := by omega
    rw [← h2, UInt8.ofNat_toNat]
  · rintro rfl
    simp [UInt8.toNat_ofNat']
    omega
theorem u48 (c : UInt8) : ((c.toNat : Int) = 48) ↔ c = 48 := u8_eq c 48 (by decide)
theorem u49 (c : UInt8) : ((c.toNat : Int) = 49) ↔ c = 49 := u8_eq c 49 (by decide)
theorem l21Burning_eq {s : List UInt8} (hs : s.length ≤ 1048576) : spec_l21Burning s = some (decide (brn s)) := by
  unfold spec_l21Burning
  refine eq_of_wp ?_
  refine wp_loop (fun i : Int => ∃ k : Nat, i = (k : Int) ∧ k ≤ s.length ∧ ∀ c, c ∈ s.take k → c = 48 ∨ c = 49) (fun i => (s.length - i).toNat) ⟨0, rfl, by omega, by simp⟩ (by omega) ?_
  rintro _ ⟨k, rfl, hk, hall⟩
  refine wp_ite (fun h => ?_) (fun h => ?_)
  · have hk2 : k < s.length := by omega
    rw [at_of hk2]
    simp only [Option.bind_some]
    by_cases h1 : s[k] = 48 ∨ s[k] = 49
    · have e : (if (s[k].toNat : Int) = 48 then (some false : Option Bool) else some (!(decide ((s[k].toNat : Int) = 49)))) = some false := by
        rcases h1 with h1 | h1
        · rw [if_pos ((u48 _).2 h1)]
        · rw [decide_eq_true ((u49 _).2 h1)]; split <;> rfl
      rw [e, Option.bind_some, w64_id (by omega) (by omega)]
      refine wp_some ⟨⟨k + 1, rfl, by omega, fun c hc => ?_⟩, by omega⟩
      rw [List.take_add_one, List.getElem?_eq_getElem hk2] at hc
      simp only [Option.toList, List.mem_append, List.mem_singleton] at hc
      rcases hc with hc | rfl
      · exact hall c hc
      · exact h1
    · have e : (if (s[k].toNat : Int) = 48 then (some false : Option Bool) else some (!(decide ((s[k].toNat : Int) = 49)))) = some true := by
        rw [if_neg (fun h => h1 (.inl ((u48 _).1 h))), decide_eq_false (fun h => h1 (.inr ((u49 _).1 h)))]; rfl
      rw [e, Option.bind_some]
      refine wp_some (wp_some ?_)
      exact (decide_eq_false fun hb => h1 (hb.2 _ (List.getElem_mem hk2))).symm
  · refine wp_some (wp_some ?_)
    obtain rfl : k = s.length := by omega
    rw [List.take_length] at hall
    refine decide_eq_decide.2 ?_
    exact ⟨fun h => ⟨by omega, hall⟩, fun h => by have := h.1; omega⟩
/-- the heat after a tick -/
def nx (x : GLamp) (h : Int) (b : Bool) : Int := if b then h + x.Heats else max (h - x.Cools) 0
def hts (x : GLamp) : Int → List UInt8 → List Int
  | _, [] => []
  | h, c :: s => nx x h (decide (c = 49)) :: hts x (nx x h (decide (c = 49))) s
theorem hts_len (x : GLamp) : ∀ (s : List UInt8) (h : Int), (hts x h s).length = s.length
  | [], _ => rfl
  | c :: s, h => by rw [hts, List.length_cons, hts_len x s, List.length_cons]
theorem nx_bd {x : GLamp} (hx : x.good) {h : Int} {k : Nat} (h0 : 0 ≤ h) (h1 : h ≤ 20 * k) (b : Bool) : 0 ≤ nx x h b ∧ nx x h b ≤ 20 * (k + 1 : Nat) := by
  obtain ⟨g1, g2, g3, g4, g5, g6⟩ := hx
  unfold nx; split <;> omega
/-- the loop of the heat -/
theorem heatLoop {x : GLamp} (hx : x.good) {s : List UInt8} (hs : s.length ≤ 60) {f : Int → Bool → Option Int} (hf : ∀ h b, 0 ≤ h → h ≤ 100000 → f h b = some (nx x h b)) {α : Type} {kb : List Int → Option α} {kr : Empty → Option α} {body : List Int × Int × Int → Option (Step (List Int × Int × Int) (List Int) Empty)}
    (hb : ∀ (out : List Int) (heat i : Int), body (out, heat, i) = if i < (s.length : Int) then ((at? s i).bind fun c1 => (f heat (decide ((c1.toNat : Int) = 49))).bind fun r1 => (app? out ([r1] : List Int)).bind fun l1 => some (.next (l1, r1, w64 (i + 1)))) else some (.brk out)) :
    onL (loop body loopLim ([], 0, 0)) kb kr = kb (hts x 0 s) := by
  have : wp (onL (loop body loopLim ([], 0, 0)) some Empty.elim) (fun r => r = hts x 0 s) := by
    refine wp_loop (fun t : List Int × Int × Int => ∃ k : Nat, t.2.2 = (k : Int) ∧ k ≤ s.length ∧ t.1.length = k ∧ 0 ≤ t.2.1 ∧ t.2.1 ≤ 20 * k ∧ t.1 ++ hts x t.2.1 (s.drop k) = hts x 0 s) (fun t => (s.length - t.2.2).toNat) ⟨0, rfl, by omega, rfl, by simp, by simp, by simp⟩ (by simp; omega) ?_
    rintro ⟨out, heat, i⟩ ⟨k, rfl, hk, hl, h0, h1, he⟩
    simp only at hk hl h0 h1 he ⊢
    rw [hb]
    refine wp_ite (fun h => ?_) (fun h => ?_)
    · have hk2 : k < s.length := by omega
      have hbd := nx_bd hx h0 h1 (decide (s[k] = 49))
      have ec : (decide ((s[k].toNat : Int) = 49)) = decide (s[k] = 49) := decide_eq_decide.2 (u49 _)
      rw [at_of hk2, Option.bind_some, ec, hf _ _ h0 (by omega), Option.bind_some, app_ok (by simp; omega), Option.bind_some, w64_id (by omega) (by omega)]
      refine wp_some ⟨⟨k + 1, rfl, by omega, by simp [hl], hbd.1, by simp only; omega, ?_⟩, by simp only; omega⟩
      rw [List.drop_eq_getElem_cons hk2, hts] at he
      simp only
      rw [List.append_assoc]; exact he
    · obtain rfl : k = s.length := by omega
      rw [List.drop_length, hts, List.append_nil] at he
      exact wp_some (wp_some he)
  obtain ⟨r, h1, rfl⟩ := this
  cases hh : loop body loopLim ([], 0, 0) with
  | none => rw [hh] at h1; cases h1
  | some o =>
    rw [hh] at h1
    cases o with
    | brk b => simp only [onL, Option.some.injEq] at h1; subst h1; rfl
    | ret r => exact r.elim
theorem l21Heat_eq {x : GLamp} (hx : x.good) {s : List UInt8} (hs : s.length ≤ 60) : spec_l21Heat x s = some (hts x 0 s) := by
  unfold spec_l21Heat
  exact heatLoop hx hs (f := fun h b => spec_l21Next x h b) (fun h b h0 h1 => by rw [l21Next_eq hx h0 h1]; rfl) (fun _ _ _ => rfl)
open Classical in
noncomputable def heatR (x : GLamp) (s : List UInt8) : List Int × Int := if x.good ∧ brn s then (hts x 0 s, 0) else ([], 1)
end Go.Vs.G
