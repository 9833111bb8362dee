/- The burns of a burning. No conditions. -/
import Derived.Test.YtolinhiimdajhaaHHeat
namespace Go.Vs
open Go
section
variable {α : Type}
theorem last_at {M : List α} {x : α} (h : M.length ≤ 4294967296) : at? (M ++ [x]) (w64 (((M ++ [x]).length : Int) - 1)) = some x := by
  rw [List.length_append, List.length_singleton, w64_id (by omega) (by omega), show ((M.length + 1 : Nat) : Int) - 1 = (M.length : Int) by omega, at_of (by simp)]
  simp
theorem last_set {M : List α} {x y : α} (h : M.length ≤ 4294967296) : (M ++ [x]).set ((w64 (((M ++ [x]).length : Int) - 1)).toNat) y = M ++ [y] := by
  rw [List.length_append, List.length_singleton, w64_id (by omega) (by omega), show (((M.length + 1 : Nat) : Int) - 1).toNat = M.length by omega]
  rw [List.set_append_right _ _ (Nat.le_refl _)]
  simp
end
end Go.Vs
namespace Go.Vs.G
open Go Go.Vs
/-- the tick before burns, too -/
def pc (c : Nat → Bool) (k : Nat) : Bool := decide (0 < k) && c (k - 1)
def incH : List (Nat × Nat) → List (Nat × Nat)
  | p :: L => (p.1, p.2 + 1) :: L
  | [] => []
/-- the burns among the first k ticks, the last one first -/
def rb (c : Nat → Bool) : Nat → List (Nat × Nat)
  | 0 => []
  | k + 1 => if c k = true then (if pc c k = true then incH (rb c k) else (k, 1) :: rb c k) else rb c k
theorem rb_head {c : Nat → Bool} : ∀ {k : Nat}, c k = true → ∃ p L, rb c (k + 1) = p :: L ∧ p.1 + p.2 = k + 1
  | 0, h => ⟨(0, 1), [], by rw [rb, if_pos h]; rfl, rfl⟩
  | k + 1, h => by
    rw [rb, if_pos h]
    by_cases hp : pc c (k + 1) = true
    · rw [if_pos hp]
      have hk : c k = true := by unfold pc at hp; simpa using hp
      obtain ⟨p, L, h1, h2⟩ := rb_head hk
      rw [h1]
      exact ⟨_, L, rfl, by simp only; omega⟩
    · rw [if_neg hp]; exact ⟨_, _, rfl, rfl⟩
theorem rb_pc {c : Nat → Bool} {k : Nat} (h : pc c k = true) : ∃ p L, rb c k = p :: L ∧ p.1 + p.2 = k := by
  unfold pc at h
  rw [Bool.and_eq_true, decide_eq_true_eq] at h
  obtain ⟨j, rfl⟩ : ∃ j, k = j + 1 := ⟨k - 1, by omega⟩
  exact rb_head (by simpa using h.2)
theorem rb_len (c : Nat → Bool) : ∀ k, (rb c k).length ≤ k
  | 0 => by simp [rb]
  | k + 1 => by
    have ih := rb_len c k
    rw [rb]
    split
    · split
      · cases h : rb c k with
        | nil => simp [incH]
        | cons p L => rw [h] at ih; simp [incH] at ih ⊢; omega
      · simp; omega
    · omega
theorem rb_in {c : Nat → Bool} : ∀ {k : Nat} {p : Nat × Nat}, p ∈ rb c k → 1 ≤ p.2 ∧ p.1 + p.2 ≤ k
  | k + 1, p, h => by
    rw [rb] at h
    split at h
    · split at h
      · rename_i hp
        obtain ⟨q, L, h1, h2⟩ := rb_pc hp
        rw [h1, incH, List.mem_cons] at h
        rcases h with rfl | h
        · exact ⟨by simp only; omega, by simp only; omega⟩
        · have := rb_in (c := c) (k := k) (p := p) (by rw [h1]; exact List.mem_cons_of_mem _ h)
          omega
      · rw [List.mem_cons] at h
        rcases h with rfl | h
        · exact ⟨by simp, by simp⟩
        · have := rb_in h; omega
    · have := rb_in h; omega
/-- one behind the other, with a gap -/
theorem rb_gap {c : Nat → Bool} : ∀ {k : Nat}, (rb c k).Pairwise fun p q => q.1 + q.2 < p.1
  | 0 => by simp [rb]
  | k + 1 => by
    have ih := rb_gap (c := c) (k := k)
    rw [rb]
    split
    · split
      · rename_i hp
        obtain ⟨q, L, h1, h2⟩ := rb_pc hp
        rw [h1] at ih ⊢
        rw [List.pairwise_cons] at ih
        rw [incH, List.pairwise_cons]
        exact ih
      · rename_i hck hp
        rw [List.pairwise_cons]
        refine ⟨fun q hq => ?_, ih⟩
        have h1 := rb_in hq
        simp only
        rcases Nat.lt_or_ge (q.1 + q.2) k with h2 | h2
        · exact h2
        · -- the tick before would burn
          exfalso
          have h3 : q.1 + q.2 = k := by omega
          have : ∀ {k : Nat} {q : Nat × Nat}, q ∈ rb c k → q.1 + q.2 = k → pc c k = true := by
            intro k
            induction k with
            | zero => intro q hq; simp [rb] at hq
            | succ k ih2 =>
              intro q hq he
              rw [rb] at hq
              by_cases hc : c k = true
              · simp [pc, hc]
              · rw [if_neg hc] at hq
                have := rb_in hq
                omega
          exact hp (this hq h3)
    · exact ih
theorem rb_cov {c : Nat → Bool} : ∀ {k j : Nat}, j < k → (c j = true ↔ ∃ p, p ∈ rb c k ∧ p.1 ≤ j ∧ j < p.1 + p.2)
  | k + 1, j, h => by
    rw [rb]
    by_cases hck : c k = true
    · rw [if_pos hck]
      by_cases hp : pc c k = true
      · rw [if_pos hp]
        obtain ⟨q, L, h1, h2⟩ := rb_pc hp
        have hq := rb_in (c := c) (k := k) (p := q) (by rw [h1]; simp)
        rw [h1, incH]
        rcases Nat.lt_or_ge j k with h3 | h3
        · rw [rb_cov h3, h1]
          constructor
          · rintro ⟨p, hp1, hp2, hp3⟩
            rcases List.mem_cons.1 hp1 with rfl | hp1
            · exact ⟨_, List.mem_cons_self .., by simp only; omega, by simp only; omega⟩
            · exact ⟨p, List.mem_cons_of_mem _ hp1, hp2, hp3⟩
          · rintro ⟨p, hp1, hp2, hp3⟩
            rcases List.mem_cons.1 hp1 with rfl | hp1
            · simp only at hp2 hp3
              exact ⟨q, by simp, hp2, by omega⟩
            · exact ⟨p, List.mem_cons_of_mem _ hp1, hp2, hp3⟩
        · obtain rfl : j = k := by omega
          simp only [hck, true_iff]
          exact ⟨_, List.mem_cons_self .., by simp only; omega, by simp only; omega⟩
      · rw [if_neg hp]
        rcases Nat.lt_or_ge j k with h3 | h3
        · rw [rb_cov h3]
          constructor
          · rintro ⟨p, hp1, hp2⟩; exact ⟨p, List.mem_cons_of_mem _ hp1, hp2⟩
          · rintro ⟨p, hp1, hp2, hp3⟩
            rcases List.mem_cons.1 hp1 with rfl | hp1
            · simp only at hp2; omega
            · exact ⟨p, hp1, hp2, hp3⟩
        · obtain rfl : j = k := by omega
          simp only [hck, true_iff]
          exact ⟨_, List.mem_cons_self .., Nat.le_refl _, by simp⟩
    · rw [if_neg hck]
      rcases Nat.lt_or_ge j k with h3 | h3
      · exact rb_cov h3
      · obtain rfl : j = k := by omega
        refine ⟨fun h => absurd h hck, ?_⟩
        rintro ⟨p, hp1, hp2, hp3⟩
        have := rb_in hp1
        omega
/-- ticks that burn -/
def ones (c : Nat → Bool) : Nat → Nat
  | 0 => 0
  | k + 1 => ones c k + if c k = true then 1 else 0
theorem rb_sum (c : Nat → Bool) : ∀ k, ((rb c k).map (·.2)).sum = ones c k
  | 0 => by simp [rb, ones]
  | k + 1 => by
    have ih := rb_sum c k
    rw [rb, ones]
    by_cases hck : c k = true
    · rw [if_pos hck, if_pos hck]
      by_cases hp : pc c k = true
      · rw [if_pos hp]
        obtain ⟨q, L, h1, h2⟩ := rb_pc hp
        rw [h1] at ih ⊢
        simp [incH] at ih ⊢; omega
      · rw [if_neg hp]; simp; omega
    · rw [if_neg hck, if_neg hck]; omega
theorem ones_le (c : Nat → Bool) : ∀ k, ones c k ≤ k
  | 0 => by simp [ones]
  | k + 1 => by have := ones_le c k; rw [ones]; split <;> omega
def row (p : Nat × Nat) : List Int := [(p.1 : Int), (p.2 : Int)]
def rows (L : List (Nat × Nat)) : List (List Int) := L.reverse.map row
theorem rows_cons (p : Nat × Nat) (L : List (Nat × Nat)) : rows (p :: L) = rows L ++ [row p] := by simp [rows]
theorem rows_len (L : List (Nat × Nat)) : (rows L).length = L.length := by simp [rows]
/-- burning at tick i -/
def bat (s : List UInt8) (i : Nat) : Bool := decide (s.getD i 0 = 49)
theorem bat_get {s : List UInt8} {i : Nat} (h : i < s.length) : bat s i = decide (s[i] = 49) := by unfold bat; rw [List.getD_eq_getElem?_getD, List.getElem?_eq_getElem h]; rfl
theorem burnsOf_eq {s : List UInt8} (hs : brn s) : impl_burnsOf s = some (rows (rb (bat s) s.length)) := by
  have h60 := hs.1
  unfold impl_burnsOf
  refine eq_of_wp ?_
  refine wp_cnt (fun k => (rows (rb (bat s) k), (k : Int))) s.length rfl (by omega) (fun k hk => ?_) (b := rows (rb (bat s) s.length)) ?_ (wp_some rfl)
  · have hlen := rb_len (bat s) k
    have hch := hs.2 _ (List.getElem_mem hk)
    have hb := bat_get hk
    simp only
    rw [if_pos (by omega), at_of hk, Option.bind_some, w64_id (n := (k : Int) + 1) (by omega) (by omega), rb]
    by_cases hc : s[k] = 49
    · rw [hb, decide_eq_true hc, if_neg (fun h => by rw [(u48 _).1 h] at hc; exact absurd hc (by decide))]
      have hpc : (if (k : Int) > 0 then ((at? s (w64 ((k : Int) - 1))).bind fun c2 => some (decide ((c2.toNat : Int) = 49))) else some false : Option Bool) = some (pc (bat s) k) := by
        unfold pc
        by_cases h0 : 0 < k
        · rw [if_pos (by omega), w64_id (by omega) (by omega), show (k : Int) - 1 = ((k - 1 : Nat) : Int) by omega, at_of (by omega), Option.bind_some, bat_get (by omega), decide_eq_true h0, Bool.true_and]
          exact congrArg some (decide_eq_decide.2 (u49 _))
        · rw [if_neg (by omega), decide_eq_false h0]; rfl
      rw [hpc, Option.bind_some]
      by_cases hp : pc (bat s) k = true
      · obtain ⟨p, L, h1, h2⟩ := rb_pc hp
        have h3 : (rows L).length ≤ 60 := by rw [rows_len]; rw [h1] at hlen; simp at hlen; omega
        rw [if_pos hp, if_pos rfl, if_pos hp, h1, rows_cons, last_at (by omega), Option.bind_some]
        have ha : at? (row p) 1 = some (p.2 : Int) := rfl
        rw [ha, Option.bind_some, Option.bind_some, last_set (by omega), incH, rows_cons, w64_id (n := (p.2 : Int) + 1) (by omega) (by omega)]
        rfl
      · rw [if_neg hp, if_pos rfl, if_neg hp, app_ok (by rw [rows_len]; simp; omega), Option.bind_some, rows_cons]
        rfl
    · rw [hb, decide_eq_false hc, if_pos ((u48 _).2 (hch.resolve_right hc)), if_neg (by simp)]; rfl
  · simp only; rw [if_neg (by omega)]
theorem l21Burns_eq {s : List UInt8} (hs : brn s) : spec_l21Burns s = some (rows (rb (bat s) s.length)) := by
  have h60 := hs.1
  unfold spec_l21Burns
  refine eq_of_wp ?_
  refine wp_cnt (fun k => (rows (rb (bat s) k), (k : Int))) s.length rfl (by omega) (fun k hk => ?_) (b := rows (rb (bat s) s.length)) ?_ (wp_some rfl)
  · have hlen := rb_len (bat s) k
    have hb := bat_get hk
    simp only
    rw [if_pos (by omega), at_of hk, Option.bind_some, w64_id (n := (k : Int) + 1) (by omega) (by omega), rb]
    by_cases hc : s[k] = 49
    · rw [hb, decide_eq_true hc, if_pos ((u49 _).2 hc)]
      have hpc : (if (k : Int) = 0 then (some true) else (at? s (w64 ((k : Int) - 1))).bind fun c2 => some (!(decide ((c2.toNat : Int) = 49))) : Option Bool) = some (!(pc (bat s) k)) := by
        unfold pc
        by_cases h0 : 0 < k
        · rw [if_neg (by omega), w64_id (by omega) (by omega), show (k : Int) - 1 = ((k - 1 : Nat) : Int) by omega, at_of (by omega), Option.bind_some, bat_get (by omega), decide_eq_true h0, Bool.true_and]
          exact congrArg some (congrArg (!·) (decide_eq_decide.2 (u49 _)))
        · rw [if_pos (by omega), decide_eq_false h0]; rfl
      rw [hpc, Option.bind_some]
      by_cases hp : pc (bat s) k = true
      · obtain ⟨p, L, h1, h2⟩ := rb_pc hp
        have h3 : (rows L).length ≤ 60 := by rw [rows_len]; rw [h1] at hlen; simp at hlen; omega
        have ha : at? (row p) 1 = some (p.2 : Int) := rfl
        rw [hp]
        simp only [Bool.not_true, Bool.false_eq_true, if_false, if_true, Option.bind_some]
        rw [h1, rows_cons, last_at (by omega), Option.bind_some, ha, Option.bind_some, Option.bind_some, last_set (by omega), incH, rows_cons, w64_id (n := (p.2 : Int) + 1) (by omega) (by omega)]
        rfl
      · have h3 : (rows (rb (bat s) k)).length ≤ 60 := by rw [rows_len]; omega
        have ha : at? ([(k : Int), 0] : List Int) 1 = some (0 : Int) := rfl
        rw [Bool.eq_false_iff.2 hp]
        simp only [Bool.not_false, Bool.false_eq_true, if_false, if_true, Option.bind_some]
        rw [app_ok (by simp; omega), Option.bind_some, Option.bind_some, last_at (by omega), Option.bind_some, ha, Option.bind_some, Option.bind_some, last_set (by omega), rows_cons, w64_id (n := (0 : Int) + 1) (by omega) (by omega)]
        rfl
    · rw [hb, decide_eq_false hc, if_neg (fun h => hc ((u49 _).1 h)), if_neg (by simp)]; rfl
  · simp only; rw [if_neg (by omega)]
end Go.Vs.G
