/- Exact laws of burns and fuel. No conditions. -/
import Derived.Test.YtolinhiimdajhaaHBurns
import Derived.Test.YtolinhiimdajhaaHHeatB
import Derived.Test.YtolinhiimdajhaaHSignsF
namespace Go.Vs.G
open Go Go.Vs
open Classical in
noncomputable def burnsR (s : List UInt8) : List (List Int) × Int := if brn s then (rows (rb (bat s) s.length), 0) else ([], 1)
open Classical in
theorem BurnsOf_eq {s : List UInt8} (hs : s.length ≤ 1048576) : impl_BurnsOf s = some (burnsR s) := by
  unfold impl_BurnsOf burnsR
  rw [ValidBurning_eq hs, Option.bind_some]
  by_cases h : brn s
  · rw [decide_eq_true h, if_pos rfl, burnsOf_eq h, if_pos h]; rfl
  · rw [decide_eq_false h, if_neg (by simp), if_neg h]
open Classical in
theorem BurnsOf_spec {s : List UInt8} (hs : s.length ≤ 1048576) : spec_BurnsOf s = some (burnsR s) := by
  unfold spec_BurnsOf burnsR
  rw [l21Burning_eq hs, Option.bind_some]
  by_cases h : brn s
  · rw [decide_eq_true h, if_pos rfl, l21Burns_eq h, if_pos h]; rfl
  · rw [decide_eq_false h, if_neg (by simp), if_neg h]
theorem burnsR_len (s : List UInt8) : (burnsR s).1.length ≤ 60 := by
  unfold burnsR; split
  · rename_i h
    have := rb_len (bat s) s.length
    have := h.1
    rw [rows_len]; omega
  · simp
theorem burnsR_row (s : List UInt8) : ∀ x, x ∈ (burnsR s).1 → x.length = 2 := fun x hx => by
  unfold burnsR at hx
  split at hx
  · unfold rows at hx
    obtain ⟨p, _, rfl⟩ := List.mem_map.1 hx
    rfl
  · simp at hx
theorem laws_FnExactBurnsOf_true {s : List UInt8} (hs : okS s) : laws_FnExactBurnsOf s = some true := by
  unfold laws_FnExactBurnsOf
  split
  · rfl
  · have hl : s.length ≤ 1048576 := by omega
    have h60 := burnsR_len s
    have hrow := burnsR_row s
    have heq := eqInt64SS_eq (a := (burnsR s).1) (b := (burnsR s).1) (by omega) (fun x hx => by rw [hrow x hx]; omega)
    simp only [Option.bind_some, BurnsOf_eq hl, BurnsOf_spec hl, heq, if_true, decide_true, Bool.not_true, Bool.false_eq_true, if_false]
    rw [markSS_eq (by omega) (by omega) (by omega) hrow, Option.bind_some]
    simp only
    rw [heldSS_tab (by omega) (by omega) (by omega), Option.bind_some, if_neg (by omega), if_pos rfl, Option.bind_some, if_neg (by omega), if_pos rfl]
/-- the burning ticks, counted -/
theorem count_ones {s : List UInt8} : ∀ k, k ≤ s.length → (s.take k).count 49 = ones (bat s) k
  | 0, _ => by simp [ones]
  | k + 1, h => by
    have ih := count_ones (s := s) k (by omega)
    rw [List.take_add_one, List.getElem?_eq_getElem (show k < s.length by omega), List.count_append, ih, ones, bat_get (show k < s.length by omega)]
    congr 1
    by_cases hc : s[k] = 49
    · rw [hc]; rfl
    · rw [if_neg (by simpa using hc)]
      simp [List.count_singleton, hc]
theorem fuelEnd {s : List UInt8} (hs : brn s) {each start : Int} (h1 : 0 ≤ each ∧ each ≤ 1000) (h2 : 0 ≤ start ∧ start ≤ 1000) : ∃ a b : Nat, a ≤ 60 ∧ b ≤ 60 ∧ ones (bat s) s.length = a ∧ (rb (bat s) s.length).length = b ∧ 0 ≤ each * (a : Int) ∧ each * (a : Int) ≤ 60000 ∧ 0 ≤ start * (b : Int) ∧ start * (b : Int) ≤ 60000 := by
  have h3 := ones_le (bat s) s.length
  have h4 := rb_len (bat s) s.length
  have h5 := hs.1
  refine ⟨_, _, by omega, by omega, rfl, rfl, Int.mul_nonneg h1.1 (by omega), ?_, Int.mul_nonneg h2.1 (by omega), ?_⟩
  · exact Int.le_trans (Int.mul_le_mul h1.2 (show ((ones (bat s) s.length : Nat) : Int) ≤ 60 by omega) (by omega) (by omega)) (by omega)
  · exact Int.le_trans (Int.mul_le_mul h2.2 (show (((rb (bat s) s.length).length : Nat) : Int) ≤ 60 by omega) (by omega) (by omega)) (by omega)
open Classical in
noncomputable def fuelR (s : List UInt8) (each start : Int) : Int × Int :=
  if brn s then (if (0 ≤ each ∧ each ≤ 1000) ∧ (0 ≤ start ∧ start ≤ 1000) then (each * (ones (bat s) s.length : Nat) + start * ((rb (bat s) s.length).length : Nat), 0) else (0, 2)) else (0, 1)
open Classical in
theorem FuelFor_eq {s : List UInt8} {each start : Int} (hs : s.length ≤ 1048576) : impl_FuelFor s each start = some (fuelR s each start) := by
  unfold impl_FuelFor fuelR
  rw [ValidBurning_eq hs, Option.bind_some]
  by_cases h : brn s
  · rw [decide_eq_true h, if_pos rfl, if_pos h, withinB, withinB, Option.bind_some]
    by_cases h1 : 0 ≤ each ∧ each ≤ 1000
    · rw [decide_eq_true h1, if_pos rfl, Option.bind_some]
      by_cases h2 : 0 ≤ start ∧ start ≤ 1000
      · obtain ⟨a, b, ha, hb, ea, eb, g1, g2, g3, g4⟩ := fuelEnd h h1 h2
        have hc : Lib.countByte s 49 = a := by
          unfold Lib.countByte
          have := count_ones (s := s) s.length (Nat.le_refl _)
          rw [List.take_length] at this
          omega
        rw [decide_eq_true h2]
        simp only [Bool.not_true, Bool.false_eq_true, if_false, Option.bind_some]
        rw [if_pos ⟨h1, h2⟩, ea, eb]
        show (strings_Count s [49]).bind _ = _
        unfold strings_Count
        simp only [Option.bind_some]
        rw [burnsOf_eq h, Option.bind_some, rows_len, hc, eb, w64_id (n := each * (a : Int)) (by omega) (by omega), w64_id (n := start * (b : Int)) (by omega) (by omega), w64_id (by omega) (by omega)]
      · rw [decide_eq_false h2, if_neg (fun h => h2 h.2)]; rfl
    · simp only [h1, decide_false, false_and, if_false, Bool.false_eq_true, Option.bind_some, if_true]
  · rw [decide_eq_false h, if_neg (by simp), if_neg h]
/-- the parts added up -/
theorem sumRow {s : List UInt8} (hs : brn s) {each : Int} (h1 : 0 ≤ each ∧ each ≤ 1000) {base : Int} (hb0 : 0 ≤ base) (hb1 : base ≤ 60000) {α : Type} {kb : Int → Option α} {kr : Empty → Option α} :
    onL (loop (S := (Int × Int)) (B := Int) (R := Empty) (fun ((sum1, i1) : Int × Int) => if i1 < ((rows (rb (bat s) s.length)).length : Int) then ((at? (rows (rb (bat s) s.length)) i1).bind fun v1 => (at? v1 1).bind fun v2 => some (.next (w64 (sum1 + (w64 (each * v2))), w64 (i1 + 1)))) else some (.brk sum1)) loopLim (base, 0)) kb kr
      = kb (base + each * (ones (bat s) s.length : Nat)) := by
  have h60 := hs.1
  have hsum := rb_sum (bat s) s.length
  have hones := ones_le (bat s) s.length
  have hlen := rb_len (bat s) s.length
  have hrl : (rows (rb (bat s) s.length)).length = (rb (bat s) s.length).length := rows_len _
  -- the sums of the beginnings
  generalize hR : rb (bat s) s.length = R at hsum hlen hrl
  have hin : ∀ p, p ∈ R → p.2 ≤ 60 := fun p hp => by have := rb_in (c := bat s) (k := s.length) (p := p) (by rw [hR]; exact hp); omega
  let f : Nat → Nat := fun k => ((R.reverse.take k).map (·.2)).sum
  have hf : ∀ k (h : k < R.length), f (k + 1) = f k + (R.reverse[k]'(by simpa using h)).2 := fun k h => by
    show ((R.reverse.take (k + 1)).map (·.2)).sum = _
    rw [List.take_add_one, List.getElem?_eq_getElem (by simpa using h), List.map_append, List.sum_append]; simp [f]
  have hfe : f R.length = ones (bat s) s.length := by
    show ((R.reverse.take R.length).map (·.2)).sum = _
    rw [List.take_of_length_le (by simp), List.map_reverse, List.sum_reverse, hsum]
  have hfm : ∀ k, k ≤ R.length → f k ≤ 60 * k := by
    intro k
    induction k with
    | zero => intro _; simp [f]
    | succ k ih =>
      intro h
      have := ih (by omega)
      have h2 := hin _ (List.mem_reverse.1 (List.getElem_mem (l := R.reverse) (by simpa using (show k < R.length by omega))))
      rw [hf k (by omega)]; omega
  have hm : ∀ k, k ≤ R.length → 0 ≤ each * (f k : Int) ∧ each * (f k : Int) ≤ 3600000 := fun k hk => by
    have := hfm k hk
    exact ⟨Int.mul_nonneg h1.1 (by omega), Int.le_trans (Int.mul_le_mul h1.2 (show ((f k : Nat) : Int) ≤ 3600 by omega) (by omega) (by omega)) (by omega)⟩
  have := loop_brk (body := (fun ((sum1, i1) : Int × Int) => if i1 < ((rows R).length : Int) then ((at? (rows R) i1).bind fun v1 => (at? v1 1).bind fun v2 => some (Step.next (S := (Int × Int)) (B := Int) (R := Empty) (w64 (sum1 + (w64 (each * v2))), w64 (i1 + 1)))) else some (Step.brk sum1))) (fun k => (base + each * (f k : Int), (k : Int))) (b := base + each * (f R.length : Int)) R.length (by omega) (fun k hk => by
    have hk2 : k < (rows R).length := by omega
    have hk3 : k < R.reverse.length := by simpa using hk
    have g1 := hm k (by omega)
    have g2 := hm (k + 1) (by omega)
    have e1 : (rows R)[k] = row R.reverse[k] := by simp [rows]
    have e2 : at? (row R.reverse[k]) 1 = some ((R.reverse[k].2 : Nat) : Int) := rfl
    have e3 : each * (f (k + 1) : Int) = each * (f k : Int) + each * ((R.reverse[k].2 : Nat) : Int) := by rw [hf k hk, Int.natCast_add, Int.mul_add]
    simp only
    rw [if_pos (by omega), at_of hk2, Option.bind_some, e1, e2, Option.bind_some, w64_id (n := (k : Int) + 1) (by omega) (by omega), w64_id (n := each * _) (by omega) (by omega), w64_id (by omega) (by omega), e3, Int.add_assoc]
    rfl) (by simp only; rw [if_neg (by omega)])
  have h0 : (base + each * (f 0 : Int), ((0 : Nat) : Int)) = (base, 0) := by simp [f]
  rw [h0] at this
  rw [hfe] at this
  exact congrArg (fun o => onL o kb kr) this
open Classical in
theorem FuelFor_spec {s : List UInt8} {each start : Int} (hs : s.length ≤ 1048576) : spec_FuelFor s each start = some (fuelR s each start) := by
  unfold spec_FuelFor fuelR
  rw [l21Burning_eq hs, Option.bind_some]
  by_cases h : brn s
  · rw [decide_eq_true h, if_pos rfl, if_pos h, inB, inB, Option.bind_some]
    by_cases h1 : 0 ≤ each ∧ each ≤ 1000
    · rw [decide_eq_true h1, if_pos rfl, Option.bind_some]
      by_cases h2 : 0 ≤ start ∧ start ≤ 1000
      · obtain ⟨a, b, ha, hb, ea, eb, g1, g2, g3, g4⟩ := fuelEnd h h1 h2
        rw [decide_eq_true h2]
        simp only [Bool.not_true, Bool.false_eq_true, if_false, Option.bind_some]
        rw [l21Burns_eq h, Option.bind_some, rows_len, eb, w64_id (n := start * (b : Int)) (by omega) (by omega)]
        have := sumRow h h1 (base := start * (b : Int)) g3 g4 (kb := fun x => some (x, (0 : Int))) (kr := Empty.elim)
        rw [if_pos ⟨h1, h2⟩]
        rw [rows_len, eb] at this
        refine this.trans ?_
        rw [Int.add_comm]
      · rw [decide_eq_false h2, if_neg (fun h => h2 h.2)]; rfl
    · simp only [h1, decide_false, false_and, if_false, Bool.false_eq_true, Option.bind_some, if_true]
  · rw [decide_eq_false h, if_neg (by simp), if_neg h]
theorem laws_FnExactFuelFor_true {s : List UInt8} {each start : Int} (hs : okS s) (h1 : okI .i64 each) (h2 : okI .i64 start) : laws_FnExactFuelFor s each start = some true := by
  unfold laws_FnExactFuelFor
  split
  · rfl
  · have hl : s.length ≤ 1048576 := by omega
    simp only [Option.bind_some, FuelFor_eq hl, FuelFor_spec hl, if_true, decide_true, Bool.not_true, Bool.false_eq_true, if_false]
end Go.Vs.G
