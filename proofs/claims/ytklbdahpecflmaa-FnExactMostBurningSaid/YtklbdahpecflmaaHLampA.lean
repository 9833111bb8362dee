/- Lamps: the fewest facts on the burning tables. No conditions. -/
import Derived.Test.YtklbdahpecflmaaV5
import Derived.Test.YtklbdahpecflmaaDXMostBurning
namespace Go.Vs.G
open Go Go.Vs

def GLamp.good (x : GLamp) : Prop := 1 ≤ x.Heats ∧ x.Heats ≤ 20 ∧ 1 ≤ x.Cools ∧ x.Cools ≤ 20 ∧ 1 ≤ x.Limit ∧ x.Limit ≤ 100

/-- in how many of k ticks a lamp of some heat can burn -/
def burnMost (x : GLamp) : Nat → Int → Int
  | 0, _ => 0
  | k + 1, h => if h + x.Heats ≤ x.Limit then max (burnMost x k (max (h - x.Cools) 0)) (burnMost x k (h + x.Heats) + 1) else burnMost x k (max (h - x.Cools) 0)

theorem burnMost_bd (x : GLamp) : ∀ k h, 0 ≤ burnMost x k h ∧ burnMost x k h ≤ k
  | 0, h => by simp [burnMost]
  | k + 1, h => by
    have h1 := burnMost_bd x k (max (h - x.Cools) 0)
    have h2 := burnMost_bd x k (h + x.Heats)
    simp only [burnMost]
    split <;> omega

def burnRow (x : GLamp) (k : Nat) : List Int := tab (fun h => burnMost x k (h : Int)) (x.Limit.toNat + 1)

theorem l00Max_eq (a b : Int) : spec_l00Max a b = some (max a b) := by
  unfold spec_l00Max; split <;> (congr 1; omega)
theorem l00In_eq (n a b : Int) : spec_l00In n a b = some (decide (a ≤ n ∧ n ≤ b)) := by
  unfold spec_l00In; split <;> simp <;> omega
theorem within_eq (n a b : Int) : impl_within n a b = some (decide (a ≤ n ∧ n ≤ b)) := by
  unfold impl_within; split <;> simp <;> omega
theorem l21Ok_eq (x : GLamp) : ∃ b, spec_l21Ok x = some b ∧ (b = true ↔ x.good) := by
  unfold spec_l21Ok
  simp only [l00In_eq, Option.bind_some, decide_eq_true_eq, GLamp.good]
  split
  · split
    · exact ⟨_, rfl, by simp; omega⟩
    · exact ⟨_, rfl, by simp; omega⟩
  · exact ⟨_, rfl, by simp; omega⟩
theorem ValidLamp_eq (x : GLamp) : ∃ b, impl_ValidLamp x = some b ∧ (b = true ↔ x.good) := by
  unfold impl_ValidLamp
  simp only [within_eq, Option.bind_some, decide_eq_true_eq, GLamp.good]
  split
  · split
    · exact ⟨_, rfl, by simp; omega⟩
    · exact ⟨_, rfl, by simp; omega⟩
  · exact ⟨_, rfl, by simp; omega⟩
open Classical in
/-- the code of a lamp and a number of ticks -/
noncomputable def lampCode (x : GLamp) (t : Int) : Int := if x.good then (if 0 ≤ t ∧ t ≤ 60 then 0 else 2) else 1
theorem l21Ticks_eq (x : GLamp) (t : Int) : spec_l21Ticks x t = some (lampCode x t) := by
  obtain ⟨b, h1, h2⟩ := l21Ok_eq x
  unfold spec_l21Ticks lampCode
  simp only [h1, l00In_eq, Option.bind_some, decide_eq_true_eq]
  by_cases hg : x.good
  · simp only [h2.2 hg, hg, if_true]; split <;> rfl
  · have : b = false := by cases b <;> simp_all
    simp [this, hg]
theorem lampCode_eq (x : GLamp) (t : Int) : impl_lampCode x t = some (lampCode x t) := by
  obtain ⟨b, h1, h2⟩ := ValidLamp_eq x
  unfold impl_lampCode lampCode
  simp only [h1, within_eq, Option.bind_some, decide_eq_true_eq]
  by_cases hg : x.good
  · simp only [h2.2 hg, hg, if_true]; split <;> rfl
  · have : b = false := by cases b <;> simp_all
    simp [this, hg]
theorem lampCode_zero {x : GLamp} {t : Int} (h : lampCode x t = 0) : x.good ∧ 0 ≤ t ∧ t ≤ 60 := by
  unfold lampCode at h
  split at h
  · split at h
    · exact ⟨‹_›, ‹_›⟩
    · omega
  · omega

theorem l21Next_eq {x : GLamp} (hx : x.good) {h : Int} (h0 : 0 ≤ h) (h1 : h ≤ 100000) (b : Bool) : spec_l21Next x h b = some (if b then h + x.Heats else max (h - x.Cools) 0) := by
  obtain ⟨g1, g2, g3, g4, g5, g6⟩ := hx
  unfold spec_l21Next
  cases b
  · simp only [Bool.false_eq_true, if_false, l00Max_eq, Option.bind_some]; rw [w64_id (by omega) (by omega), Int.max_comm]
  · simp only [if_true]; rw [w64_id (by omega) (by omega)]
theorem next_eq {x : GLamp} (hx : x.good) {h : Int} (h0 : 0 ≤ h) (h1 : h ≤ 100000) (b : Bool) : impl_Lamp_next x h b = some (if b then h + x.Heats else max (h - x.Cools) 0) := by
  obtain ⟨g1, g2, g3, g4, g5, g6⟩ := hx
  unfold impl_Lamp_next
  cases b
  · simp only [Bool.false_eq_true, if_false, imax_def]; rw [w64_id (by omega) (by omega)]
  · simp only [if_true]; rw [w64_id (by omega) (by omega)]

theorem burnRow_at {x : GLamp} (hx : x.good) {k : Nat} {h : Int} (h0 : 0 ≤ h) (h1 : h ≤ x.Limit) : at? (burnRow x k) h = some (burnMost x k h) := by
  unfold burnRow
  rw [tab_at h0 (by have := hx.2.2.2.2; omega)]
  congr 2; omega

/-- the reference's table -/
theorem l21Table_eq {x : GLamp} (hx : x.good) {t : Int} (h0 : 0 ≤ t) (h1 : t ≤ 60) : spec_l21Table x t = some (tab (burnRow x) (t.toNat + 1)) := by
  have hx' := hx
  obtain ⟨g1, g2, g3, g4, g5, g6⟩ := hx
  refine eq_of_wp ?_
  unfold spec_l21Table
  rw [w64_id (by omega) (by omega), mk_ok (by omega) (by omega), Option.bind_some]
  refine wp_loop (fun s : List (List Int) × Int => ∃ k : Nat, s.2 = (k : Int) ∧ 1 ≤ k ∧ (k : Int) ≤ t + 1 ∧ s.1 = tab (burnRow x) k) (fun s => (t + 1 - s.2).toNat) ?_ (by simp; omega) ?_
  · refine ⟨1, rfl, by omega, by omega, ?_⟩
    rw [tab_succ, tab_zero]
    simp only [List.nil_append, burnRow, tab_replicate, burnMost]
    rw [show (x.Limit + 1).toNat = x.Limit.toNat + 1 by omega]
  · rintro ⟨out, kk⟩ ⟨k, rfl, hk1, hk2, rfl⟩
    simp only at hk2 ⊢
    refine wp_ite (fun hle => ?_) (fun hle => ?_)
    · refine wp_loop (fun s : List Int × Int => ∃ n : Nat, s.2 = (n : Int) ∧ (n : Int) ≤ x.Limit + 1 ∧ s.1 = tab (fun h => burnMost x k (h : Int)) n) (fun s => (x.Limit + 1 - s.2).toNat) ⟨0, rfl, by omega, rfl⟩ (by simp; omega) ?_
      rintro ⟨row, hh⟩ ⟨n, rfl, hn, rfl⟩
      simp only at hn ⊢
      refine wp_ite (fun hl => ?_) (fun hl => ?_)
      · rw [w64_id (n := (k : Int) - 1) (by omega) (by omega), tab_at (by omega) (by omega), Option.bind_some, l21Next_eq hx' (by omega) (by omega)]
        simp only [Option.bind_some, Bool.false_eq_true, if_false]
        have hkk : ((k : Int) - 1).toNat = k - 1 := by omega
        rw [hkk, burnRow_at hx' (by omega) (by omega), Option.bind_some]
        have hn1 : w64 ((n : Int) + x.Heats) = n + x.Heats := w64_id (by omega) (by omega)
        have hb1 := burnMost_bd x (k - 1) ((n : Int) + x.Heats)
        have hstep : burnMost x k (n : Int) = if (n : Int) + x.Heats ≤ x.Limit then max (burnMost x (k - 1) (max ((n : Int) - x.Cools) 0)) (burnMost x (k - 1) ((n : Int) + x.Heats) + 1) else burnMost x (k - 1) (max ((n : Int) - x.Cools) 0) := by
          obtain ⟨q, rfl⟩ : ∃ q, k = q + 1 := ⟨k - 1, by omega⟩
          simp only [burnMost, Nat.add_sub_cancel]
        have hbest : (if (n : Int) + x.Heats ≤ x.Limit then (at? (burnRow x (k - 1)) ((n : Int) + x.Heats)).bind fun v => (spec_l00Max (burnMost x (k - 1) (max ((n : Int) - x.Cools) 0)) (w64 (1 + v))).bind fun r => some r
            else some (burnMost x (k - 1) (max ((n : Int) - x.Cools) 0)) : Option Int) = some (burnMost x k (n : Int)) := by
          rw [hstep]
          split
          · rename_i hc
            rw [burnRow_at hx' (by omega) hc, Option.bind_some, w64_id (by omega) (by omega), l00Max_eq]
            simp [Int.add_comm]
          · rfl
        rw [hn1]
        rw [hbest, Option.bind_some, app_ok (by simp; omega), Option.bind_some]
        refine wp_some ⟨⟨n + 1, ?_, by omega, ?_⟩, ?_⟩
        · rw [w64_id (by omega) (by omega)]; rfl
        · rw [tab_succ]
        · rw [w64_id (by omega) (by omega)]; omega
      · refine wp_some ?_
        have hrow : tab (fun h => burnMost x k (h : Int)) n = burnRow x k := by
          unfold burnRow; rw [show n = x.Limit.toNat + 1 by omega]
        simp only
        rw [hrow, app_ok (by simp; omega), Option.bind_some]
        refine wp_some ⟨⟨k + 1, ?_, by omega, by omega, ?_⟩, ?_⟩
        · rw [w64_id (by omega) (by omega)]; rfl
        · rw [tab_succ]
        · rw [w64_id (by omega) (by omega)]; omega
    · exact wp_some (wp_some (by rw [show k = t.toNat + 1 by omega]))
end Go.Vs.G
