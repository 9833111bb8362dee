/- Lamps: most and best burnings are the reference's. No conditions. -/
import Derived.Test.YtklbdahpecflmaaHLampB
namespace Go.Vs.G
open Go Go.Vs

theorem spec_MostBurning_eq (x : GLamp) (t : Int) : spec_MostBurning x t = some (if lampCode x t = 0 then (burnMost x t.toNat 0, 0) else (0, lampCode x t)) := by
  unfold spec_MostBurning
  rw [l21Ticks_eq, Option.bind_some]
  split
  · rename_i h
    obtain ⟨h1, h2, h3⟩ := lampCode_zero h
    have hL := h1.2.2.2.2
    rw [l21Table_eq h1 h2 h3, Option.bind_some, tab_at h2 (by omega), Option.bind_some, burnRow_at h1 (by omega) (by omega), Option.bind_some]
  · rfl
theorem impl_MostBurning_eq (x : GLamp) (t : Int) : impl_MostBurning x t = some (if lampCode x t = 0 then (burnMost x t.toNat 0, 0) else (0, lampCode x t)) := by
  unfold impl_MostBurning
  rw [lampCode_eq, Option.bind_some]
  split
  · rename_i h
    obtain ⟨h1, h2, h3⟩ := lampCode_zero h
    rw [bestBurning_eq h1 h2 h3, Option.bind_some]
  · rfl
theorem impl_BestBurning_eq (x : GLamp) (t : Int) : impl_BestBurning x t = some (if lampCode x t = 0 then (b2s (burnPath x t.toNat 0), 0) else ([], lampCode x t)) := by
  unfold impl_BestBurning
  rw [lampCode_eq, Option.bind_some]
  split
  · rename_i h
    obtain ⟨h1, h2, h3⟩ := lampCode_zero h
    rw [bestBurning_eq h1 h2 h3, Option.bind_some]
  · rfl
theorem spec_BestBurning_eq (x : GLamp) (t : Int) : spec_BestBurning x t = some (if lampCode x t = 0 then (b2s (burnPath x t.toNat 0), 0) else ([], lampCode x t)) := by
  unfold spec_BestBurning
  rw [l21Ticks_eq, Option.bind_some]
  split
  · rename_i h
    obtain ⟨h1, h2, h3⟩ := lampCode_zero h
    obtain ⟨g1, g2, g3, g4, g5, g6⟩ := id h1
    rw [l21Table_eq h1 h2 h3, Option.bind_some]
    obtain ⟨T, rfl⟩ : ∃ T : Nat, t = T := ⟨t.toNat, by omega⟩
    simp only [Int.toNat_natCast]
    refine eq_of_wp ?_
    refine burnWalk h1 (t := T) (by omega) (c := fun h k => if h + x.Heats ≤ x.Limit then some (decide (burnMost x (k.toNat - 1) (h + x.Heats) + 1 = burnMost x k.toNat h)) else some false) (nx := fun _ _ => none) ?_ ?_ ?_
    · intro k h hk1 hk2 hh0 hh1
      simp only [Int.toNat_natCast]
      split
      · rename_i hc; simp [hc]
      · rename_i hc; simp [hc]
    · intro out h k hk hh0 hh1 hlen
      simp only
      by_cases hk0 : 0 < k
      · have : (k : Int) > 0 := by omega
        rw [if_pos this, if_pos hk0, w64_id (n := h + x.Heats) (by omega) (by omega)]
        simp only [Int.toNat_natCast]
        have hb1 := burnMost_bd x (k - 1) (h + x.Heats)
        have hcond : (if h + x.Heats ≤ x.Limit then (at? (tab (burnRow x) (T + 1)) (w64 ((k : Int) - 1))).bind fun v8 => (at? v8 (h + x.Heats)).bind fun v9 => (at? (tab (burnRow x) (T + 1)) (k : Int)).bind fun v10 => (at? v10 h).bind fun v11 => some (decide (w64 (1 + v9) = v11)) else some false)
          = (if h + x.Heats ≤ x.Limit then some (decide (burnMost x (k - 1) (h + x.Heats) + 1 = burnMost x k h)) else some false) := by
          split
          · rename_i hc
            rw [w64_id (by omega) (by omega), tab_at (by omega) (by omega), Option.bind_some, burnRow_at h1 (by omega) hc, Option.bind_some, tab_at (by omega) (by omega), Option.bind_some, burnRow_at h1 hh0 hh1, Option.bind_some, show ((k : Int) - 1).toNat = k - 1 by omega, w64_id (by omega) (by omega), Int.toNat_natCast, Int.add_comm]
          · rfl
        rw [hcond]
        congr 1
        funext b
        rw [w64_id (n := (k : Int) - 1) (by omega) (by omega)]
        cases b
        · simp only [Bool.false_eq_true, if_false]
          rw [app_ok (by simp; omega), Option.bind_some, l21Next_eq h1 (by omega) (by omega)]; rfl
        · simp only [if_true]
          rw [app_ok (by simp; omega), Option.bind_some]
      · rw [if_neg (by omega), if_neg hk0]
    · exact wp_some rfl
  · rfl

theorem laws_FnExactMostBurning_true {x : GLamp} {t : Int} (_ : x.ok) (_ : okI .i64 t) : laws_FnExactMostBurning x t = some true := by
  simp [laws_FnExactMostBurning, laws_toLamp, spec_MostBurning_eq, impl_MostBurning_eq]
theorem laws_FnExactBestBurning_true {x : GLamp} {t : Int} (_ : x.ok) (_ : okI .i64 t) : laws_FnExactBestBurning x t = some true := by
  simp [laws_FnExactBestBurning, laws_toLamp, spec_BestBurning_eq, impl_BestBurning_eq]
end Go.Vs.G
