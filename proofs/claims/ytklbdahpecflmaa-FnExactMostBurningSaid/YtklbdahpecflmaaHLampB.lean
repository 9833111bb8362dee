/- Lamps: the program's table and the last of the best burnings. No conditions. -/
import Derived.Test.YtklbdahpecflmaaHLampA
namespace Go.Vs.G
open Go Go.Vs

/-- the last of the best burnings of k ticks, from some heat on -/
def burnPath (x : GLamp) : Nat → Int → List Int
  | 0, _ => []
  | k + 1, h => if h + x.Heats ≤ x.Limit ∧ burnMost x k (h + x.Heats) + 1 = burnMost x (k + 1) h then 49 :: burnPath x k (h + x.Heats) else 48 :: burnPath x k (max (h - x.Cools) 0)

theorem burnMost_step {x : GLamp} {k : Nat} (hk : 1 ≤ k) (h : Int) : burnMost x k h = if h + x.Heats ≤ x.Limit then max (burnMost x (k - 1) (max (h - x.Cools) 0)) (burnMost x (k - 1) (h + x.Heats) + 1) else burnMost x (k - 1) (max (h - x.Cools) 0) := by
  obtain ⟨q, rfl⟩ : ∃ q, k = q + 1 := ⟨k - 1, by omega⟩
  simp only [burnMost, Nat.add_sub_cancel]

/-- the walk back through the table; `hc`: the test of a round, however it is written -/
theorem burnWalk {x : GLamp} (hx : x.good) {t : Nat} (ht : t ≤ 60) {c : Int → Int → Option Bool} {nx : Int → Bool → Option Int}
    (hc : ∀ (k : Nat) (h : Int), 1 ≤ k → k ≤ t → 0 ≤ h → h ≤ x.Limit → c h k = some (decide (h + x.Heats ≤ x.Limit ∧ burnMost x (k - 1) (h + x.Heats) + 1 = burnMost x k h))) {Q : List UInt8 × Int → Prop} {kb : List Int → Option (List UInt8 × Int)} {kr : Empty → Option (List UInt8 × Int)}
    {body : List Int × Int × Int → Option (Step (List Int × Int × Int) (List Int) Empty)}
    (hbody : ∀ (out : List Int) (h : Int) (k : Nat), k ≤ t → 0 ≤ h → h ≤ x.Limit → out.length ≤ 60 → body (out, h, (k : Int)) = if 0 < k then (c h k).bind fun b => some (.next (out ++ [if b then 49 else 48], if b then h + x.Heats else max (h - x.Cools) 0, (k : Int) - 1)) else some (.brk out))
    (hQ : wp (kb (burnPath x t 0)) Q) : wp (onL (loop body loopLim ([], 0, (t : Int))) kb kr) Q := by
  obtain ⟨g1, g2, g3, g4, g5, g6⟩ := hx
  refine wp_loop (fun s : List Int × Int × Int => ∃ k : Nat, s.2.2 = (k : Int) ∧ 0 ≤ s.2.1 ∧ s.2.1 ≤ x.Limit ∧ s.1.length + k = t ∧ s.1 ++ burnPath x k s.2.1 = burnPath x t 0) (fun s => s.2.2.toNat) ⟨t, rfl, by simp, by simp; omega, by simp, by simp⟩ (by simp; omega) ?_
  rintro ⟨out, h, kk⟩ ⟨k, rfl, h0, h1, h2, h3⟩
  simp only at h0 h1 h2 h3 ⊢
  rw [hbody out h k (by omega) h0 h1 (by omega)]
  refine wp_ite (fun hk => ?_) (fun hk => ?_)
  · rw [hc k h (by omega) (by omega) h0 h1, Option.bind_some]
    obtain ⟨q, rfl⟩ : ∃ q, k = q + 1 := ⟨k - 1, by omega⟩
    simp only [Nat.add_sub_cancel] at *
    by_cases hb : h + x.Heats ≤ x.Limit ∧ burnMost x q (h + x.Heats) + 1 = burnMost x (q + 1) h
    · simp only [hb, and_self, decide_true, if_true]
      refine wp_some ⟨⟨q, by simp, by simp only; omega, hb.1, by simp; omega, ?_⟩, by simp⟩
      rw [← h3]; simp [burnPath, hb]
    · have hd : decide (h + x.Heats ≤ x.Limit ∧ burnMost x q (h + x.Heats) + 1 = burnMost x (q + 1) h) = false := by simpa using hb
      simp only [hd, Bool.false_eq_true, if_false]
      refine wp_some ⟨⟨q, by simp, by simp only; omega, by simp only; omega, by simp; omega, ?_⟩, by simp⟩
      rw [← h3]; simp only [burnPath]; rw [if_neg hb]; simp
  · obtain rfl : k = 0 := by omega
    simp only [burnPath, List.append_nil] at h3
    refine wp_some ?_
    simp only [h3]; exact hQ

theorem bestBurning_eq {x : GLamp} (hx : x.good) {t : Int} (h0 : 0 ≤ t) (h1 : t ≤ 60) : impl_bestBurning x t = some (b2s (burnPath x t.toNat 0), burnMost x t.toNat 0) := by
  have hx' := hx
  obtain ⟨g1, g2, g3, g4, g5, g6⟩ := hx
  refine eq_of_wp ?_
  unfold impl_bestBurning
  rw [w64_id (by omega) (by omega), w64_id (n := x.Limit + 1) (by omega) (by omega), mk_ok (by omega) (by omega), mk_ok (by omega) (by omega), Option.bind_some, Option.bind_some, tab_replicate, tab_at (by omega) (by omega), Option.bind_some]
  obtain ⟨T, rfl⟩ : ∃ T : Nat, t = T := ⟨t.toNat, by omega⟩
  simp only [Int.toNat_natCast]
  rw [show ((T : Int) + 1).toNat = T + 1 by omega]
  have hL : ∀ k : Nat, tab (fun h => burnMost x k (h : Int)) (x.Limit.toNat + 1) = burnRow x k := fun k => rfl
  refine wp_loop (fun s : List (List Int) × Int => ∃ k : Nat, s.2 = (k : Int) ∧ 1 ≤ k ∧ k ≤ T + 1 ∧ s.1 = tab (fun j => if j < k then burnRow x j else []) (T + 1)) (fun s => (T + 1 - s.2).toNat) ⟨1, rfl, by omega, by omega, ?_⟩ (by simp; omega) ?_
  · rw [tab_set]
    refine tab_congr fun i hi => ?_
    simp only [Int.toNat_zero]
    by_cases h : i = 0
    · subst h; simp only [if_true, tab_replicate, Nat.lt_one_iff]
      rw [show (x.Limit + 1).toNat = x.Limit.toNat + 1 by omega]; rfl
    · rw [if_neg h, if_neg (by omega)]
  · rintro ⟨most, kk⟩ ⟨k, rfl, hk1, hk2, rfl⟩
    simp only at hk1 hk2 ⊢
    refine wp_ite (fun hle => ?_) (fun hle => ?_)
    · have hle' : k ≤ T := by omega
      refine wp_loop (fun s : List (List Int) × Int => ∃ n : Nat, s.2 = (n : Int) ∧ (n : Int) ≤ x.Limit + 1 ∧ s.1 = tab (fun j => if j < k then burnRow x j else if j = k then tab (fun h => burnMost x k (h : Int)) n else []) (T + 1)) (fun s => (x.Limit + 1 - s.2).toNat) ⟨0, rfl, by omega, ?_⟩ (by simp; omega) ?_
      · refine tab_congr fun i hi => ?_
        by_cases h : i < k
        · simp [h]
        · simp only [h, if_false, tab_zero]; split <;> rfl
      · rintro ⟨most, hh⟩ ⟨n, rfl, hn, rfl⟩
        simp only at hn ⊢
        refine wp_ite (fun hl => ?_) (fun hl => ?_)
        · rw [w64_id (n := (k : Int) - 1) (by omega) (by omega), tab_at (by omega) (by omega), Option.bind_some, next_eq hx' (by omega) (by omega), next_eq hx' (by omega) (by omega)]
          have hkk : ((k : Int) - 1).toNat = k - 1 := by omega
          simp only [Option.bind_some, Bool.false_eq_true, if_false, if_true, hkk, show k - 1 < k by omega]
          rw [burnRow_at hx' (by omega) (by omega), Option.bind_some]
          have hb1 := burnMost_bd x (k - 1) ((n : Int) + x.Heats)
          have hbest : (if (n : Int) + x.Heats ≤ x.Limit then (at? (burnRow x (k - 1)) ((n : Int) + x.Heats)).bind fun v => some (imax (burnMost x (k - 1) (max ((n : Int) - x.Cools) 0)) (w64 (v + 1)))
            else some (burnMost x (k - 1) (max ((n : Int) - x.Cools) 0)) : Option Int) = some (burnMost x k (n : Int)) := by
            rw [burnMost_step hk1]
            split
            · rename_i hc
              rw [burnRow_at hx' (by omega) hc, Option.bind_some, w64_id (by omega) (by omega), imax_def]
            · rfl
          rw [hbest, Option.bind_some, tab_at (by omega) (by omega), Option.bind_some]
          simp only [Int.toNat_natCast, Nat.lt_irrefl, if_false, if_true]
          rw [app_ok (by simp; omega), Option.bind_some, Option.bind_some]
          refine wp_some ⟨⟨n + 1, ?_, by omega, ?_⟩, ?_⟩
          · simp only; rw [w64_id (by omega) (by omega)]; rfl
          · simp only; rw [tab_set]
            refine tab_congr fun i hi => ?_
            by_cases h : i = k
            · subst h; simp [tab_succ]
            · simp [h]
          · simp only; rw [w64_id (by omega) (by omega)]; omega
        · refine wp_some ?_
          refine wp_some ⟨⟨k + 1, ?_, by omega, by omega, ?_⟩, ?_⟩
          · simp only; rw [w64_id (by omega) (by omega)]; rfl
          · refine tab_congr fun i hi => ?_
            by_cases h : i < k
            · simp [h, show i < k + 1 by omega]
            · by_cases h2 : i = k
              · subst h2; simp only [Nat.lt_irrefl, if_false, if_true, Nat.lt_succ_self, show n = x.Limit.toNat + 1 by omega]; rfl
              · simp [h, h2, show ¬ i < k + 1 by omega]
          · simp only; rw [w64_id (by omega) (by omega)]; omega
    · refine wp_some ?_
      have hk : k = T + 1 := by omega
      have htab : tab (fun j => if j < k then burnRow x j else []) (T + 1) = tab (burnRow x) (T + 1) := tab_congr fun i hi => by simp [show i < k by omega]
      simp only [htab]
      refine burnWalk hx' (t := T) (by omega) (c := fun h k => if h + x.Heats ≤ x.Limit then some (decide (burnMost x (k.toNat - 1) (h + x.Heats) + 1 = burnMost x k.toNat h)) else some false) (nx := fun _ _ => none) ?_ ?_ ?_
      · intro k h hk1 hk2 hh0 hh1
        simp only [Int.toNat_natCast]
        split
        · rename_i hc; simp [hc]
        · rename_i hc; simp [hc]
      · intro out h k hk hh0 hh1 hlen
        simp only
        by_cases hk0 : 0 < k
        · have : (k : Int) > 0 := by omega
          rw [if_pos this, if_pos hk0, next_eq hx' (by omega) (by omega)]
          simp only [Option.bind_some, if_true, Int.toNat_natCast]
          have hb1 := burnMost_bd x (k - 1) (h + x.Heats)
          have hcond : (if h + x.Heats ≤ x.Limit then (at? (tab (burnRow x) (T + 1)) (w64 ((k : Int) - 1))).bind fun v8 => (at? v8 (h + x.Heats)).bind fun v9 => (at? (tab (burnRow x) (T + 1)) (k : Int)).bind fun v10 => (at? v10 h).bind fun v11 => some (decide (w64 (v9 + 1) = v11)) else some false)
            = (if h + x.Heats ≤ x.Limit then some (decide (burnMost x (k - 1) (h + x.Heats) + 1 = burnMost x k h)) else some false) := by
            split
            · rename_i hc
              rw [w64_id (by omega) (by omega), tab_at (by omega) (by omega), Option.bind_some, burnRow_at hx' (by omega) hc, Option.bind_some, tab_at (by omega) (by omega), Option.bind_some, burnRow_at hx' hh0 hh1, Option.bind_some, show ((k : Int) - 1).toNat = k - 1 by omega, w64_id (by omega) (by omega), Int.toNat_natCast]
            · rfl
          rw [hcond]
          congr 1
          funext b
          rw [w64_id (n := (k : Int) - 1) (by omega) (by omega)]
          cases b
          · simp only [Bool.false_eq_true, if_false]
            rw [app_ok (by simp; omega), Option.bind_some, next_eq hx' (by omega) (by omega)]; rfl
          · simp only [if_true]
            rw [app_ok (by simp; omega), Option.bind_some]
        · rw [if_neg (by omega), if_neg hk0]
      · rw [tab_at (by omega) (by omega), Option.bind_some, burnRow_at hx' (by omega) (by omega), Option.bind_some]
        exact wp_some (by simp)
end Go.Vs.G
