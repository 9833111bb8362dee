/- FnDissolves: the law. No conditions. -/
import Derived.Test.YtolinhiimdajhaaHDissolve
namespace Go.Vs.G
open Go Go.Vs
/-- the tests of a level -/
theorem lev_tests {x : GShown} (hx : vsh x) (hon : x.On ≤ 300) {t : Int} (h0 : 0 ≤ t) (h1 : t ≤ 400) :
 ((if (0 : Int) = 0 then
 (if lev x t < 0 then
 (some true)
 else
 if lev x t > 100 then
 (some true)
 else
 if (decide (x.On ≤ t ∧ t < x.Off)) = true then
 (if x.Fade = 0 then
 (if lev x t = 100 then
 (if (w64 (lev x t * x.Fade)) > (w64 (100 * (imin (w64 (t - x.On)) (w64 (x.Off - t))))) then
 (if x.Fade > 0 then
 (some true)
 else
 if lev x t < 100 then
 (some (decide ((w64 ((w64 (lev x t + 1)) * x.Fade)) ≤ (w64 (100 * (imin (w64 (t - x.On)) (w64 (x.Off - t))))))))
 else
 some false)
 else
 if lev x t < 100 then
 (some (decide ((w64 ((w64 (lev x t + 1)) * x.Fade)) ≤ (w64 (100 * (imin (w64 (t - x.On)) (w64 (x.Off - t))))))))
 else
 some false)
 else
 some true)
 else
 if (w64 (lev x t * x.Fade)) > (w64 (100 * (imin (w64 (t - x.On)) (w64 (x.Off - t))))) then
 (if x.Fade > 0 then
 (some true)
 else
 if lev x t < 100 then
 (some (decide ((w64 ((w64 (lev x t + 1)) * x.Fade)) ≤ (w64 (100 * (imin (w64 (t - x.On)) (w64 (x.Off - t))))))))
 else
 some false)
 else
 if lev x t < 100 then
 (some (decide ((w64 ((w64 (lev x t + 1)) * x.Fade)) ≤ (w64 (100 * (imin (w64 (t - x.On)) (w64 (x.Off - t))))))))
 else
 some false)
 else
 if lev x t = 0 then
 (some false)
 else
 some true)
 else
 some true) : Option Bool) = some false := by
  have hb := lev_bd hx t
  have hx' := hx
  obtain ⟨c1, c2, c3⟩ := hx'
  rw [if_pos rfl, if_neg (by omega), if_neg (by omega)]
  by_cases hi : x.On ≤ t ∧ t < x.Off
  · rw [decide_eq_true hi, if_pos rfl]
    rw [w64_id (n := t - x.On) (by omega) (by omega), w64_id (n := x.Off - t) (by omega) (by omega), imin_def, w64_id (n := 100 * min (t - x.On) (x.Off - t)) (by omega) (by omega), w64_id (n := lev x t + 1) (by omega) (by omega)]
    have hm0 : 0 ≤ lev x t * x.Fade := Int.mul_nonneg hb.1 c3.1
    have hm1 : lev x t * x.Fade ≤ 100 * 6 := Int.mul_le_mul hb.2 c3.2 (by omega) (by omega)
    have hm2 : (lev x t + 1) * x.Fade = lev x t * x.Fade + x.Fade := by rw [Int.add_mul, Int.one_mul]
    rw [w64_id (n := lev x t * x.Fade) (by omega) (by omega), w64_id (n := (lev x t + 1) * x.Fade) (by omega) (by omega)]
    by_cases hf : x.Fade = 0
    · have hl : lev x t = 100 := by unfold lev; rw [if_pos hi, if_pos hf]
      rw [if_pos hf, if_pos hl, if_neg (by rw [hf, Int.mul_zero]; omega), if_neg (by omega)]
    · have hlaw := lev_law hx hi hf
      rw [if_neg hf, if_neg (by omega)]
      by_cases h9 : lev x t < 100
      · have := hlaw.2 h9
        rw [if_pos h9, decide_eq_false (by omega)]
      · rw [if_neg h9]
  · rw [decide_eq_false hi, if_neg (by simp), if_pos (by unfold lev; rw [if_neg hi])]
theorem laws_FnDissolves_true {code more : List Int} (hc : okL (okI .u8) code) (hm : okL (okI .u8) more) : laws_FnDissolves code more = some true := by
  unfold laws_FnDissolves
  obtain ⟨r, hr, hr2⟩ := a2Long_eq code more
  rw [hr, Option.bind_some]
  cases r with
  | true => rfl
  | false =>
  obtain ⟨hc2, hm2⟩ := hr2 rfl
  simp only [Bool.false_eq_true, if_false]
  obtain ⟨l, hl, h6, hd'⟩ := A2Shown_ok hc (by omega)
  have hd : vshs l := ⟨by omega, fun i hi => (hd' i hi).1⟩
  rw [hl, Option.bind_some]
  obtain ⟨f, hf, f0, f1⟩ := a2At_ok hm hm2 (i := 0) (n := 30) (by omega) (by omega)
  obtain ⟨g, hg, g0, g1⟩ := a2At_ok hm hm2 (i := 1) (n := 40) (by omega) (by omega)
  rw [hf, Option.bind_some, hg, Option.bind_some, w64_id (n := f + g) (by omega) (by omega)]
  obtain ⟨n, rfl⟩ : ∃ n : Nat, g = (n : Int) := ⟨g.toNat, by omega⟩
  rw [DarkTicks_eq hd f0 (by omega) (by omega), Option.bind_some, FirstDark_eq hd f0 (by omega) (by omega), Option.bind_some]
  refine eq_of_wp ?_
  refine wp_cnt (fun k => (((ones (drk l f) k : Nat) : Int), encG f (ff (drk l f) k), f + (k : Int))) n (by simp [ones, encG, ff]) (by omega) (fun k hk => ?_) (b := (((ones (drk l f) n : Nat) : Int), encG f (ff (drk l f) n))) ?_ ?_
  · have ho := ones_le (drk l f) k
    simp only
    rw [if_pos (by omega), LightAt_eq hd (by omega) (by omega), Option.bind_some]
    refine eq_of_wp ?_
    refine wp_cnt (fun i => (lsm l (f + (k : Int)) i, (i : Int))) l.length rfl (by omega) (fun i hi => ?_) (b := lsm l (f + (k : Int)) l.length) ?_ ?_
    · have hb := lsm_bd hd (f + (k : Int)) i (by omega)
      have hb2 := lev_bd (hd.2 i hi) (f + (k : Int))
      have hon := (hd' i hi).2
      have hin : (if f + (k : Int) ≥ (sq l i).On then (some (decide (f + (k : Int) < (sq l i).Off))) else some false : Option Bool) = some (decide ((sq l i).On ≤ f + (k : Int) ∧ f + (k : Int) < (sq l i).Off)) := by
        by_cases h1 : (sq l i).On ≤ f + (k : Int)
        · rw [if_pos h1]; exact congrArg some (decide_eq_decide.2 (by omega))
        · rw [if_neg h1, decide_eq_false (fun h => h1 h.1)]
      simp only
      rw [if_pos (by omega), at_sq hi, Option.bind_some, LevelAt_eq (hd.2 i hi) (by omega) (by omega), Option.bind_some, Option.bind_some, hin, Option.bind_some]
      have ht := lev_tests (hd.2 i hi) (by omega) (t := f + (k : Int)) (by omega) (by omega)
      refine (congrArg (fun o => Option.bind o _ = _) ht).mpr ?_
      rw [Option.bind_some]
      simp only [Bool.false_eq_true, if_false]
      rw [w64_id (n := (i : Int) + 1) (by omega) (by omega), w64_id (by omega) (by omega), lsm]
      rfl
    · simp only; rw [if_neg (by omega)]
    · simp only [if_true, decide_true, Bool.not_true, Option.bind_some, Bool.false_eq_true, if_false]
      rw [w64_id (n := f + (k : Int) + 1) (by omega) (by omega), w64_id (n := ((ones (drk l f) k : Nat) : Int) + 1) (by omega) (by omega)]
      have hdk : drk l f k = decide (lsm l (f + (k : Int)) l.length = 0) := rfl
      have e1 : f + ((k + 1 : Nat) : Int) = f + (k : Int) + 1 := by omega
      by_cases h0 : lsm l (f + (k : Int)) l.length = 0
      · have e2 : ((ones (drk l f) (k + 1) : Nat) : Int) = ((ones (drk l f) k : Nat) : Int) + 1 := by rw [ones, if_pos (by rw [hdk]; exact decide_eq_true h0)]; rfl
        rw [if_pos h0, e1, e2, ff]
        cases hff : ff (drk l f) k with
        | some i => rw [if_neg (show ¬ encG f (some i) < 0 by simp only [encG]; omega)]; exact wp_some rfl
        | none => rw [if_pos (show encG f none < 0 by simp only [encG]; omega)]; simp only; rw [if_pos (by rw [hdk]; exact decide_eq_true h0)]; exact wp_some rfl
      · have e2 : ((ones (drk l f) (k + 1) : Nat) : Int) = ((ones (drk l f) k : Nat) : Int) := by rw [ones, if_neg (by rw [hdk]; simpa using h0)]; rfl
        rw [if_neg h0, e1, e2, ff]
        cases hff : ff (drk l f) k with
        | some i => exact wp_some rfl
        | none => simp only; rw [if_neg (by rw [hdk]; simpa using h0)]; exact wp_some rfl
  · simp only; rw [if_neg (by omega)]
  · simp only [if_true]
    have hfin : ((if encG f (ff (drk l f) n) < 0 then
 (if (dkR f (ff (drk l f) n)).2 = 3 then
 (if encG f (ff (drk l f) n) ≥ 0 then
 (if (dkR f (ff (drk l f) n)).2 = 0 then
 (some (!(decide ((dkR f (ff (drk l f) n)).1 = encG f (ff (drk l f) n)))))
 else
 some true)
 else
 some false)
 else
 some true)
 else
 if encG f (ff (drk l f) n) ≥ 0 then
 (if (dkR f (ff (drk l f) n)).2 = 0 then
 (some (!(decide ((dkR f (ff (drk l f) n)).1 = encG f (ff (drk l f) n)))))
 else
 some true)
 else
 some false) : Option Bool) = some false := by
      cases ff (drk l f) n with
      | none => simp [encG, dkR]
      | some t => simp only [encG, dkR]; rw [if_neg (by omega), if_pos (by omega)]; simp
    refine (congrArg (fun o => wp (Option.bind o _) _) hfin).mpr ?_
    rw [Option.bind_some]
    simp only [Bool.false_eq_true, if_false]
    refine wp_ite (fun _ => wp_some rfl) (fun hne => ?_)
    have hpos : 0 < l.length := by omega
    obtain ⟨b, hb, b0, b1⟩ := a2At_ok hm hm2 (i := 2) (n := 20) (by omega) (by omega)
    rw [hb, Option.bind_some]
    have hv0 := (hd' 0 hpos)
    obtain ⟨⟨c1, c2, c3⟩, c4, c5⟩ := hv0
    have h00 : at? l 0 = some (sq l 0) := at_sq hpos
    have hl0 : l = tab (fun i => sq l i) l.length := by unfold sq; exact eq_tab l default
    have hat : ∀ z : GShown, at? (l.set ((0 : Int).toNat) z) 0 = some z := fun z => by
      rw [show (0 : Int) = ((0 : Nat) : Int) from rfl, at_of (by simpa using hpos)]; simp
    have hmv : impl_MoveShown l 0 b = some ((l.set 0 (GShown.mk ((sq l 0).On + b) ((sq l 0).Off + b) (sq l 0).Fade)), 0) := by
      unfold impl_MoveShown cloneL
      rw [ValidShown_true hd, Option.bind_some, if_pos rfl, w64_id (by omega) (by omega), within_true (n := 0) (a := 0) (b := (l.length : Int) - 1) ⟨by omega, by omega⟩, Option.bind_some, if_pos rfl, within_true (n := b) (a := 0) (b := 10000) ⟨b0, by omega⟩]
      simp only [Option.bind_some, Bool.not_true, Bool.false_eq_true, if_false]
      rw [if_pos (by omega), Option.bind_some, h00, Option.bind_some, Option.bind_some, hat, Option.bind_some, Option.bind_some, w64_id (n := (sq l 0).On + b) (by omega) (by omega)]
      simp only
      rw [w64_id (n := (sq l 0).Off + b) (by omega) (by omega), List.set_set]
      have hvn : vshs (l.set ((0 : Int).toNat) (GShown.mk ((sq l 0).On + b) ((sq l 0).Off + b) (sq l 0).Fade)) := by
        refine ⟨by simpa using hd.1, fun i hi => ?_⟩
        have hi2 : i < l.length := by simpa using hi
        unfold sq
        rw [List.getD_eq_getElem?_getD, List.getElem?_set]
        by_cases h1 : (0 : Int).toNat = i
        · rw [if_pos h1, if_pos (by simp; omega)]
          unfold vsh
          simp only [Option.getD_some]
          unfold sq at c1 c2 c3 c4 c5
          omega
        · rw [if_neg h1, ← List.getD_eq_getElem?_getD]; exact hd.2 i hi2
      rw [ValidShown_true hvn, Option.bind_some, if_pos rfl]
      rfl
    rw [hmv, Option.bind_some]
    simp only [List.length_set, if_true, decide_true, Bool.not_true, Option.bind_some, Bool.false_eq_true, if_false]
    rw [h00, Option.bind_some, LevelAt_eq (hd.2 0 hpos) (by omega) (by omega), Option.bind_some, show ∀ z, at? (l.set 0 z) 0 = some z from hat, Option.bind_some, w64_id (n := f + b) (by omega) (by omega)]
    have hvm : vsh (GShown.mk ((sq l 0).On + b) ((sq l 0).Off + b) (sq l 0).Fade) := by unfold vsh; simp only; omega
    rw [LevelAt_eq hvm (by omega) (by omega), Option.bind_some]
    simp only [if_true]
    have hsame : lev (GShown.mk ((sq l 0).On + b) ((sq l 0).Off + b) (sq l 0).Fade) (f + b) = lev (sq l 0) f := by
      unfold lev
      simp only
      rw [show f + b - ((sq l 0).On + b) = f - (sq l 0).On by omega, show (sq l 0).Off + b - (f + b) = (sq l 0).Off - f by omega]
      by_cases h1 : (sq l 0).On ≤ f ∧ f < (sq l 0).Off
      · rw [if_pos h1, if_pos (by omega)]
      · rw [if_neg h1, if_neg (by omega)]
    rw [hsame]
    exact wp_some (decide_eq_true rfl)
end Go.Vs.G
