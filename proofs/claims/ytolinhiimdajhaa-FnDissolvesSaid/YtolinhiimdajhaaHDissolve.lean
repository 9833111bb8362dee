/- FnDissolves. No conditions. -/
import Derived.Test.YtolinhiimdajhaaHBurnsC
namespace Go.Vs.G
open Go Go.Vs
def vsh (x : GShown) : Prop := (0 ≤ x.On ∧ x.On ≤ 200) ∧ (x.On + 1 ≤ x.Off ∧ x.Off ≤ 400) ∧ (0 ≤ x.Fade ∧ x.Fade ≤ 6)
def lev (x : GShown) (t : Int) : Int := if x.On ≤ t ∧ t < x.Off then (if x.Fade = 0 then 100 else min (min 100 (100 * (t - x.On) / x.Fade)) (100 * (x.Off - t) / x.Fade)) else 0
theorem tdiv_nn {a b : Int} (h : 0 ≤ a) : a.tdiv b = a / b := Int.tdiv_eq_ediv_of_nonneg h
theorem isOn_eq (x : GShown) (t : Int) : impl_Shown_isOn x t = some (decide (x.On ≤ t ∧ t < x.Off)) := by
  unfold impl_Shown_isOn
  by_cases h : x.On ≤ t
  · rw [if_pos h]; exact congrArg some (decide_eq_decide.2 ⟨fun h2 => ⟨h, h2⟩, fun h2 => h2.2⟩)
  · rw [if_neg h, decide_eq_false (fun h2 => h h2.1)]
theorem level_eq {x : GShown} (hx : vsh x) {t : Int} : impl_Shown_level x t = some (lev x t) := by
  obtain ⟨h1, h2, h3⟩ := hx
  unfold impl_Shown_level lev
  rw [isOn_eq, Option.bind_some]
  by_cases h : x.On ≤ t ∧ t < x.Off
  · rw [decide_eq_true h, if_pos rfl, if_pos h]
    by_cases hf : x.Fade = 0
    · rw [if_pos hf, if_pos hf]
    · have d1 : 0 ≤ 100 * (t - x.On) / x.Fade := Int.ediv_nonneg (by omega) (by omega)
      have d2 : 100 * (t - x.On) / x.Fade ≤ 100 * (t - x.On) := Int.ediv_le_self _ (by omega)
      have d3 : 0 ≤ 100 * (x.Off - t) / x.Fade := Int.ediv_nonneg (by omega) (by omega)
      have d4 : 100 * (x.Off - t) / x.Fade ≤ 100 * (x.Off - t) := Int.ediv_le_self _ (by omega)
      rw [if_neg hf, if_neg hf, w64_id (n := t - x.On) (by omega) (by omega), w64_id (n := x.Off - t) (by omega) (by omega), w64_id (n := 100 * (t - x.On)) (by omega) (by omega), w64_id (n := 100 * (x.Off - t)) (by omega) (by omega), div_ok hf, div_ok hf, Option.bind_some, Option.bind_some, tdiv_nn (by omega), tdiv_nn (by omega), imin_def, imin_def]
      rw [show IntKind.wrap .i64 (100 * (t - x.On) / x.Fade) = _ from w64_id (by omega) (by omega), show IntKind.wrap .i64 (100 * (x.Off - t) / x.Fade) = _ from w64_id (by omega) (by omega)]
  · rw [decide_eq_false h, if_neg (by simp), if_neg h]
theorem lev_law {x : GShown} (hx : vsh x) {t : Int} (h : x.On ≤ t ∧ t < x.Off) (hf : x.Fade ≠ 0) : lev x t * x.Fade ≤ 100 * min (t - x.On) (x.Off - t) ∧ (lev x t < 100 → 100 * min (t - x.On) (x.Off - t) < (lev x t + 1) * x.Fade) := by
  obtain ⟨h1, h2, h3⟩ := hx
  unfold lev
  rw [if_pos h, if_neg hf]
  have a1 : 100 * (t - x.On) / x.Fade * x.Fade ≤ 100 * (t - x.On) := Int.ediv_mul_le _ hf
  have a2 : 100 * (t - x.On) < (100 * (t - x.On) / x.Fade + 1) * x.Fade := Int.lt_ediv_add_one_mul_self _ (by omega)
  have b1 : 100 * (x.Off - t) / x.Fade * x.Fade ≤ 100 * (x.Off - t) := Int.ediv_mul_le _ hf
  have b2 : 100 * (x.Off - t) < (100 * (x.Off - t) / x.Fade + 1) * x.Fade := Int.lt_ediv_add_one_mul_self _ (by omega)
  have mono : ∀ u v : Int, u ≤ v → u * x.Fade ≤ v * x.Fade := fun u v huv => Int.mul_le_mul_of_nonneg_right huv (by omega)
  generalize 100 * (t - x.On) / x.Fade = p at a1 a2
  generalize 100 * (x.Off - t) / x.Fade = q at b1 b2
  have c1 := mono (min (min 100 p) q) p (by omega)
  have c2 := mono (min (min 100 p) q) q (by omega)
  refine ⟨by omega, fun hl => ?_⟩
  by_cases hpq : p ≤ q
  · rw [show min (min 100 p) q = p by omega]; omega
  · rw [show min (min 100 p) q = q by omega]; omega
theorem lev_bd {x : GShown} (hx : vsh x) (t : Int) : 0 ≤ lev x t ∧ lev x t ≤ 100 := by
  obtain ⟨h1, h2, h3⟩ := hx
  unfold lev
  split
  · split
    · omega
    · have d1 : 0 ≤ 100 * (t - x.On) / x.Fade := Int.ediv_nonneg (by omega) (by omega)
      have d3 : 0 ≤ 100 * (x.Off - t) / x.Fade := Int.ediv_nonneg (by omega) (by omega)
      omega
  · omega
def sq (l : List GShown) (i : Nat) : GShown := l.getD i default
theorem at_sq {l : List GShown} {i : Nat} (h : i < l.length) : at? l (i : Int) = some (sq l i) := by
  unfold sq; rw [at_of h, List.getD_eq_getElem?_getD, List.getElem?_eq_getElem h]; rfl
def vshs (l : List GShown) : Prop := l.length ≤ 12 ∧ ∀ i, i < l.length → vsh (sq l i)
theorem ValidShown_true {l : List GShown} (h : vshs l) : impl_ValidShown l = some true := by
  have h6 := h.1
  unfold impl_ValidShown
  rw [if_pos (by omega)]
  have hcf : slices_ContainsFunc_impl_Shown_impl_Shown_806 l (fun a0 => impl_ValidShown_1 a0) = some (l.any fun _ => false) := by
    unfold slices_ContainsFunc_impl_Shown_impl_Shown_806 slices_IndexFunc_impl_Shown_impl_Shown_828
    refine contS (fun _ => false) l (fun x hx => ?_) (by omega) (fun _ => rfl)
    obtain ⟨i, hi, rfl⟩ := List.getElem_of_mem hx
    have hc := h.2 i hi
    unfold sq at hc
    rw [List.getD_eq_getElem?_getD, List.getElem?_eq_getElem hi] at hc
    obtain ⟨c1, c2, c3⟩ := hc
    simp only [Option.getD_some] at c1 c2 c3
    have hw : ∀ n a b : Int, a ≤ n ∧ n ≤ b → impl_within n a b = some true := fun n a b hn => by unfold impl_within; rw [if_pos (by omega), decide_eq_true hn.2]
    unfold impl_ValidShown_1
    rw [w64_id (n := l[i].On + 1) (by omega) (by omega)]
    simp only [hw _ 0 10000 ⟨c1.1, by omega⟩, hw _ (l[i].On + 1) 20000 ⟨c2.1, by omega⟩, hw _ 0 500 ⟨c3.1, by omega⟩, Option.bind_some, if_true]
    rfl
  rw [hcf, Option.bind_some]
  have : (l.any fun _ => false) = false := by induction l <;> simp
  rw [this]; rfl
def lsm (l : List GShown) (t : Int) : Nat → Int
  | 0 => 0
  | k + 1 => lsm l t k + lev (sq l k) t
theorem lsm_bd {l : List GShown} (h : vshs l) (t : Int) : ∀ k, k ≤ l.length → 0 ≤ lsm l t k ∧ lsm l t k ≤ 100 * k
  | 0, _ => by simp [lsm]
  | k + 1, hk => by
    have h1 := lsm_bd h t k (by omega)
    have h2 := lev_bd (h.2 k (by omega)) t
    rw [lsm]; omega
theorem light_eq {l : List GShown} (h : vshs l) (t : Int) : impl_light l t = some (lsm l t l.length) := by
  have h6 := h.1
  unfold impl_light
  refine eq_of_wp ?_
  refine wp_cnt (fun k => (lsm l t k, (k : Int))) l.length rfl (by omega) (fun k hk => ?_) (b := lsm l t l.length) ?_ (wp_some rfl)
  · have hb := lsm_bd h t k (by omega)
    have hl := lev_bd (h.2 k hk) t
    simp only
    rw [if_pos (by omega), at_sq hk, Option.bind_some, level_eq (h.2 k hk), Option.bind_some, w64_id (n := (k : Int) + 1) (by omega) (by omega), w64_id (by omega) (by omega), lsm]
    rfl
  · simp only; rw [if_neg (by omega)]
theorem within_true {n a b : Int} (h : a ≤ n ∧ n ≤ b) : impl_within n a b = some true := by unfold impl_within; rw [if_pos (by omega), decide_eq_true h.2]
theorem LightAt_eq {l : List GShown} (h : vshs l) {t : Int} (h0 : 0 ≤ t) (h1 : t ≤ 20000) : impl_LightAt l t = some (lsm l t l.length, 0) := by
  unfold impl_LightAt
  rw [ValidShown_true h, Option.bind_some, if_pos rfl, within_true ⟨h0, h1⟩, Option.bind_some, if_pos rfl, light_eq h]; rfl
theorem LevelAt_eq {x : GShown} (h : vsh x) {t : Int} (h0 : 0 ≤ t) (h1 : t ≤ 20000) : impl_LevelAt x t = some (lev x t, 0) := by
  have hv : vshs [x] := ⟨by simp, fun i hi => by
    have : i = 0 := by simpa using hi
    subst this; exact h⟩
  unfold impl_LevelAt
  rw [LightAt_eq hv h0 h1, Option.bind_some]
  simp [lsm, sq]
theorem sq_append {l : List GShown} {c : GShown} {i : Nat} : sq (l ++ [c]) i = if i = l.length then c else sq l i := by
  unfold sq
  rw [List.getD_eq_getElem?_getD, List.getD_eq_getElem?_getD, List.getElem?_append]
  by_cases h : i < l.length
  · rw [if_pos h, if_neg (by omega)]
  · rw [if_neg h]
    by_cases h2 : i = l.length
    · rw [if_pos h2, h2, Nat.sub_self]; rfl
    · rw [if_neg h2, List.getElem?_eq_none (by simp; omega), List.getElem?_eq_none (by omega)]
theorem A2Shown_ok {code : List Int} (hc : okL (okI .u8) code) (hl : code.length ≤ 1000000) : wp (spec_A2Shown code) (fun l => l.length ≤ 6 ∧ ∀ i, i < l.length → vsh (sq l i) ∧ (sq l i).On ≤ 100 ∧ (sq l i).Off ≤ 200) := by
  unfold spec_A2Shown
  refine wp_from hc hl fun s hs => wp_seq (P := fun r => r.1.length ≤ 6 ∧ ∀ i, i < r.1.length → vsh (sq r.1 i) ∧ (sq r.1 i).On ≤ 100 ∧ (sq r.1 i).Off ≤ 200) ?_ fun r hr => wp_some hr
  unfold spec_l15Draw
  refine wp_pick hs (by omega) fun a s1 a0 a1 h1 => wp_pick h1 (by omega) fun n s2 n0 n1 h2 => ?_
  simp only
  refine wp_loop (fun q : GL00Src × List GShown × Int × Int => SrcOk (4 + 10 * (n - q.2.2.2)) q.1 ∧ 0 ≤ q.2.2.2 ∧ q.2.2.2 ≤ n ∧ (q.2.1.length : Int) = n - q.2.2.2 ∧ 0 ≤ q.2.2.1 ∧ q.2.2.1 ≤ 5 + 15 * (n - q.2.2.2) ∧ ∀ i, i < q.2.1.length → vsh (sq q.2.1 i) ∧ (sq q.2.1 i).On ≤ 100 ∧ (sq q.2.1 i).Off ≤ 200) (fun q => q.2.2.2.toNat) ⟨h2.mono (by simp only; omega), n0, by simp only; omega, by simp, a0, by simp only; omega, by simp⟩ (by simp only; omega) ?_
  rintro ⟨s, out, at1, k⟩ ⟨g1, g2, g3, g4, g5, g6, g7⟩
  simp only at g1 g2 g3 g4 g5 g6 g7 ⊢
  refine wp_ite (fun h => ?_) (fun h => ?_)
  · refine wp_pick g1 (by omega) fun u s3 u0 u1 k1 => wp_pick k1 (by omega) fun v s4 v0 v1 k2 => wp_app (by simp; omega) ?_
    refine wp_pick k2 (by omega) fun w s5 w0 w1 k3 => ?_
    simp only
    rw [maxB, Option.bind_some, w64_id (n := at1 + 1) (by omega) (by omega), w64_id (n := at1 + 1 + u) (by omega) (by omega), w64_id (n := at1 + w) (by omega) (by omega), w64_id (n := at1 + w - 3) (by omega) (by omega), w64_id (by omega) (by omega)]
    refine wp_some ⟨⟨k3.mono (by simp only; omega), by simp only; omega, by simp only; omega, by simp; omega, by simp only; omega, by simp only; omega, fun i hi => ?_⟩, by simp only; omega⟩
    simp only [List.length_append, List.length_singleton] at hi
    simp only
    rw [sq_append]
    by_cases h7 : i = out.length
    · rw [if_pos h7]; unfold vsh; simp only; omega
    · rw [if_neg h7]; exact g7 i (by omega)
  · exact wp_some (wp_some ⟨by simp only; omega, g7⟩)
/-- dark ticks from a tick on -/
def drk (l : List GShown) (f : Int) (j : Nat) : Bool := decide (lsm l (f + j) l.length = 0)
def dkR (f : Int) (o : Option Nat) : Int × Int := match o with | some t => (f + (t : Int), 0) | none => (0, 3)
def encG (f : Int) : Option Nat → Int
  | some i => f + (i : Int)
  | none => -1
section
variable {l : List GShown} (h : vshs l) {f : Int} {n : Nat} (f0 : 0 ≤ f) (f1 : f ≤ 100) (hn : n ≤ 100)
include h f0 f1 hn
theorem ticksCode_eq : impl_ticksCode l f (f + n) = some 0 := by
  unfold impl_ticksCode
  rw [ValidShown_true h, Option.bind_some, if_pos rfl, within_true (a := 0) (b := 20000) (n := f) ⟨f0, by omega⟩, Option.bind_some, if_pos rfl, within_true (n := f + n) (a := f) (b := 20000) ⟨by omega, by omega⟩]; rfl
theorem DarkTicks_eq : impl_DarkTicks l f (f + n) = some (((ones (drk l f) n : Nat) : Int), 0) := by
  unfold impl_DarkTicks
  rw [ticksCode_eq h f0 f1 hn, Option.bind_some, if_pos rfl]
  refine eq_of_wp ?_
  refine wp_cnt (fun k => (((ones (drk l f) k : Nat) : Int), f + (k : Int))) n (by simp [ones]) (by omega) (fun k hk => ?_) (b := ((ones (drk l f) n : Nat) : Int)) ?_ (wp_some rfl)
  · have := ones_le (drk l f) k
    simp only
    rw [if_pos (by omega), light_eq h, Option.bind_some, w64_id (n := f + (k : Int) + 1) (by omega) (by omega), w64_id (by omega) (by omega), ones]
    by_cases h0 : lsm l (f + (k : Int)) l.length = 0
    · rw [if_pos h0, if_pos (show drk l f k = true from decide_eq_true h0)]
      exact congrArg some (congrArg Step.next (Prod.ext rfl (by simp only; omega)))
    · rw [if_neg h0, if_neg (show ¬ drk l f k = true from by unfold drk; simpa using h0)]
      exact congrArg some (congrArg Step.next (Prod.ext rfl (by simp only; omega)))
  · simp only; rw [if_neg (by omega)]
theorem FirstDark_eq : impl_FirstDarkTick l f (f + n) = some (dkR f (ff (drk l f) n)) := by
  unfold impl_FirstDarkTick
  rw [ticksCode_eq h f0 f1 hn, Option.bind_some, if_pos rfl]
  refine eq_of_wp ?_
  refine wp_loop (fun i : Int => ∃ k : Nat, i = f + (k : Int) ∧ k ≤ n ∧ ff (drk l f) k = none) (fun i => (f + n - i).toNat) ⟨0, by simp, by omega, rfl⟩ (by omega) ?_
  rintro _ ⟨k, rfl, hk, hnn⟩
  refine wp_ite (fun hlt => ?_) (fun hlt => ?_)
  · rw [light_eq h, Option.bind_some]
    refine wp_ite (fun h2 => wp_some (wp_some ?_)) (fun h2 => ?_)
    · rw [ff_some hnn (decide_eq_true h2) (by omega)]; rfl
    · rw [w64_id (by omega) (by omega)]
      refine wp_some ⟨⟨k + 1, by omega, by omega, ?_⟩, by omega⟩
      rw [ff, hnn]; simp only; rw [if_neg (by unfold drk; simpa using h2)]
  · obtain rfl : k = n := by omega
    refine wp_some (wp_some ?_)
    rw [hnn]; rfl
end
end Go.Vs.G
