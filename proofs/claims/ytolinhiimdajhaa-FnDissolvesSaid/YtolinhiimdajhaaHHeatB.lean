/- Exact laws of burnings: which are valid, heat, the first tick that is too hot. No conditions. -/
import Derived.Test.YtolinhiimdajhaaHHeat
namespace Go.Vs.G
open Go Go.Vs
theorem ValidBurning_eq {s : List UInt8} (hs : s.length ≤ 1048576) : impl_ValidBurning s = some (decide (brn s)) := by
  unfold impl_ValidBurning
  by_cases h : s.length ≤ 60
  · rw [if_pos (by omega)]
    unfold strings_Trim
    rw [if_pos ⟨by omega, by decide, by decide⟩, Option.bind_some]
    have hiff : Lib.trimS s [48, 49] = [] ↔ brn s := by
      rw [trim_nil]
      unfold brn
      constructor
      · intro h2
        refine ⟨h, fun c hc => ?_⟩
        have := h2 c hc
        simpa using this
      · intro h2 c hc
        have := h2.2 c hc
        simpa using this
    by_cases hb : brn s
    · rw [hiff.2 hb, decide_eq_true hb]; rfl
    · rw [decide_eq_false hb]
      have : Lib.trimS s [48, 49] ≠ [] := fun h => hb (hiff.1 h)
      simpa using this
  · rw [if_neg (by omega), decide_eq_false (fun h2 => h h2.1)]
theorem laws_FnExactValidBurning_true {s : List UInt8} (hs : okS s) : laws_FnExactValidBurning s = some true := by
  unfold laws_FnExactValidBurning
  split
  · rfl
  · have hl : s.length ≤ 1048576 := by omega
    unfold spec_ValidBurning
    rw [l21Burning_eq hl, Option.bind_some, Option.bind_some, ValidBurning_eq hl, Option.bind_some]
    simp
open Classical in
theorem HeatAfter_eq {x : GLamp} {s : List UInt8} (hs : s.length ≤ 1048576) : impl_HeatAfter x s = some (heatR x s) := by
  unfold impl_HeatAfter heatR
  obtain ⟨b, h1, h2⟩ := ValidLamp_eq x
  rw [h1, Option.bind_some]
  by_cases hg : x.good
  · rw [if_pos (h2.2 hg), ValidBurning_eq hs, Option.bind_some, Option.bind_some]
    by_cases hb : brn s
    · rw [decide_eq_true hb, if_neg (by simp), if_pos ⟨hg, hb⟩]
      exact heatLoop hg hb.1 (f := fun h b => impl_Lamp_next x h b) (fun h b h0 h1 => by rw [next_eq hg h0 h1]; rfl) (fun _ _ _ => rfl)
    · rw [decide_eq_false hb, if_pos (by simp), if_neg (fun h => hb h.2)]
  · rw [if_neg (fun h => hg (h2.1 h)), Option.bind_some, if_pos rfl, if_neg (fun h => hg h.1)]
open Classical in
theorem l21Code_eq {x : GLamp} {s : List UInt8} (hs : s.length ≤ 1048576) : spec_l21Code x s = some (if x.good ∧ brn s then 0 else 1) := by
  unfold spec_l21Code
  obtain ⟨b, h1, h2⟩ := l21Ok_eq x
  rw [h1, Option.bind_some]
  by_cases hg : x.good
  · rw [if_pos (h2.2 hg), l21Burning_eq hs, Option.bind_some, Option.bind_some]
    by_cases hb : brn s
    · rw [decide_eq_true hb, if_neg (by simp), if_pos ⟨hg, hb⟩]
    · rw [decide_eq_false hb, if_pos (by simp), if_neg (fun h => hb h.2)]
  · rw [if_neg (fun h => hg (h2.1 h)), Option.bind_some, if_pos rfl, if_neg (fun h => hg h.1)]
open Classical in
theorem HeatAfter_spec {x : GLamp} {s : List UInt8} (hs : s.length ≤ 1048576) : spec_HeatAfter x s = some (heatR x s) := by
  unfold spec_HeatAfter heatR
  rw [l21Code_eq hs, Option.bind_some]
  by_cases h : x.good ∧ brn s
  · rw [if_pos h, if_pos rfl, l21Heat_eq h.1 h.2.1, if_pos h]; rfl
  · rw [if_neg h, if_neg (by omega), if_neg h]
/-- ticks after which it is too hot -/
def hotAt (x : GLamp) (s : List UInt8) (i : Nat) : Bool := decide ((hts x 0 s).getD i 0 > x.Limit)
def hotR (x : GLamp) (s : List UInt8) : Int × Int := match ff (hotAt x s) s.length with
  | some i => ((i : Int), 0)
  | none => (0, 3)
theorem hotLoop {x : GLamp} {s : List UInt8} (hs : s.length ≤ 60) : onL (loop (S := Int) (B := Unit) (R := (Int × Int)) (fun (x2 : Int) => if x2 < ((hts x 0 s).length : Int) then ((at? (hts x 0 s) x2).bind fun v1 => if v1 > x.Limit then (some (.ret (x2, 0))) else some (.next (w64 (x2 + 1)))) else some (.brk ())) loopLim 0)
    (fun (_ : Unit) => some (0, 3)) (fun r => some r) = some (hotR x s) := by
  refine eq_of_wp ?_
  have hl := hts_len x s 0
  refine wp_loop (fun i : Int => ∃ k : Nat, i = (k : Int) ∧ k ≤ s.length ∧ ff (hotAt x s) k = none) (fun i => (s.length - i).toNat) ⟨0, rfl, by omega, rfl⟩ (by omega) ?_
  rintro _ ⟨k, rfl, hk, hn⟩
  refine wp_ite (fun h => ?_) (fun h => ?_)
  · have hk2 : k < (hts x 0 s).length := by omega
    have hh : hotAt x s k = decide ((hts x 0 s)[k] > x.Limit) := by unfold hotAt; rw [List.getD_eq_getElem?_getD, List.getElem?_eq_getElem hk2]; rfl
    rw [at_of hk2, Option.bind_some]
    refine wp_ite (fun h2 => wp_some (wp_some ?_)) (fun h2 => ?_)
    · unfold hotR; rw [ff_some hn (by rw [hh]; exact decide_eq_true h2) (by omega)]
    · rw [w64_id (by omega) (by omega)]
      refine wp_some ⟨⟨k + 1, rfl, by omega, ?_⟩, by omega⟩
      rw [ff, hn]; simp only; rw [if_neg (by rw [hh]; simpa using h2)]
  · obtain rfl : k = s.length := by omega
    refine wp_some (wp_some ?_)
    unfold hotR; rw [hn]
open Classical in
noncomputable def firstR (x : GLamp) (s : List UInt8) : Int × Int := if x.good ∧ brn s then hotR x s else (0, 1)
open Classical in
theorem FirstTooHot_eq {x : GLamp} {s : List UInt8} (hs : s.length ≤ 1048576) : impl_FirstTooHot x s = some (firstR x s) := by
  unfold impl_FirstTooHot firstR
  rw [HeatAfter_eq hs, Option.bind_some]
  unfold heatR
  by_cases h : x.good ∧ brn s
  · rw [if_pos h, if_pos h, if_pos rfl]
    exact hotLoop h.2.1
  · rw [if_neg h, if_neg h, if_neg (by simp)]
open Classical in
theorem FirstTooHot_spec {x : GLamp} {s : List UInt8} (hs : s.length ≤ 1048576) : spec_FirstTooHot x s = some (firstR x s) := by
  unfold spec_FirstTooHot firstR
  rw [l21Code_eq hs, Option.bind_some]
  by_cases h : x.good ∧ brn s
  · rw [if_pos h, if_pos rfl, l21Heat_eq h.1 h.2.1, Option.bind_some, if_pos h]
    exact hotLoop h.2.1
  · rw [if_neg h, if_neg (by omega), if_neg h]
theorem laws_FnExactFirstTooHot_true {x : GLamp} {s : List UInt8} (hx : x.ok) (hs : okS s) : laws_FnExactFirstTooHot x s = some true := by
  unfold laws_FnExactFirstTooHot laws_toLamp
  split
  · rfl
  · have hl : s.length ≤ 1048576 := by omega
    simp only [Option.bind_some, FirstTooHot_eq hl, FirstTooHot_spec hl, if_true, decide_true, Bool.not_true, Bool.false_eq_true, if_false]
theorem laws_FnExactHeatAfter_true {x : GLamp} {s : List UInt8} (hx : x.ok) (hs : okS s) : laws_FnExactHeatAfter x s = some true := by
  unfold laws_FnExactHeatAfter laws_toLamp
  split
  · rfl
  · have hl : s.length ≤ 1048576 := by omega
    have hw : (heatR x s).1.length ≤ 1048576 := by
      unfold heatR; split
      · rw [hts_len]; omega
      · simp
    simp only [Option.bind_some, HeatAfter_eq hl, HeatAfter_spec hl, laws_eqInt64S_eq (a := (heatR x s).1) (b := (heatR x s).1) (by omega), if_true, decide_true, Bool.not_true, Bool.false_eq_true, if_false]
    simp only [laws_markInt64S_eq (a := (heatR x s).1) (k := 1) (by omega) (by omega) (by omega), Option.bind_some, laws_heldInt64S_tab (k := 1) (n := (heatR x s).1.length) (by omega) (by omega) (by omega), if_true]
    rw [if_neg (by omega), if_neg (by omega)]
end Go.Vs.G
