/- Frames behind a shutter: FnSeenAtOnce. No conditions. -/
import Derived.Test.YtcbacahinmncaaaHBright
namespace Go.Vs.G
open Go Go.Vs

/-- frames that are valid -/
def vf (l : List GFrame) : Prop := l.length ≤ 60 ∧ ∀ f, f ∈ l → (1 ≤ f.Light ∧ f.Light ≤ 10000) ∧ 0 ≤ f.Dark ∧ f.Dark ≤ 10000
instance (l : List GFrame) : Decidable (vf l) := by unfold vf; infer_instance
def fok (f : GFrame) : Bool := decide ((1 ≤ f.Light ∧ f.Light ≤ 10000) ∧ 0 ≤ f.Dark ∧ f.Dark ≤ 10000)
theorem ValidFrames_eq {l : List GFrame} (hl : l.length ≤ 1000000) : impl_ValidFrames l = some (decide (vf l)) := by
  unfold impl_ValidFrames
  have hcf : slices_ContainsFunc_impl_Frame_impl_Frame_801 l (fun a0 => impl_ValidFrames_1 a0) = some (l.any fun f => !fok f) := by
    unfold slices_ContainsFunc_impl_Frame_impl_Frame_801 slices_IndexFunc_impl_Frame_impl_Frame_823
    refine contS _ l (fun f _ => ?_) (by omega) (fun _ => rfl)
    unfold impl_ValidFrames_1 fok
    simp only [withinB, Option.bind_some]
    by_cases h1 : 1 ≤ f.Light ∧ f.Light ≤ 10000 <;> simp [h1]
  rw [hcf, Option.bind_some]
  by_cases h : l.length ≤ 60
  · rw [if_pos (by omega)]
    congr 1
    have e : (!l.any fun f => !fok f) = true ↔ ∀ f, f ∈ l → fok f = true := by simp
    rw [Bool.eq_iff_iff, e, decide_eq_true_eq]
    exact ⟨fun h2 => ⟨h, fun f hf => of_decide_eq_true (h2 f hf)⟩, fun h2 f hf => decide_eq_true (h2.2 f hf)⟩
  · rw [if_neg (by omega), decide_eq_false (fun hc => h hc.1)]
theorem l16Ok_eq {l : List GFrame} (hl : l.length ≤ 1000000) : spec_l16Ok l = some (decide (vf l)) := by
  unfold spec_l16Ok
  rw [allS (f := fun f => some (fok f)) fok l (fun _ _ => rfl) (by omega) (r := false) (fun i => by
    split
    · cases at? l i with
      | none => rfl
      | some v =>
        simp only [Option.bind_some, inB, fok]
        by_cases h1 : 1 ≤ v.Light ∧ v.Light ≤ 10000 <;> by_cases h2 : 0 ≤ v.Dark ∧ v.Dark ≤ 10000 <;> simp [h1, h2]
    · rfl)]
  split
  · rename_i h
    congr 1
    rw [decide_eq_decide]
    exact ⟨fun h2 => ⟨by omega, fun f hf => of_decide_eq_true (h f hf)⟩, fun h2 => by have := h2.1; omega⟩
  · rename_i h
    rw [decide_eq_false]
    intro hc
    exact h fun f hf => by unfold fok; exact decide_eq_true (hc.2 f hf)

def fr (l : List GFrame) (k : Nat) : GFrame := l.getD k ⟨1, 0⟩
theorem at_fr {l : List GFrame} {k : Nat} (h : k < l.length) : at? l (k : Int) = some (fr l k) := by
  unfold fr; rw [at_of h, List.getD_eq_getElem?_getD, List.getElem?_eq_getElem h]; rfl
theorem fr_rng {l : List GFrame} {k : Nat} (hl : vf l) (h : k < l.length) : (1 ≤ (fr l k).Light ∧ (fr l k).Light ≤ 10000) ∧ 0 ≤ (fr l k).Dark ∧ (fr l k).Dark ≤ 10000 := by
  unfold fr; rw [List.getD_eq_getElem?_getD, List.getElem?_eq_getElem h]; exact hl.2 _ (List.getElem_mem h)
/-- where frame k begins -/
def bg (l : List GFrame) : Nat → Int
  | 0 => 0
  | k + 1 => bg l k + ((fr l k).Light + (fr l k).Dark)
theorem bg_bd {l : List GFrame} (hl : vf l) : ∀ k, k ≤ l.length → 0 ≤ bg l k ∧ bg l k ≤ 20000 * k
  | 0, _ => by simp [bg]
  | k + 1, h => by
    have h1 := bg_bd hl k (by omega)
    have h2 := fr_rng hl (k := k) (by omega)
    rw [bg]; omega
theorem bg_big {l : List GFrame} (hl : vf l) {k : Nat} (h : k ≤ l.length) : 0 ≤ bg l k ∧ bg l k ≤ 1200000 := by
  have := bg_bd hl k h; have := hl.1; omega
theorem bg_mono {l : List GFrame} (hl : vf l) : ∀ {j k : Nat}, j ≤ k → k ≤ l.length → bg l j + ((k : Int) - j) ≤ bg l k
  | j, 0, h, _ => by rw [show j = 0 by omega]; simp
  | j, k + 1, h, hk => by
    rcases Nat.lt_or_ge j (k + 1) with h1 | h1
    · have h2 := bg_mono hl (j := j) (k := k) (by omega) (by omega)
      have h3 := fr_rng hl (k := k) (by omega)
      rw [bg]; omega
    · rw [show j = k + 1 by omega]; omega
theorem begins_eq {l : List GFrame} (hl : vf l) : impl_begins l = some (tab (bg l) (l.length + 1)) := by
  refine eq_of_wp ?_
  unfold impl_begins
  have h60 := hl.1
  refine wp_cnt (fun k => (tab (bg l) (k + 1), bg l k, (k : Int))) l.length (by simp [tab, bg]) (by omega) (fun k hk => ?_) (b := tab (bg l) (l.length + 1)) ?_ (wp_some rfl)
  · have h1 := bg_big hl (k := k) (by omega)
    have h2 := fr_rng hl hk
    simp only
    rw [if_pos (by omega), at_fr hk, Option.bind_some, w64_id (n := (fr l k).Light + (fr l k).Dark) (by omega) (by omega), w64_id (n := bg l k + ((fr l k).Light + (fr l k).Dark)) (by omega) (by omega), app_ok (by simp; omega), Option.bind_some, w64_id (by omega) (by omega)]
    rw [tab_succ (n := k + 1)]; rfl
  · simp only; rw [if_neg (by omega)]
theorem at_bg {l : List GFrame} {k : Nat} (h : k ≤ l.length) : at? (tab (bg l) (l.length + 1)) (k : Int) = some (bg l k) := by
  rw [tab_at (by omega) (by omega)]; simp
theorem totalMillis_eq {l : List GFrame} (hl : vf l) : impl_totalMillis l = some (bg l l.length) := by
  unfold impl_totalMillis; rw [begins_eq hl, Option.bind_some, at_bg (Nat.le_refl _)]; rfl
theorem l16Total_eq {l : List GFrame} (hl : vf l) : spec_l16Total l = some (bg l l.length) := by
  refine eq_of_wp ?_
  unfold spec_l16Total
  have h60 := hl.1
  refine wp_cnt (fun k => (bg l k, (k : Int))) l.length rfl (by omega) (fun k hk => ?_) (b := bg l l.length) ?_ (wp_some rfl)
  · have h1 := bg_big hl (k := k) (by omega)
    have h2 := fr_rng hl hk
    simp only
    rw [if_pos (by omega), at_fr hk, Option.bind_some, Option.bind_some, w64_id (n := (fr l k).Light + (fr l k).Dark) (by omega) (by omega), w64_id (n := bg l k + ((fr l k).Light + (fr l k).Dark)) (by omega) (by omega), w64_id (by omega) (by omega)]
    rfl
  · simp only; rw [if_neg (by omega)]
/-- frame i is seen at ms -/
def sn (l : List GFrame) (p ms : Int) (i : Nat) : Bool := decide (bg l i ≤ ms ∧ ms < bg l i + (fr l i).Light + p)
theorem seenFrames_eq {l : List GFrame} {p ms : Int} (hl : vf l) (hp : 0 ≤ p) (hp2 : p ≤ 500) : impl_seenFrames l p ms = some (sl (sn l p ms) l.length) := by
  refine eq_of_wp ?_
  unfold impl_seenFrames
  have h60 := hl.1
  rw [begins_eq hl, Option.bind_some]
  refine wp_cnt (fun k => (sl (sn l p ms) k, (k : Int))) l.length rfl (by omega) (fun k hk => ?_) (b := sl (sn l p ms) l.length) ?_ (wp_some rfl)
  · have h1 := bg_big hl (k := k) (by omega)
    have h2 := fr_rng hl hk
    have h3 := sl_len (sn l p ms) k
    simp only
    rw [if_pos (by omega), at_fr hk, Option.bind_some, at_bg (by omega), Option.bind_some, Option.bind_some, w64_id (n := bg l k + (fr l k).Light) (by omega) (by omega), w64_id (n := bg l k + (fr l k).Light + p) (by omega) (by omega), w64_id (by omega) (by omega)]
    have e : (if bg l k ≤ ms then some (decide (ms < bg l k + (fr l k).Light + p)) else some false : Option Bool) = some (sn l p ms k) := by
      unfold sn; split <;> simp [*]
    rw [e, Option.bind_some, sl]
    split
    · rw [app_ok (by simp; omega)]; rfl
    · rfl
  · simp only; rw [if_neg (by omega)]
theorem l16Seen_eq {l : List GFrame} {p ms : Int} (hl : vf l) (hp : 0 ≤ p) (hp2 : p ≤ 500) : spec_l16Seen l p ms = some (sl (sn l p ms) l.length) := by
  refine eq_of_wp ?_
  unfold spec_l16Seen
  have h60 := hl.1
  refine wp_cnt (fun k => (sl (sn l p ms) k, bg l k, (k : Int))) l.length rfl (by omega) (fun k hk => ?_) (b := sl (sn l p ms) l.length) ?_ (wp_some rfl)
  · have h1 := bg_big hl (k := k) (by omega)
    have h2 := fr_rng hl hk
    have h3 := sl_len (sn l p ms) k
    simp only
    rw [if_pos (by omega), at_fr hk, Option.bind_some, w64_id (n := bg l k + (fr l k).Light) (by omega) (by omega), w64_id (n := bg l k + (fr l k).Light + p) (by omega) (by omega), w64_id (n := bg l k + (fr l k).Light + p - 1) (by omega) (by omega), inB, Option.bind_some]
    have e : decide (bg l k ≤ ms ∧ ms ≤ bg l k + (fr l k).Light + p - 1) = sn l p ms k := by
      unfold sn; rw [decide_eq_decide]; omega
    rw [e, sl]
    have e2 : (if sn l p ms k = true then (app? (sl (sn l p ms) k) [(k : Int)]).bind fun l1 => some l1 else some (sl (sn l p ms) k) : Option (List Int)) = some (if sn l p ms k = true then sl (sn l p ms) k ++ [(k : Int)] else sl (sn l p ms) k) := by
      split
      · rw [app_ok (by simp; omega)]; rfl
      · rfl
    rw [e2]
    simp only [Option.bind_some]
    rw [w64_id (n := (fr l k).Light + (fr l k).Dark) (by omega) (by omega), w64_id (n := bg l k + ((fr l k).Light + (fr l k).Dark)) (by omega) (by omega), w64_id (by omega) (by omega)]
    rfl
  · simp only; rw [if_neg (by omega)]
def cnt (l : List GFrame) (p ms : Int) : Int := (sl (sn l p ms) l.length).length
theorem cnt_rng (l : List GFrame) (p ms : Int) : 0 ≤ cnt l p ms ∧ cnt l p ms ≤ l.length := by
  have := sl_len (sn l p ms) l.length; unfold cnt; omega
/-- nothing new is seen before the next frame begins -/
theorem cnt_le {l : List GFrame} (hl : vf l) {p ms : Int} {j : Nat} (h1 : bg l j ≤ ms) (h2 : j + 1 < l.length → ms < bg l (j + 1)) (hj : j < l.length) : cnt l p ms ≤ cnt l p (bg l j) := by
  unfold cnt
  refine Int.ofNat_le.2 (sl_mono fun i hi hs => ?_)
  unfold sn at hs ⊢
  have hs := of_decide_eq_true hs
  refine decide_eq_true ⟨?_, by omega⟩
  rcases Nat.lt_or_ge j i with h3 | h3
  · have h4 := bg_mono hl (j := j + 1) (k := i) (by omega) (by omega)
    have := h2 (by omega)
    omega
  · have h4 := bg_mono hl (j := i) (k := j) h3 (by omega)
    omega
theorem framesCode_eq {l : List GFrame} {p : Int} (hl : l.length ≤ 1000000) : impl_framesCode l p = some (if vf l then (if 0 ≤ p ∧ p ≤ 500 then 0 else 2) else 1) := by
  unfold impl_framesCode
  rw [ValidFrames_eq hl, Option.bind_some]
  simp only [decide_eq_true_eq, withinB, Option.bind_some]
  split
  · split <;> rfl
  · rfl
theorem l16Persist_eq (p : Int) : spec_l16Persist p = some (decide (0 ≤ p ∧ p ≤ 500)) := by unfold spec_l16Persist; rw [inB]; rfl

/-- where the last light ends -/
def un (l : List GFrame) (p : Int) : Nat → Int
  | 0 => 0
  | k + 1 => max (un l p k) (bg l k + (fr l k).Light + p)
theorem un_rng {l : List GFrame} (hl : vf l) {p : Int} (hp : 0 ≤ p) (hp2 : p ≤ 500) : ∀ k, k ≤ l.length → 0 ≤ un l p k ∧ un l p k ≤ 2000000
  | 0, _ => by simp [un]
  | k + 1, h => by
    have h1 := un_rng hl hp hp2 k (by omega)
    have h2 := bg_big hl (k := k) (by omega)
    have h3 := fr_rng hl (k := k) (by omega)
    rw [un]; omega
def gp (l : List GFrame) (p : Int) : Nat → Int
  | 0 => 0
  | k + 1 => gp l p k + max 0 (bg l (k + 1) - un l p (k + 1))
theorem gp_rng {l : List GFrame} (hl : vf l) {p : Int} (hp : 0 ≤ p) (hp2 : p ≤ 500) : ∀ k, k ≤ l.length → 0 ≤ gp l p k ∧ gp l p k ≤ 2000000 * k
  | 0, _ => by simp [gp]
  | k + 1, h => by
    have h1 := gp_rng hl hp hp2 k (by omega)
    have h2 := bg_big hl (k := k + 1) (by omega)
    have h3 := un_rng hl hp hp2 (k + 1) h
    rw [gp]; omega
theorem gapsSeen_eq {l : List GFrame} {p : Int} (hl : vf l) (hp : 0 ≤ p) (hp2 : p ≤ 500) : impl_gapsSeen l p = some (gp l p l.length) := by
  refine eq_of_wp ?_
  unfold impl_gapsSeen
  have h60 := hl.1
  rw [begins_eq hl, Option.bind_some]
  have hgu : ∀ k, k ≤ l.length → gp l p k = (gp l p k - max 0 (bg l k - un l p k)) + max 0 (bg l k - un l p k) := fun k _ => by omega
  refine wp_cnt (fun k => (gp l p k - max 0 (bg l k - un l p k), un l p k, (k : Int))) l.length (by simp [gp, bg, un]) (by omega) (fun k hk => ?_) (b := (gp l p l.length - max 0 (bg l l.length - un l p l.length), un l p l.length)) ?_ ?_
  · have h1 := bg_big hl (k := k) (by omega)
    have h2 := fr_rng hl hk
    have h3 := un_rng hl hp hp2 k (by omega)
    have h4 := gp_rng hl hp hp2 k (by omega)
    simp only
    rw [if_pos (by omega), at_fr hk, Option.bind_some, at_bg (by omega), Option.bind_some, Option.bind_some, w64_id (n := bg l k - un l p k) (by omega) (by omega), w64_id (n := bg l k + (fr l k).Light) (by omega) (by omega), w64_id (n := bg l k + (fr l k).Light + p) (by omega) (by omega), imax_def, imax_def, w64_id (n := gp l p k - max 0 (bg l k - un l p k) + max (bg l k - un l p k) 0) (by omega) (by omega), w64_id (by omega) (by omega)]
    congr 2
    refine Prod.ext ?_ rfl
    simp only [gp]; omega
  · simp only; rw [if_neg (by omega)]
  · have h1 := bg_big hl (k := l.length) (by omega)
    have h3 := un_rng hl hp hp2 l.length (by omega)
    have h4 := gp_rng hl hp hp2 l.length (by omega)
    simp only
    rw [at_bg (Nat.le_refl _), Option.bind_some, w64_id (n := bg l l.length - un l p l.length) (by omega) (by omega), imax_def, w64_id (by omega) (by omega)]
    refine wp_some ?_
    omega
theorem GapsSeen_eq {l : List GFrame} {p : Int} (hl : l.length ≤ 1000000) : impl_GapsSeen l p = some (if vf l then (if 0 ≤ p ∧ p ≤ 500 then (gp l p l.length, 0) else (0, 2)) else (0, 1)) := by
  unfold impl_GapsSeen
  rw [framesCode_eq hl, Option.bind_some]
  by_cases hv : vf l
  · by_cases hp : 0 ≤ p ∧ p ≤ 500
    · simp only [hv, hp, and_self, if_true]; rw [gapsSeen_eq hv hp.1 hp.2]; rfl
    · simp only [hv, hp, if_true, if_false]; rfl
  · simp only [hv, if_false]; rfl
theorem GapsSeen_spec {l : List GFrame} {p : Int} (hl : l.length ≤ 1000000) : spec_GapsSeen l p = some (if vf l then (if 0 ≤ p ∧ p ≤ 500 then (gp l p l.length, 0) else (0, 2)) else (0, 1)) := by
  unfold spec_GapsSeen
  rw [l16Ok_eq hl, Option.bind_some]
  by_cases hv : vf l
  · by_cases hp : 0 ≤ p ∧ p ≤ 500
    · simp only [hv, hp, and_self, decide_true, if_true, l16Persist_eq, Option.bind_some]
      refine eq_of_wp ?_
      have h60 := hv.1
      refine wp_cnt (fun k => (gp l p k, bg l k, un l p k, (k : Int))) l.length rfl (by omega) (fun k hk => ?_) (b := gp l p l.length) ?_ (wp_some rfl)
      · have h1 := bg_big hv (k := k) (by omega)
        have h1' := bg_big hv (k := k + 1) (by omega)
        have h2 := fr_rng hv hk
        have h3 := un_rng hv hp.1 hp.2 k (by omega)
        have h3' := un_rng hv hp.1 hp.2 (k + 1) (by omega)
        have h4 := gp_rng hv hp.1 hp.2 k (by omega)
        have h4' := gp_rng hv hp.1 hp.2 (k + 1) (by omega)
        simp only
        rw [if_pos (by omega), at_fr hk, Option.bind_some, w64_id (n := bg l k + (fr l k).Light) (by omega) (by omega), w64_id (n := bg l k + (fr l k).Light + p) (by omega) (by omega), maxB, Option.bind_some, Option.bind_some, Option.bind_some, w64_id (n := (fr l k).Light + (fr l k).Dark) (by omega) (by omega),
          show bg l k + ((fr l k).Light + (fr l k).Dark) = bg l (k + 1) from rfl, w64_id (n := bg l (k + 1)) (by omega) (by omega), show max (un l p k) (bg l k + (fr l k).Light + p) = un l p (k + 1) from rfl, w64_id (n := bg l (k + 1) - un l p (k + 1)) (by omega) (by omega), maxB, Option.bind_some, show gp l p k + max 0 (bg l (k + 1) - un l p (k + 1)) = gp l p (k + 1) from rfl, w64_id (n := gp l p (k + 1)) (by omega) (by omega), w64_id (by omega) (by omega)]
        rfl
      · simp only; rw [if_neg (by omega)]
    · simp only [hv, hp, decide_true, decide_false, if_true, l16Persist_eq, Option.bind_some, Bool.false_eq_true, if_false]
  · simp only [hv, decide_false, Bool.false_eq_true, if_false]
/-- what is seen at most -/
def blur (l : List GFrame) (p : Int) : Int := mx (fun k => cnt l p (bg l k)) l.length
theorem blur_rng (l : List GFrame) (p : Int) : 0 ≤ blur l p ∧ blur l p ≤ l.length := ⟨mx_nonneg _ _, mx_le (by omega) fun i _ => (cnt_rng l p _).2⟩
/-- the frame that shows at ms -/
theorem frame_at {l : List GFrame} (hl : vf l) {ms : Int} (h0 : 0 ≤ ms) : ∀ n, n ≤ l.length → ms < bg l n → ∃ j, j < n ∧ bg l j ≤ ms ∧ ms < bg l (j + 1)
  | 0, _, h => by simp [bg] at h; omega
  | n + 1, hn, h => by
    by_cases h1 : ms < bg l n
    · obtain ⟨j, h2, h3⟩ := frame_at hl h0 n (by omega) h1
      exact ⟨j, by omega, h3⟩
    · exact ⟨n, by omega, by omega, h⟩
theorem cnt_blur {l : List GFrame} (hl : vf l) {p ms : Int} (h0 : 0 ≤ ms) (h : ms ≤ bg l l.length) : cnt l p ms ≤ blur l p := by
  rcases Nat.eq_zero_or_pos l.length with hz | hz
  · have := cnt_rng l p ms
    have := blur_rng l p
    omega
  · by_cases h1 : ms < bg l l.length
    · obtain ⟨j, h2, h3, h4⟩ := frame_at hl h0 l.length (Nat.le_refl _) h1
      exact Int.le_trans (cnt_le hl h3 (fun _ => h4) h2) (le_mx (f := fun k => cnt l p (bg l k)) h2)
    · have hb := bg_mono hl (j := l.length - 1) (k := l.length) (by omega) (Nat.le_refl _)
      exact Int.le_trans (cnt_le hl (j := l.length - 1) (by omega) (fun hh => by omega) (by omega)) (le_mx (f := fun k => cnt l p (bg l k)) (by omega))
theorem BlurOf_eq {l : List GFrame} {p : Int} (hl : l.length ≤ 1000000) : impl_BlurOf l p = some (if vf l then (if 0 ≤ p ∧ p ≤ 500 then (blur l p, 0) else (0, 2)) else (0, 1)) := by
  unfold impl_BlurOf
  rw [framesCode_eq hl, Option.bind_some]
  by_cases hv : vf l
  · by_cases hp : 0 ≤ p ∧ p ≤ 500
    · simp only [hv, hp, and_self, if_true]
      rw [begins_eq hv, Option.bind_some]
      refine eq_of_wp ?_
      have h60 := hv.1
      refine wp_cnt (fun k => (mx (fun k => cnt l p (bg l k)) k, (k : Int))) (l.length + 1) rfl (by omega) (fun k hk => ?_) (b := mx (fun k => cnt l p (bg l k)) (l.length + 1)) ?_ (wp_some ?_)
      · simp only [tab_length]
        rw [if_pos (by omega), at_bg (by omega), Option.bind_some, seenFrames_eq hv hp.1 hp.2, Option.bind_some, imax_def, w64_id (by omega) (by omega)]
        rfl
      · simp only [tab_length]; rw [if_neg (by omega)]
      · refine Prod.ext ?_ rfl
        show mx _ (l.length + 1) = blur l p
        rw [mx]
        have := cnt_blur hv (p := p) (ms := bg l l.length) (bg_big hv (Nat.le_refl _)).1 (Int.le_refl _)
        unfold blur at this ⊢
        omega
    · simp only [hv, hp, if_true, if_false]; rfl
  · simp only [hv, if_false]; rfl
theorem BlurOf_spec {l : List GFrame} {p : Int} (hl : l.length ≤ 1000000) : spec_BlurOf l p = some (if vf l then (if 0 ≤ p ∧ p ≤ 500 then (blur l p, 0) else (0, 2)) else (0, 1)) := by
  unfold spec_BlurOf
  rw [l16Ok_eq hl, Option.bind_some]
  by_cases hv : vf l
  · by_cases hp : 0 ≤ p ∧ p ≤ 500
    · simp only [hv, hp, and_self, decide_true, if_true, l16Persist_eq, Option.bind_some]
      refine eq_of_wp ?_
      have h60 := hv.1
      refine wp_cnt (fun k => (mx (fun k => cnt l p (bg l k)) k, bg l k, (k : Int))) l.length rfl (by omega) (fun k hk => ?_) (b := blur l p) ?_ (wp_some rfl)
      · have h1 := bg_big hv (k := k) (by omega)
        have h1' := bg_big hv (k := k + 1) (by omega)
        have h2 := fr_rng hv hk
        simp only
        rw [if_pos (by omega), l16Seen_eq hv hp.1 hp.2, Option.bind_some, maxB, Option.bind_some, at_fr hk, Option.bind_some, Option.bind_some, w64_id (n := (fr l k).Light + (fr l k).Dark) (by omega) (by omega), show bg l k + ((fr l k).Light + (fr l k).Dark) = bg l (k + 1) from rfl, w64_id (n := bg l (k + 1)) (by omega) (by omega), w64_id (by omega) (by omega)]
        rfl
      · simp only; rw [if_neg (by omega)]; rfl
    · simp only [hv, hp, decide_true, decide_false, if_true, l16Persist_eq, Option.bind_some, Bool.false_eq_true, if_false]
  · simp only [hv, decide_false, Bool.false_eq_true, if_false]
/-- all light -/
def lit (l : List GFrame) : Nat → Int
  | 0 => 0
  | k + 1 => lit l k + (fr l k).Light
theorem lit_bd {l : List GFrame} (hl : vf l) : ∀ k, k ≤ l.length → 0 ≤ lit l k ∧ lit l k ≤ 10000 * k
  | 0, _ => by simp [lit]
  | k + 1, h => by
    have h1 := lit_bd hl k (by omega)
    have h2 := fr_rng hl (k := k) (by omega)
    rw [lit]; omega
theorem litLoop {γ : Type} {R : Type} {l : List GFrame} (hl : vf l) {body : Int × Int → Option (Step (Int × Int) Int R)} {kb : Int → Option γ} {kr : R → Option γ} {Q : γ → Prop}
    (hb : ∀ s i, body (s, i) = if i < (l.length : Int) then ((at? l i).bind fun v1 => some (.next (w64 (s + v1.Light), w64 (i + 1)))) else some (.brk s)) (hq : wp (kb (lit l l.length)) Q) : wp (onL (loop body loopLim (0, 0)) kb kr) Q := by
  have h60 := hl.1
  refine wp_cnt (fun k => (lit l k, (k : Int))) l.length rfl (by omega) (fun k hk => ?_) (b := lit l l.length) ?_ hq
  · have h1 := lit_bd hl k (by omega)
    have h2 := fr_rng hl hk
    rw [hb, if_pos (by omega), at_fr hk, Option.bind_some, w64_id (n := lit l k + (fr l k).Light) (by omega) (by omega), w64_id (by omega) (by omega)]
    rfl
  · rw [hb, if_neg (by omega)]
theorem LightShare_same {l : List GFrame} (hl : l.length ≤ 1000000) : ∃ f e, impl_LightShare l = some (f, e) ∧ spec_LightShare l = some (f, e) ∧ (e = 0 → vf l ∧ 0 < l.length ∧ Red (lit l l.length) (bg l l.length) f) := by
  unfold impl_LightShare spec_LightShare
  rw [ValidFrames_eq hl, l16Ok_eq hl, Option.bind_some, Option.bind_some]
  by_cases hv : vf l
  · simp only [hv, decide_true, if_true]
    by_cases hz : (l.length : Int) = 0
    · simp only [hz, if_true]; exact ⟨_, _, rfl, rfl, fun h => by cases h⟩
    · simp only [hz, if_false]
      have h1 := bg_big hv (Nat.le_refl l.length)
      have h2 := lit_bd hv l.length (Nat.le_refl _)
      have h3 := bg_mono hv (j := 0) (k := l.length) (by omega) (Nat.le_refl _)
      have h60 := hv.1
      have hb0 : bg l 0 = 0 := rfl
      obtain ⟨f, f1, f2, f3⟩ := make_same (n := lit l l.length) (d := bg l l.length) (by omega) (by omega) (by omega)
      refine ⟨f, 0, ?_, ?_, fun _ => ⟨trivial, by omega, f3⟩⟩
      · refine eq_of_wp (litLoop hv (fun _ _ => rfl) ?_)
        rw [totalMillis_eq hv, Option.bind_some, f1]; exact wp_some rfl
      · refine eq_of_wp (litLoop hv (fun _ _ => rfl) ?_)
        rw [l16Total_eq hv, Option.bind_some, f2]; exact wp_some rfl
  · simp only [hv, decide_false, Bool.false_eq_true, if_false]; exact ⟨_, _, rfl, rfl, fun h => by cases h⟩
theorem TotalMillis_eq {l : List GFrame} (hl : l.length ≤ 1000000) : impl_TotalMillis l = some (if vf l then (bg l l.length, 0) else (0, 1)) := by
  unfold impl_TotalMillis
  rw [ValidFrames_eq hl, Option.bind_some]
  by_cases hv : vf l
  · simp only [hv, decide_true, if_true]; rw [totalMillis_eq hv]; rfl
  · simp only [hv, decide_false, Bool.false_eq_true, if_false]
theorem TotalMillis_spec {l : List GFrame} (hl : l.length ≤ 1000000) : spec_TotalMillis l = some (if vf l then (bg l l.length, 0) else (0, 1)) := by
  unfold spec_TotalMillis
  rw [l16Ok_eq hl, Option.bind_some]
  by_cases hv : vf l
  · simp only [hv, decide_true, if_true]; rw [l16Total_eq hv]; rfl
  · simp only [hv, decide_false, Bool.false_eq_true, if_false]
theorem SeenFrames_of {l : List GFrame} {p ms : Int} (hv : vf l) (hp : 0 ≤ p ∧ p ≤ 500) (hm : 0 ≤ ms ∧ ms ≤ 10000000) : impl_SeenFrames l p ms = some (sl (sn l p ms) l.length, 0) := by
  have h60 := hv.1
  unfold impl_SeenFrames
  rw [framesCode_eq (by omega), Option.bind_some]
  simp only [hv, hp, and_self, if_true, withinB, hm, decide_true, Option.bind_some, Bool.not_true, Bool.false_eq_true, if_false]
  rw [seenFrames_eq hv hp.1 hp.2]; rfl
/-- dark milliseconds before m -/
def dk (l : List GFrame) (p : Int) : Nat → Int
  | 0 => 0
  | m + 1 => dk l p m + if cnt l p m = 0 then 1 else 0
theorem dk_rng (l : List GFrame) (p : Int) : ∀ m, 0 ≤ dk l p m ∧ dk l p m ≤ m
  | 0 => by simp [dk]
  | m + 1 => by have := dk_rng l p m; rw [dk]; split <;> omega
theorem un_ge {l : List GFrame} {p : Int} : ∀ {k i : Nat}, i < k → bg l i + (fr l i).Light + p ≤ un l p k
  | k + 1, i, h => by
    rw [un]
    rcases Nat.lt_or_ge i k with h1 | h1
    · have := un_ge (l := l) (p := p) h1; omega
    · rw [show i = k by omega]; omega
theorem un_is {l : List GFrame} {p : Int} : ∀ {k : Nat}, 0 < k → ∃ i, i < k ∧ un l p k ≤ max 0 (bg l i + (fr l i).Light + p)
  | 1, _ => ⟨0, by omega, by simp [un]⟩
  | k + 2, _ => by
    obtain ⟨i, h1, h2⟩ := un_is (l := l) (p := p) (k := k + 1) (by omega)
    rw [un]
    by_cases h : un l p (k + 1) ≤ bg l (k + 1) + (fr l (k + 1)).Light + p
    · exact ⟨k + 1, by omega, by omega⟩
    · exact ⟨i, by omega, by omega⟩
/-- in frame k: something is seen just before the last light ends -/
theorem cnt_zero {l : List GFrame} (hl : vf l) {p ms : Int} (hp : 0 ≤ p) {k : Nat} (hk : k < l.length) (h1 : bg l k ≤ ms) (h2 : ms < bg l (k + 1)) : cnt l p ms = 0 ↔ un l p (k + 1) ≤ ms := by
  have hb0 := (bg_big hl (k := k) (by omega)).1
  unfold cnt
  constructor
  · intro h
    have h := (sl_nil (c := sn l p ms) (k := l.length)).1 (by omega)
    obtain ⟨i, hi, hu⟩ := un_is (l := l) (p := p) (k := k + 1) (by omega)
    have hs := h i (by omega)
    unfold sn at hs
    have hs := of_decide_eq_false hs
    have := bg_mono hl (j := i) (k := k) (by omega) (by omega)
    have h5 : ¬ (ms < bg l i + (fr l i).Light + p) := fun hh => hs ⟨by omega, hh⟩
    have := (bg_big hl (k := i) (by omega)).1
    have := (fr_rng hl (k := i) (by omega)).1
    omega
  · intro h
    have : (sl (sn l p ms) l.length).length = 0 := (sl_nil (c := sn l p ms) (k := l.length)).2 fun i hi => by
      unfold sn
      refine decide_eq_false fun hs => ?_
      rcases Nat.lt_or_ge i (k + 1) with h3 | h3
      · have := un_ge (l := l) (p := p) h3; omega
      · have := bg_mono hl (j := k + 1) (k := i) h3 (by omega); omega
    omega
theorem dk_in {l : List GFrame} (hl : vf l) {p : Int} (hp : 0 ≤ p) {k : Nat} (hk : k < l.length) (h0 : ∀ m : Nat, (m : Int) = bg l k → dk l p m = gp l p k) : ∀ m : Nat, bg l k ≤ m → (m : Int) ≤ bg l (k + 1) → dk l p m = gp l p k + max 0 (m - un l p (k + 1))
  | 0, h1, h2 => by
    have hb0 := (bg_big hl (k := k) (by omega)).1
    have := h0 0 (by omega)
    have hu := un_ge (l := l) (p := p) (i := k) (k := k + 1) (by omega)
    have := (fr_rng hl (k := k) (by omega)).1
    omega
  | m + 1, h1, h2 => by
    by_cases h3 : bg l k ≤ m
    · have ih := dk_in hl hp hk h0 m h3 (by omega)
      have hz := cnt_zero hl (p := p) (ms := (m : Int)) hp hk h3 (by omega)
      rw [dk, ih]
      by_cases h4 : un l p (k + 1) ≤ m
      · rw [if_pos (hz.2 h4)]; omega
      · rw [if_neg (fun hh => h4 (hz.1 hh))]; omega
    · have := h0 (m + 1) (by omega)
      have hu := un_ge (l := l) (p := p) (i := k) (k := k + 1) (by omega)
      have := (fr_rng hl (k := k) (by omega)).1
      omega
theorem dk_gp {l : List GFrame} (hl : vf l) {p : Int} (hp : 0 ≤ p) : ∀ k, k ≤ l.length → ∀ m : Nat, (m : Int) = bg l k → dk l p m = gp l p k
  | 0, _, m, h => by simp [bg] at h; subst h; rfl
  | k + 1, hk, m, h => by
    have := bg_mono hl (j := k) (k := k + 1) (by omega) hk
    rw [dk_in hl hp (k := k) (by omega) (dk_gp hl hp k (by omega)) m (by omega) (by omega), gp]; omega
end Go.Vs.G
