/- Blades of a wheel of light: open parts, offsets. No conditions. -/
import Derived.Test.YtcbacahinmncaaaHSrc
namespace Go.Vs.G
open Go Go.Vs

def GBlades.good (b : GBlades) : Prop := 1 ≤ b.Many ∧ b.Many ≤ 12 ∧ 1000 % b.Many = 0 ∧ 1 ≤ b.Open ∧ b.Open ≤ 999 ∧ b.Open % b.Many = 0
def GBlades.isOpen (b : GBlades) (part : Int) : Bool := decide (part % (1000 / b.Many) < b.Open / b.Many)

theorem within_eqB (n a b : Int) : impl_within n a b = some (decide (a ≤ n ∧ n ≤ b)) := by
  unfold impl_within; split <;> simp <;> omega
theorem l00In_eqB (n a b : Int) : spec_l00In n a b = some (decide (a ≤ n ∧ n ≤ b)) := by
  unfold spec_l00In; split <;> simp <;> omega
theorem ValidBlades_eq (b : GBlades) : ∃ r, impl_ValidBlades b = some r ∧ (r = true ↔ b.good) := by
  unfold impl_ValidBlades GBlades.good
  simp only [within_eqB, Option.bind_some, decide_eq_true_eq]
  split
  · rename_i h
    rw [mod_ok (by omega), Option.bind_some, Int.tmod_eq_emod_of_nonneg (by omega)]
    split
    · split
      · rw [mod_ok (by omega), Option.bind_some, Int.tmod_eq_emod_of_nonneg (by omega)]
        exact ⟨_, rfl, by simp; omega⟩
      · exact ⟨_, rfl, by simp; omega⟩
    · exact ⟨_, rfl, by simp; omega⟩
  · exact ⟨_, rfl, by simp; omega⟩
theorem l09Ok_eq (b : GBlades) : ∃ r, spec_l09Ok b = some r ∧ (r = true ↔ b.good) := by
  unfold spec_l09Ok GBlades.good
  simp only [l00In_eqB, Option.bind_some, decide_eq_true_eq]
  split
  · rename_i h
    split
    · rw [mod_ok (by omega), Option.bind_some, Int.tmod_eq_emod_of_nonneg (by omega)]
      split
      · rw [mod_ok (by omega), Option.bind_some, Int.tmod_eq_emod_of_nonneg (by omega)]
        exact ⟨_, rfl, by simp; omega⟩
      · exact ⟨_, rfl, by simp; omega⟩
    · exact ⟨_, rfl, by simp; omega⟩
  · exact ⟨_, rfl, by simp; omega⟩
theorem wrapped {n : Int} (h0 : -9223372036854775808 ≤ n) (h1 : n ≤ 9223372036854775807) : IntKind.wrap .i64 n = n := w64_id h0 h1
theorem period_pos {b : GBlades} (hb : b.good) : 0 < 1000 / b.Many := by
  obtain ⟨h1, h2, h3, _⟩ := hb
  exact Int.ediv_pos_of_pos_of_dvd (by omega) (by omega) (Int.dvd_of_emod_eq_zero h3)
theorem period_dvd {b : GBlades} (hb : b.good) : 1000 / b.Many ∣ 1000 := by
  obtain ⟨h1, h2, h3, _⟩ := hb
  exact ⟨b.Many, (Int.ediv_mul_cancel (Int.dvd_of_emod_eq_zero h3)).symm⟩
theorem isOpen_mod {b : GBlades} (hb : b.good) (p : Int) : b.isOpen (p % 1000) = b.isOpen p := by
  unfold GBlades.isOpen
  rw [Int.emod_emod_of_dvd _ (period_dvd hb)]
theorem impl_isOpen_eq {b : GBlades} (hb : b.good) {p : Int} (h0 : 0 ≤ p) : impl_Blades_isOpen b p = some (b.isOpen p) := by
  have hp := period_pos hb
  obtain ⟨h1, h2, h3, h4, h5, h6⟩ := hb
  unfold impl_Blades_isOpen GBlades.isOpen
  have e1 : (1000 : Int) / b.Many ≤ 1000 := Int.ediv_le_self _ (by omega)
  have e2 : b.Open / b.Many ≤ b.Open := Int.ediv_le_self _ (by omega)
  have e3 : 0 ≤ b.Open / b.Many := Int.ediv_nonneg (by omega) (by omega)
  rw [div_ok (by omega), Option.bind_some, Int.tdiv_eq_ediv_of_nonneg (by omega), wrapped (by omega) (by omega), mod_ok (by omega), Option.bind_some, div_ok (by omega), Option.bind_some, Int.tdiv_eq_ediv_of_nonneg (by omega), wrapped (by omega) (by omega), Int.tmod_eq_emod_of_nonneg h0]
theorem l09Open_eq {b : GBlades} (hb : b.good) {p : Int} (h0 : 0 ≤ p) : spec_l09Open b p = some (b.isOpen p) := by
  have hp := period_pos hb
  obtain ⟨h1, h2, h3, h4, h5, h6⟩ := hb
  unfold spec_l09Open GBlades.isOpen
  have e1 : (1000 : Int) / b.Many ≤ 1000 := Int.ediv_le_self _ (by omega)
  have e2 : b.Open / b.Many ≤ b.Open := Int.ediv_le_self _ (by omega)
  have e3 : 0 ≤ b.Open / b.Many := Int.ediv_nonneg (by omega) (by omega)
  rw [div_ok (by omega), Option.bind_some, Int.tdiv_eq_ediv_of_nonneg (by omega), wrapped (by omega) (by omega), mod_ok (by omega), Option.bind_some, div_ok (by omega), Option.bind_some, Int.tdiv_eq_ediv_of_nonneg (by omega), wrapped (by omega) (by omega), Int.tmod_eq_emod_of_nonneg h0]

/-- how many of the first k parts satisfy c -/
def count (c : Nat → Bool) : Nat → Nat
  | 0 => 0
  | k + 1 => if c k = true then count c k + 1 else count c k
theorem count_le (c : Nat → Bool) : ∀ k, count c k ≤ k
  | 0 => Nat.le_refl _
  | k + 1 => by have := count_le c k; simp only [count]; split <;> omega
theorem countLoop {α : Type} {c : Nat → Bool} {n : Nat} (hn : n ≤ 1000000) {kb : Int → Option α} {kr : Empty → Option α} {body : Int × Int → Option (Step (Int × Int) Int Empty)} (hb : ∀ (m : Int) (i : Nat), 0 ≤ m → m ≤ i → i < n → body (m, (i : Int)) = some (.next (if c i = true then m + 1 else m, (i : Int) + 1)))
    (he : ∀ m, body (m, (n : Int)) = some (.brk m)) : onL (loop body loopLim (0, 0)) kb kr = kb (count c n) := by
  have := loop_brk (body := body) (fun j => ((count c j : Int), (j : Int))) (b := (count c n : Int)) n (by omega) (fun j hj => by
    have hbd := count_le c j
    rw [hb _ _ (by omega) (by omega) hj]
    simp only [count]
    split <;> simp) (he _)
  exact (congrArg (fun o => onL o kb kr) this)

/-- parts at which both are open -/
@[irreducible] def bothOpen (a b : GBlades) (by_ : Int) : Nat := count (fun i => a.isOpen i && b.isOpen ((i : Int) + by_)) 1000
theorem impl_bothOpen_eq {a b : GBlades} (ha : a.good) (hb : b.good) {y : Int} (h0 : 0 ≤ y) (h1 : y ≤ 1000) : impl_bothOpen a b y = some (bothOpen a b y : Int) := by
  unfold impl_bothOpen bothOpen
  refine countLoop (n := 1000) (by omega) (fun m i hm0 hm hi => ?_) (fun m => by simp)
  simp only
  rw [if_pos (show (i : Int) < 1000 by omega), impl_isOpen_eq ha (by omega), Option.bind_some, w64_id (n := (i : Int) + y) (by omega) (by omega), Int.tmod_eq_emod_of_nonneg (by omega), impl_isOpen_eq hb (Int.emod_nonneg _ (by omega)), isOpen_mod hb, w64_id (n := (i : Int) + 1) (by omega) (by omega), w64_id (n := m + 1) (by omega) (by omega)]
  cases a.isOpen i <;> cases b.isOpen ((i : Int) + y) <;> rfl
theorem l09Both_eq {a b : GBlades} (ha : a.good) (hb : b.good) {y : Int} (h0 : 0 ≤ y) (h1 : y ≤ 1000) : spec_l09Both a b y = some (bothOpen a b y : Int) := by
  unfold spec_l09Both bothOpen
  refine countLoop (n := 1000) (by omega) (fun m i hm0 hm hi => ?_) (fun m => by simp)
  simp only
  rw [if_pos (show (i : Int) < 1000 by omega), l09Open_eq ha (by omega), Option.bind_some, w64_id (n := (i : Int) + y) (by omega) (by omega), l09Open_eq hb (by omega), w64_id (n := (i : Int) + 1) (by omega) (by omega), w64_id (n := m + 1) (by omega) (by omega)]
  cases a.isOpen i <;> cases b.isOpen ((i : Int) + y) <;> rfl

/-- the best of the first k offsets, and how much light it passes -/
def bestOff (a b : GBlades) : Nat → Int × Int
  | 0 => (0, -1)
  | k + 1 => if (bothOpen a b k : Int) > (bestOff a b k).2 then ((k : Int), (bothOpen a b k : Int)) else bestOff a b k
theorem bestOff_ok (a b : GBlades) : ∀ k, 1 ≤ k → 0 ≤ (bestOff a b k).1 ∧ (bestOff a b k).1 < k ∧ (bestOff a b k).2 = bothOpen a b (bestOff a b k).1 ∧ (bothOpen a b 0 : Int) ≤ (bestOff a b k).2
  | 0, h => by omega
  | 1, _ => by
    have h : (-1 : Int) < (bothOpen a b 0 : Int) := by omega
    have e : bestOff a b 1 = (0, (bothOpen a b 0 : Int)) := if_pos h
    rw [e]; exact ⟨by simp, by simp, rfl, by simp⟩
  | k + 2, _ => by
    obtain ⟨h1, h2, h3, h4⟩ := bestOff_ok a b (k + 1) (by omega)
    rw [bestOff]
    split
    · exact ⟨by simp only; omega, by simp only; omega, rfl, by simp only; omega⟩
    · exact ⟨h1, by omega, h3, h4⟩
/-- of all offsets -/
@[irreducible] def lastOff (a b : GBlades) : Int × Int := bestOff a b 1000
theorem lastOff_eq (a b : GBlades) : lastOff a b = bestOff a b 1000 := by unfold lastOff; rfl
theorem offLoop {a b : GBlades} {N : Nat} (hN : N ≤ 1000000) {kb : Int × Int → Option (Int × Int × Int)} {kr : Empty → Option (Int × Int × Int)} {body : Int × Int × Int → Option (Step (Int × Int × Int) (Int × Int) Empty)}
    (hb : ∀ (best most : Int) (i : Nat), i < N → body (best, most, (i : Int)) = some (.next (if (bothOpen a b i : Int) > most then ((i : Int), (bothOpen a b i : Int), (i : Int) + 1) else (best, most, (i : Int) + 1)))) (he : ∀ best most, body (best, most, (N : Int)) = some (.brk (best, most))) :
    onL (loop body loopLim (0, -1, 0)) kb kr = kb (bestOff a b N) := by
  have := loop_brk (body := body) (fun j => ((bestOff a b j).1, (bestOff a b j).2, (j : Int))) (b := bestOff a b N) N (by omega) (fun j hj => by
    rw [hb _ _ _ hj, bestOff]
    split <;> rfl) (he _ _)
  have h0 : ((bestOff a b 0).1, (bestOff a b 0).2, ((0 : Nat) : Int)) = (0, -1, 0) := rfl
  rw [h0] at this
  rw [this, onL_brk]
theorem lastOff_ok (a b : GBlades) : ∃ u v, lastOff a b = (u, v) ∧ 0 ≤ u ∧ u ≤ 999 ∧ v = bothOpen a b u ∧ (bothOpen a b 0 : Int) ≤ v := by
  rw [lastOff_eq]
  obtain ⟨h1, h2, h3⟩ := bestOff_ok a b 1000 (by decide)
  generalize bestOff a b 1000 = o at h1 h2 h3
  obtain ⟨u, v⟩ := o
  have h4 : ∀ u : Int, u < ((1000 : Nat) : Int) → u ≤ 999 := by intro u h; omega
  exact ⟨u, v, rfl, h1, h4 _ h2, h3⟩
open Classical in
noncomputable def offsetOf (a b : GBlades) : Int × Int × Int := if a.good ∧ b.good then ((lastOff a b).1, (lastOff a b).2, 0) else (0, 0, 1)
theorem both_valid {f : GBlades → Option Bool} (hf : ∀ b, ∃ r, f b = some r ∧ (r = true ↔ b.good)) (a b : GBlades) : ∃ r, ((f a).bind fun r1 => if r1 then ((f b).bind fun r2 => some (!r2)) else some true) = some r ∧ (r = false ↔ a.good ∧ b.good) := by
  obtain ⟨r1, h1, g1⟩ := hf a
  obtain ⟨r2, h2, g2⟩ := hf b
  rw [h1, h2]
  cases r1 <;> cases r2 <;> simp_all
theorem impl_BestOffset_eq (a b : GBlades) : impl_BestOffset a b = some (offsetOf a b) := by
  unfold impl_BestOffset offsetOf
  obtain ⟨r, h1, h2⟩ := both_valid ValidBlades_eq a b
  rw [h1, Option.bind_some]
  cases r with
  | true => have : ¬ (a.good ∧ b.good) := fun h => by have := h2.2 h; cases this
            rw [if_neg this]; rfl
  | false =>
    have hg := h2.1 rfl
    rw [if_pos hg]
    simp only [Bool.false_eq_true, if_false]
    refine (offLoop (a := a) (b := b) (N := 1000) (by decide) (fun best most i hi => ?_) (fun _ _ => by simp)).trans (by rw [← lastOff_eq])
    simp only
    rw [if_pos (show (i : Int) < 1000 by omega), impl_bothOpen_eq hg.1 hg.2 (by omega) (by omega), Option.bind_some, w64_id (n := (i : Int) + 1) (by omega) (by omega)]
    split <;> rfl
theorem spec_BestOffset_eq (a b : GBlades) : spec_BestOffset a b = some (offsetOf a b) := by
  unfold spec_BestOffset offsetOf
  obtain ⟨r, h1, h2⟩ := both_valid l09Ok_eq a b
  rw [h1, Option.bind_some]
  cases r with
  | true => have : ¬ (a.good ∧ b.good) := fun h => by have := h2.2 h; cases this
            rw [if_neg this]; rfl
  | false =>
    have hg := h2.1 rfl
    rw [if_pos hg]
    simp only [Bool.false_eq_true, if_false]
    refine (offLoop (a := a) (b := b) (N := 1000) (by decide) (fun best most i hi => ?_) (fun _ _ => by simp)).trans (by rw [← lastOff_eq])
    simp only
    rw [if_pos (show (i : Int) < 1000 by omega), l09Both_eq hg.1 hg.2 (by omega) (by omega), Option.bind_some, w64_id (n := (i : Int) + 1) (by omega) (by omega)]
    split <;> rfl
theorem TwoWheels_eq {a b : GBlades} (ha : a.good) (hb : b.good) {y : Int} (h0 : 0 ≤ y) (h1 : y ≤ 999) : impl_TwoWheels a b y = some ((bothOpen a b y : Int), 0) := by
  unfold impl_TwoWheels
  obtain ⟨r, e1, e2⟩ := both_valid ValidBlades_eq a b
  rw [e1, Option.bind_some, e2.2 ⟨ha, hb⟩]
  simp only [Bool.false_eq_true, if_false, within_eqB, Option.bind_some, h0, h1, and_self, decide_true, if_true]
  rw [impl_bothOpen_eq ha hb h0 (by omega)]; rfl

theorem l09Draw_ok {B : Int} {s : GL00Src} (h : SrcOk B s) (hB : B ≤ 4611686018427380000) : ∃ b s', spec_l09Draw s = some (b, s') ∧ SrcOk (B + 8) s' := by
  unfold spec_l09Draw
  obtain ⟨v, s1, e1, v0, k1⟩ := among_ok h (by omega) (l := [1, 2, 2, 4, 5, 8, 10]) (by simp) (by simp)
  have hv : 1 ≤ v ∧ v ≤ 10 := by simp at v0; omega
  rw [e1, Option.bind_some]
  simp only
  rw [div_ok (by omega), Option.bind_some]
  obtain ⟨u, s2, e2, _, _, k2⟩ := pick_ok k1 (by omega) (w64 (IntKind.wrap .i64 ((1000 : Int).tdiv v) - 1))
  rw [e2, Option.bind_some]
  simp only
  obtain ⟨x, s3, e3, _, _, k3⟩ := pick_ok k2 (by omega) 16
  rw [e3, Option.bind_some]
  split
  · obtain ⟨z, s4, e4, _, k4⟩ := among_ok k3 (by omega) (l := [(-1), 0, 3, 12, 13, (-9223372036854775808)]) (by simp) (by simp)
    simp only
    rw [e4, Option.bind_some]
    exact ⟨_, _, rfl, k4.mono (by omega)⟩
  · split
    · obtain ⟨z, s4, e4, _, k4⟩ := among_ok k3 (by omega) (l := [(-1), 0, 1, 7, 999, 1000]) (by simp) (by simp)
      simp only
      rw [e4, Option.bind_some]
      exact ⟨_, _, rfl, k4.mono (by omega)⟩
    · exact ⟨_, _, rfl, k3.mono (by omega)⟩

theorem offsets_tail {o : Int × Int × Int} {tw : Int → Option (Int × Int)} (h : o.2.2 = 0 → tw o.1 = some (o.2.1, 0) ∧ ∃ z, tw 0 = some (z, 0) ∧ z ≤ o.2.1) :
    (((if o.2.2 = o.2.2 then (if o.1 = o.1 then (some (!(decide (o.2.1 = o.2.1)))) else some true) else some true) : Option Bool).bind fun (x1 : Bool) =>
      if x1 then (some false) else if o.2.2 = 0 then ((tw o.1).bind fun r5 => (tw 0).bind fun r6 => if r5.2 = 0 then (if r5.1 = o.2.1 then (if r6.2 = 0 then (some (decide (r6.1 ≤ o.2.1))) else some false) else some false) else some false) else some true) = some true := by
  simp only [if_true, decide_true, Bool.not_true, Option.bind_some, Bool.false_eq_true, if_false]
  split
  · rename_i hz
    obtain ⟨h1, z, h2, h3⟩ := h hz
    rw [h1, h2]
    simp [h3]
  · rfl
theorem tw_ok (a b : GBlades) : (offsetOf a b).2.2 = 0 → impl_TwoWheels a b (offsetOf a b).1 = some ((offsetOf a b).2.1, 0) ∧ ∃ z, impl_TwoWheels a b 0 = some (z, 0) ∧ z ≤ (offsetOf a b).2.1 := by
  unfold offsetOf
  split
  · rename_i hg
    intro _
    obtain ⟨u, v, g0, g1, g2, g3, g4⟩ := lastOff_ok a b
    have t1 := TwoWheels_eq hg.1 hg.2 g1 g2
    rw [← g3] at t1
    rw [g0]
    exact ⟨t1, _, TwoWheels_eq hg.1 hg.2 (y := 0) (by decide) (by decide), g4⟩
  · intro h; cases h
theorem laws_FnOffsets_true {code : List Int} (hc : okL (okI .u8) code) : laws_FnOffsets code = some true := by
  unfold laws_FnOffsets laws_f6big
  rw [Option.bind_some]
  split
  · rfl
  · rename_i hl
    simp only [decide_eq_true_eq] at hl
    unfold spec_DrawBestOffset
    rw [l00From_eq, Option.bind_some]
    obtain ⟨a, s1, e1, k1⟩ := l09Draw_ok (srcOk_from hc (by omega)) (by omega)
    rw [e1, Option.bind_some]
    simp only
    obtain ⟨b, s2, e2, k2⟩ := l09Draw_ok k1 (by omega)
    rw [e2, Option.bind_some, Option.bind_some]
    simp only
    rw [impl_BestOffset_eq, spec_BestOffset_eq, Option.bind_some, Option.bind_some]
    exact offsets_tail (tw_ok a b)
end Go.Vs.G
