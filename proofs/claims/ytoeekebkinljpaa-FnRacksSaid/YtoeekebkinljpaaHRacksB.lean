/- Racks: wanted places. FnRacks. No conditions. -/
import Derived.Test.YtoeekebkinljpaaHRacks
namespace Go.Vs.G
open Go Go.Vs

theorem pl_mod {w : GWheel} {t t' : Int} (h : t % w.Teeth = t' % w.Teeth) : pl w t = pl w t' := by unfold pl; rw [h]
theorem pl_inj {w : GWheel} {t t' : Int} (hT : 1 ≤ w.Teeth) (h : pl w t = pl w t') : t % w.Teeth = t' % w.Teeth := by
  rw [pl_alt hT, pl_alt hT] at h
  have m0 := Int.emod_nonneg t (b := w.Teeth) (by omega)
  have m1 := Int.emod_lt_of_pos t (b := w.Teeth) (by omega)
  have n0 := Int.emod_nonneg t' (b := w.Teeth) (by omega)
  have n1 := Int.emod_lt_of_pos t' (b := w.Teeth) (by omega)
  split at h <;> split at h
  · omega
  · rename_i h1 h2
    have : ¬ t' % w.Teeth > 0 := fun hh => h2 ⟨h1.1, hh⟩
    omega
  · rename_i h1 h2
    have : ¬ t % w.Teeth > 0 := fun hh => h1 ⟨h2.1, hh⟩
    omega
  · exact h
theorem pl_dvd {w : GWheel} {t t' : Int} (h : w.Teeth ∣ t - t') : pl w t = pl w t' := pl_mod (Int.emod_eq_emod_iff_emod_sub_eq_zero.2 (Int.emod_eq_zero_of_dvd h))
theorem pl_dvd' {w : GWheel} {t t' : Int} (hT : 1 ≤ w.Teeth) (h : pl w t = pl w t') : w.Teeth ∣ t - t' := Int.dvd_of_emod_eq_zero (Int.emod_eq_emod_iff_emod_sub_eq_zero.1 (pl_inj hT h))

def wn (ws : List Int) (i : Nat) : Int := ws.getD i 0
theorem at_wn {l : List Int} {i : Nat} (h : i < l.length) : at? l (i : Int) = some (wn l i) := by
  unfold wn; rw [at_of h, List.getD_eq_getElem?_getD, List.getElem?_eq_getElem h]; rfl
/-- the first of the tries -/
def Fnd (w : GWheel) (v f : Int) (a k : Nat) : Prop := (k : Int) < w.Teeth ∧ pl w (f + k * a) = v ∧ ∀ j : Nat, j < k → pl w (f + j * a) ≠ v
def NoF (w : GWheel) (v f : Int) (a : Nat) : Prop := ∀ j : Nat, (j : Int) < w.Teeth → pl w (f + j * a) ≠ v
theorem Fnd.unique {w : GWheel} {v f : Int} {a k k' : Nat} (h : Fnd w v f a k) (h' : Fnd w v f a k') : k = k' := by
  rcases Nat.lt_trichotomy k k' with hh | hh | hh
  · exact absurd h.2.1 (h'.2.2 k hh)
  · exact hh
  · exact absurd h'.2.1 (h.2.2 k' hh)
theorem Fnd.not {w : GWheel} {v f : Int} {a k : Nat} (h : Fnd w v f a k) (h' : NoF w v f a) : False := h' k h.1 h.2.1
theorem fnd_of {w : GWheel} {v f : Int} {a : Nat} : ∀ k : Nat, (k : Int) < w.Teeth → pl w (f + k * a) = v → ∃ m, m ≤ k ∧ Fnd w v f a m := by
  intro k
  induction k using Nat.strongRecOn with
  | _ k ih =>
    intro hk hp
    by_cases h : ∀ j : Nat, j < k → pl w (f + j * a) ≠ v
    · exact ⟨k, Nat.le_refl _, hk, hp, h⟩
    · have : ∃ j : Nat, j < k ∧ pl w (f + j * a) = v := by
        refine Classical.byContradiction fun hc => h fun j hj he => hc ⟨j, hj, he⟩
      obtain ⟨j, hj, he⟩ := this
      obtain ⟨m, hm, hF⟩ := ih j hj (by omega) he
      exact ⟨m, by omega, hF⟩
/-- the first place at which the first wheels are as wanted -/
inductive Crt (l : List GWheel) (ws : List Int) : Nat → Int → Prop
  | zero : Crt l ws 0 0
  | succ {i : Nat} {f : Int} {k : Nat} (h : Crt l ws i f) (hk : Fnd (wv l i) (wn ws i) f (lc l i) k) : Crt l ws (i + 1) (f + k * lc l i)
theorem Crt.unique {l : List GWheel} {ws : List Int} : ∀ {i : Nat} {f f' : Int}, Crt l ws i f → Crt l ws i f' → f = f'
  | 0, _, _, .zero, .zero => rfl
  | i + 1, _, _, .succ h hk, .succ h' hk' => by
    obtain rfl := Crt.unique h h'
    obtain rfl := hk.unique hk'
    rfl
theorem Crt.down {l : List GWheel} {ws : List Int} : ∀ {j i : Nat} {f : Int}, Crt l ws j f → i ≤ j → ∃ g, Crt l ws i g
  | 0, i, _, h, hi => by rw [show i = 0 by omega]; exact ⟨_, h⟩
  | j + 1, i, _, .succ (f := f) (k := k) h hk, hi => by
    rcases Nat.lt_or_ge i (j + 1) with h1 | h1
    · exact h.down (by omega)
    · rw [show i = j + 1 by omega]; exact ⟨_, .succ h hk⟩
theorem Crt.stop {l : List GWheel} {ws : List Int} {i j : Nat} {f : Int} (h : Crt l ws i f) (hn : NoF (wv l i) (wn ws i) f (lc l i)) (hj : i < j) : ¬ ∃ g, Crt l ws j g := by
  rintro ⟨g, hg⟩
  obtain ⟨g', hg'⟩ := hg.down (show i + 1 ≤ j by omega)
  cases hg' with
  | succ h' hk =>
    obtain rfl := Crt.unique h h'
    exact hk.not hn
theorem teeth_dvdI {c : Int} {l : List GWheel} (hl : wok c l) {j k : Nat} (h : j < k) (hk : k ≤ l.length) : (wv l j).Teeth ∣ (lc l k : Int) := by
  have hr := wv_rng hl (i := j) (by omega)
  have := Int.natCast_dvd_natCast.2 (teeth_dvd (l := l) h)
  rwa [Int.toNat_of_nonneg (by omega)] at this
theorem Crt.ok {c : Int} {l : List GWheel} (hl : wok c l) {ws : List Int} : ∀ {i : Nat} {f : Int}, Crt l ws i f → i ≤ l.length → 0 ≤ f ∧ f < lc l i ∧ ∀ j, j < i → pl (wv l j) f = wn ws j
  | 0, _, .zero, _ => ⟨by omega, by simp [lc], fun j hj => by omega⟩
  | i + 1, _, .succ (f := f) (k := k) h hk, hi => by
    obtain ⟨h1, h2, h3⟩ := h.ok hl (by omega)
    have hr := wv_rng hl (i := i) (by omega)
    have hp := lc_pos hl i (by omega)
    have hka : 0 ≤ (k : Int) * lc l i := Int.mul_nonneg (by omega) (by omega)
    refine ⟨by omega, ?_, fun j hj => ?_⟩
    · -- the tries repeat themselves
      have hT : 0 < (wv l i).Teeth.toNat := by omega
      have e := lcm_eq (wv l i).Teeth.toNat (lc l i) hT
      rw [Nat.lcm_comm] at e
      change lc l (i + 1) = _ at e
      have hdv : (wv l i).Teeth ∣ (lc l (i + 1) : Int) := teeth_dvdI hl (by omega) hi
      generalize (wv l i).Teeth.toNat / Nat.gcd (wv l i).Teeth.toNat (lc l i) = P at e
      have hkP : k < P := by
        refine Classical.byContradiction fun hc => ?_
        have hge : P ≤ k := by omega
        rcases Nat.eq_zero_or_pos P with h0 | h0
        · rw [h0, Nat.zero_mul] at e
          have := lc_pos hl (i + 1) hi
          omega
        · refine hk.2.2 (k - P) (by omega) ?_
          rw [← hk.2.1]
          refine pl_dvd ?_
          have : f + ((k - P : Nat) : Int) * lc l i - (f + (k : Int) * lc l i) = -(lc l (i + 1) : Int) := by
            rw [e, Int.natCast_mul, Int.natCast_sub hge, Int.sub_mul]; omega
          rw [this]
          exact (Int.dvd_neg).2 hdv
      have h5 := Int.mul_le_mul_of_nonneg_right (a := (k : Int) + 1) (b := (P : Int)) (c := (lc l i : Int)) (by omega) (by omega)
      rw [Int.add_mul, Int.one_mul] at h5
      rw [e, Int.natCast_mul]
      omega
    · rcases Nat.lt_or_ge j i with h5 | h5
      · rw [← h3 j h5]
        refine pl_dvd ?_
        rw [show f + (k : Int) * lc l i - f = (k : Int) * lc l i by omega]
        exact Int.dvd_mul_of_dvd_right (teeth_dvdI hl h5 (by omega))
      · rw [show j = i by omega]; exact hk.2.1
/-- if there is a place at all, it is found -/
theorem Crt.all {c : Int} {l : List GWheel} (hl : wok c l) {ws : List Int} {t : Int} : ∀ i : Nat, i ≤ l.length → (∀ j, j < i → pl (wv l j) t = wn ws j) → ∃ f, Crt l ws i f ∧ (lc l i : Int) ∣ t - f
  | 0, _, _ => ⟨0, .zero, by simp [lc]⟩
  | i + 1, hi, hall => by
    obtain ⟨f, h1, h2⟩ := Crt.all hl i (by omega) (fun j hj => hall j (by omega))
    have hr := wv_rng hl (i := i) (by omega)
    have hp := lc_pos hl i (by omega)
    obtain ⟨m, hm⟩ := h2
    -- a try with the same place
    have q0 := Int.emod_nonneg m (b := (wv l i).Teeth) (by omega)
    have q1 := Int.emod_lt_of_pos m (b := (wv l i).Teeth) (by omega)
    have e1 := Int.emod_add_mul_ediv m (wv l i).Teeth
    have hpl : pl (wv l i) (f + ((m % (wv l i).Teeth).toNat : Int) * lc l i) = wn ws i := by
      rw [← hall i (by omega)]
      refine pl_dvd ?_
      rw [Int.toNat_of_nonneg q0]
      have : f + m % (wv l i).Teeth * (lc l i : Int) - t = (wv l i).Teeth * (-(m / (wv l i).Teeth) * lc l i) := by
        have hm' : m * (lc l i : Int) = m % (wv l i).Teeth * lc l i + (wv l i).Teeth * (m / (wv l i).Teeth) * lc l i := by rw [← Int.add_mul, e1]
        have hmc : (lc l i : Int) * m = m * lc l i := Int.mul_comm ..
        rw [Int.neg_mul, Int.mul_neg, ← Int.mul_assoc]
        omega
      rw [this]; exact Int.dvd_mul_right ..
    obtain ⟨k, _, hk⟩ := fnd_of _ (by omega) hpl
    refine ⟨_, .succ h1 hk, ?_⟩
    have d1 : (wv l i).Teeth ∣ t - (f + (k : Int) * lc l i) := pl_dvd' (by omega) (by rw [hk.2.1]; exact hall i (by omega))
    have d2 : (lc l i : Int) ∣ t - (f + (k : Int) * lc l i) := by
      rw [show t - (f + (k : Int) * lc l i) = (t - f) - (k : Int) * lc l i by omega, hm]
      exact Int.dvd_sub (Int.dvd_mul_right ..) (Int.dvd_mul_left ..)
    rw [Int.ofNat_dvd_left]
    refine Nat.lcm_dvd ?_ ?_
    · exact Int.ofNat_dvd_left.1 d2
    · refine Int.ofNat_dvd_left.1 ?_
      rw [Int.toNat_of_nonneg (by omega)]; exact d1
end Go.Vs.G
