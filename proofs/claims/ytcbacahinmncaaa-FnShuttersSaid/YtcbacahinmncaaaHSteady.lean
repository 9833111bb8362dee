/- Steady light. No conditions. -/
import Derived.Test.YtcbacahinmncaaaHLight
namespace Go.Vs.G
open Go Go.Vs

theorem ite_val {α : Type} {p : Prop} [Decidable p] {A B v : α} (h1 : p → A = v) (h2 : ¬ p → B = v) : (if p then A else B) = v := by
  by_cases h : p
  · rw [if_pos h]; exact h1 h
  · rw [if_neg h]; exact h2 h
/-- fast enough -/
def stdy (m : Int) (f : GFraction) (l : Int) : Bool := decide (l * f.Den ≤ f.Num * m)
theorem steady_eq {m l : Int} {f : GFraction} (hm : 1 ≤ m) (hm2 : m ≤ 12) (hn : 1 ≤ f.Num) (hn2 : f.Num ≤ 1000) (hd : 1 ≤ f.Den) (hd2 : f.Den ≤ 1000) (hl : 1 ≤ l) (hl2 : l ≤ 200) : impl_steady m f l = some (stdy m f l) ∧ decide (w64 (f.Num * m) ≥ w64 (l * f.Den)) = stdy m f l := by
  have h1 := mul_bd (a := f.Num) (b := m) (A := 1000) (B := 12) (by omega) (by omega) (by omega) (by omega)
  have h2 := mul_bd (a := l) (b := f.Den) (A := 200) (B := 1000) (by omega) (by omega) (by omega) (by omega)
  unfold impl_steady
  rw [w64_id (n := f.Num * m) (by omega) (by omega), w64_id (n := l * f.Den) (by omega) (by omega)]
  exact ⟨rfl, rfl⟩
def rateOk (f : GFraction) : Prop := f.valid ∧ 1 ≤ f.Num ∧ f.Num ≤ 1000 ∧ f.Den ≤ 1000
theorem isRate_eq (f : GFraction) : impl_isRate f = some (decide (1 ≤ f.Num ∧ f.Num ≤ 1000 ∧ f.Den ≤ 1000)) := by
  unfold impl_isRate
  rw [within_eqR, Option.bind_some]
  by_cases h1 : 1 ≤ f.Num ∧ f.Num ≤ 1000
  · by_cases h2 : f.Den ≤ 1000 <;> simp [h1, h2]
  · have : ¬ (1 ≤ f.Num ∧ f.Num ≤ 1000 ∧ f.Den ≤ 1000) := by omega
    simp [h1, this]
theorem l09Rate_eq {f : GFraction} (hv : f.valid) : spec_l09Rate f = some (decide (1 ≤ f.Num ∧ f.Num ≤ 1000 ∧ f.Den ≤ 1000)) := by
  unfold spec_l09Rate
  obtain ⟨b, h1, h2⟩ := l02Ok_eq f
  rw [h1, Option.bind_some, h2.2 hv, if_pos rfl, l00In_eqB, Option.bind_some]
  by_cases h1 : 1 ≤ f.Num ∧ f.Num ≤ 1000
  · by_cases h2 : f.Den ≤ 1000 <;> simp [h1, h2]
  · have : ¬ (1 ≤ f.Num ∧ f.Num ≤ 1000 ∧ f.Den ≤ 1000) := by omega
    simp [h1, this]
theorem rateCode_eq (r : Bool) (f : GFraction) (l : Int) : ∃ c, impl_rateCode r f l = some c ∧ (c = 0 ↔ r = true ∧ rateOk f ∧ 1 ≤ l ∧ l ≤ 200) ∧ (c = 1 ↔ ¬ (r = true ∧ f.valid)) ∧ (c = 0 ∨ c = 1 ∨ c = 2) := by
  unfold impl_rateCode rateOk
  obtain ⟨u, g1, g2⟩ := ValidFraction_eq f
  rw [g1, isRate_eq, within_eqR]
  simp only [Option.bind_some]
  cases r with
  | false => exact ⟨1, rfl, by simp, by simp, by simp⟩
  | true =>
    cases u with
    | false =>
      have hv : ¬ f.valid := fun h => by have := g2.2 h; cases this
      exact ⟨1, rfl, by simp [hv], by simp [hv], by simp⟩
    | true =>
      have hv := g2.1 rfl
      simp only [if_true, Bool.not_true, Option.bind_some, Bool.false_eq_true, if_false, decide_eq_true_eq]
      by_cases h1 : 1 ≤ f.Num ∧ f.Num ≤ 1000 ∧ f.Den ≤ 1000
      · by_cases h2 : 1 ≤ l ∧ l ≤ 200
        · exact ⟨0, by simp [h1, h2], by simp [hv, h1, h2], by simp [hv], by simp⟩
        · exact ⟨2, by simp [h1, h2], by simp [hv, h1, h2], by simp [hv], by simp⟩
      · refine ⟨2, by simp [h1], ?_, by simp [hv], by simp⟩
        constructor
        · intro h; cases h
        · rintro ⟨_, ⟨_, h⟩, _⟩; exact absurd h h1
theorem l09Code_eq (b : GBlades) (f : GFraction) : ∃ c, spec_l09Code b f = some c ∧ (c = 0 ↔ b.good ∧ rateOk f) ∧ (c = 1 ↔ ¬ (b.good ∧ f.valid)) ∧ (c = 0 ∨ c = 1 ∨ c = 2) := by
  unfold spec_l09Code rateOk
  obtain ⟨q, f1, f2⟩ := l09Ok_eq b
  obtain ⟨v, k1, k2⟩ := l02Ok_eq f
  rw [f1, k1]
  simp only [Option.bind_some]
  cases q with
  | false =>
    have hg : ¬ b.good := fun h => by have := f2.2 h; cases this
    exact ⟨1, rfl, by simp [hg], by simp [hg], by simp⟩
  | true =>
    have hg := f2.1 rfl
    cases v with
    | false =>
      have hv : ¬ f.valid := fun h => by have := k2.2 h; cases this
      exact ⟨1, rfl, by simp [hv], by simp [hv], by simp⟩
    | true =>
      have hv := k2.1 rfl
      simp only [if_true, Bool.not_true, Option.bind_some, Bool.false_eq_true, if_false, l09Rate_eq hv, decide_eq_true_eq]
      by_cases h1 : 1 ≤ f.Num ∧ f.Num ≤ 1000 ∧ f.Den ≤ 1000
      · exact ⟨0, by simp [h1], by simp [hv, hg, h1], by simp [hv, hg], by simp⟩
      · refine ⟨2, by simp [h1], ?_, by simp [hv, hg], by simp⟩
        constructor
        · intro h; cases h
        · rintro ⟨_, _, h⟩; exact absurd h h1
theorem l09Least_eq (n : Int) : spec_l09Least n = some (decide (1 ≤ n ∧ n ≤ 200)) := by
  unfold spec_l09Least; rw [l00In_eqB]; rfl
theorem valid_same (b : GBlades) : ∃ r, impl_ValidBlades b = some r ∧ spec_l09Ok b = some r ∧ spec_ValidBlades b = some r ∧ (r = true ↔ b.good) := by
  obtain ⟨r, e1, e2⟩ := ValidBlades_eq b
  obtain ⟨q, f1, f2⟩ := l09Ok_eq b
  obtain rfl : r = q := by rw [Bool.eq_iff_iff, e2, f2]
  refine ⟨r, e1, f1, ?_, e2⟩
  unfold spec_ValidBlades; rw [f1]; rfl

theorem IsSteady_ok {b : GBlades} {f : GFraction} {l : Int} (hb : b.good) (hf : rateOk f) (h1 : 1 ≤ l) (h2 : l ≤ 200) : impl_IsSteady b f l = some (stdy b.Many f l, 0) := by
  unfold impl_IsSteady
  obtain ⟨r, e1, _, _, e2⟩ := valid_same b
  obtain ⟨c, c1, c2, _, _⟩ := rateCode_eq r f l
  obtain rfl := c2.2 ⟨e2.2 hb, hf, h1, h2⟩
  rw [e1, Option.bind_some, c1, Option.bind_some, if_pos rfl]
  obtain ⟨hv, n1, n2, n3⟩ := hf
  rw [(steady_eq hb.1 hb.2.1 n1 n2 hv.1 n3 h1 h2).1]; rfl
theorem IsSteady_same (b : GBlades) (f : GFraction) (l : Int) : ∃ v c, impl_IsSteady b f l = some (v, c) ∧ spec_IsSteady b f l = some (v, c) ∧ (c = 0 → b.good ∧ rateOk f ∧ 1 ≤ l ∧ l ≤ 200 ∧ v = stdy b.Many f l) := by
  unfold impl_IsSteady spec_IsSteady
  obtain ⟨r, e1, _, _, e2⟩ := valid_same b
  obtain ⟨c, c1, c2, c3, c4⟩ := rateCode_eq r f l
  obtain ⟨d, d1, d2, d3, d4⟩ := l09Code_eq b f
  rw [e2] at c2 c3
  rw [e1, Option.bind_some, c1, Option.bind_some, d1, Option.bind_some, l09Least_eq]
  have hcode : ((if d = 0 then ((some (decide (1 ≤ l ∧ l ≤ 200))).bind fun r2 => some (!r2)) else some false : Option Bool).bind fun x1 => ((if x1 then some 2 else some d) : Option Int)) = some c := by
    rcases d4 with rfl | rfl | rfl
    · have hg := d2.1 rfl
      by_cases hl : 1 ≤ l ∧ l ≤ 200
      · have := c2.2 ⟨hg.1, hg.2, hl⟩; simp [hl, this]
      · have h0 : c ≠ 0 := fun h => hl (c2.1 h).2.2
        have h1 : c ≠ 1 := fun h => (c3.1 h) ⟨hg.1, hg.2.1⟩
        have : c = 2 := by omega
        simp [hl, this]
    · have := c3.2 (d3.1 rfl); simp [this]
    · have h0 : c ≠ 0 := fun h => by have := d2.2 ⟨(c2.1 h).1, (c2.1 h).2.1⟩; omega
      have h1 : c ≠ 1 := fun h => by have := d3.2 (c3.1 h); omega
      have : c = 2 := by omega
      simp [this]
  have hsw : ∀ (A : Option Bool) (k : Bool → Option Int) (k2 : Int → Option (Bool × Int)), (A.bind fun x1 => (k x1).bind k2) = (A.bind k).bind k2 := by
    intro A k k2; cases A <;> rfl
  rw [hsw, hcode, Option.bind_some]
  split
  · rename_i h
    obtain ⟨hg, hr, hl1, hl2⟩ := c2.1 h
    obtain ⟨hv, n1, n2, n3⟩ := id hr
    obtain ⟨s1, s2⟩ := steady_eq hg.1 hg.2.1 n1 n2 hv.1 n3 hl1 hl2
    rw [s1, s2]
    exact ⟨_, 0, rfl, rfl, fun _ => ⟨hg, hr, hl1, hl2, rfl⟩⟩
  · exact ⟨_, c, rfl, rfl, fun h => by contradiction⟩

theorem FewestBlades_same (f : GFraction) (l : Int) : ∃ v c, impl_FewestBlades f l = some (v, c) ∧ spec_FewestBlades f l = some (v, c) ∧ (c = 0 → rateOk f ∧ 1 ≤ l ∧ l ≤ 200 ∧ 1 ≤ v ∧ v ≤ 12 ∧ 1000 % v = 0 ∧ stdy v f l = true) := by
  unfold impl_FewestBlades spec_FewestBlades
  obtain ⟨c, c1, c2, c3, c4⟩ := rateCode_eq true f l
  obtain ⟨q, k1, k2⟩ := l02Ok_eq f
  rw [c1, k1, Option.bind_some, Option.bind_some]
  by_cases hv : f.valid
  · have hq : q = true := k2.2 hv
    rw [hq, if_pos rfl, l09Rate_eq hv, l09Least_eq]
    have h1 : c ≠ 1 := fun h => (c3.1 h) ⟨rfl, hv⟩
    by_cases hr : 1 ≤ f.Num ∧ f.Num ≤ 1000 ∧ f.Den ≤ 1000
    · by_cases hl : 1 ≤ l ∧ l ≤ 200
      · have h0 := c2.2 ⟨rfl, ⟨hv, hr⟩, hl⟩
        rw [if_pos h0]
        rw [decide_eq_true hr, decide_eq_true hl]
        simp only [if_true, Option.bind_some, Bool.not_true, Bool.false_eq_true, if_false]
        obtain ⟨n1, n2, n3⟩ := hr
        have hd1 := hv.1
        have key : ∀ (body : Int → Option (Step Int Unit (Int × Int))), (∀ m, 1 ≤ m → m ≤ 12 → body m = some (if 1000 % m = 0 ∧ stdy m f l = true then .ret (m, 0) else .next (m + 1))) → body 13 = some (.brk ()) →
            ∃ v c, onL (loop body loopLim 1) (fun (_ : Unit) => some (0, 3)) (fun r => some r) = some (v, c) ∧ (∀ (body' : Int → Option (Step Int Unit (Int × Int))), (∀ m, 1 ≤ m → m ≤ 12 → body' m = some (if 1000 % m = 0 ∧ stdy m f l = true then .ret (m, 0) else .next (m + 1))) → body' 13 = some (.brk ()) → onL (loop body' loopLim 1) (fun (_ : Unit) => some (0, 3)) (fun r => some r) = some (v, c)) ∧ (c = 0 → 1 ≤ v ∧ v ≤ 12 ∧ 1000 % v = 0 ∧ stdy v f l = true) := by
          intro body hb he
          by_cases hex : ∃ k : Nat, k < 12 ∧ (1000 % ((k : Int) + 1) = 0 ∧ stdy ((k : Int) + 1) f l = true)
          · have hleast : ∃ k : Nat, (k < 12 ∧ (1000 % ((k : Int) + 1) = 0 ∧ stdy ((k : Int) + 1) f l = true)) ∧ ∀ j, j < k → ¬ (1000 % ((j : Int) + 1) = 0 ∧ stdy ((j : Int) + 1) f l = true) := by
              obtain ⟨k, hk⟩ := hex
              induction k using Nat.strongRecOn with
              | _ k ih =>
                by_cases hall : ∀ j, j < k → ¬ (1000 % ((j : Int) + 1) = 0 ∧ stdy ((j : Int) + 1) f l = true)
                · exact ⟨k, hk, hall⟩
                · have : ∃ j, j < k ∧ (1000 % ((j : Int) + 1) = 0 ∧ stdy ((j : Int) + 1) f l = true) := by
                    refine Classical.byContradiction fun hc => hall fun j hj hh => hc ⟨j, hj, hh⟩
                  obtain ⟨j, h1, h2⟩ := this
                  exact ih j h1 ⟨by omega, h2⟩
            obtain ⟨k, ⟨hk, hk2⟩, hk3⟩ := hleast
            have run : ∀ (body : Int → Option (Step Int Unit (Int × Int))), (∀ m, 1 ≤ m → m ≤ 12 → body m = some (if 1000 % m = 0 ∧ stdy m f l = true then .ret (m, 0) else .next (m + 1))) → onL (loop body loopLim 1) (fun (_ : Unit) => some (0, 3)) (fun r => some r) = some ((k : Int) + 1, (0 : Int)) := by
              intro body hb
              have := loop_ret' (body := body) (fun j => (j : Int) + 1) (r := ((k : Int) + 1, (0 : Int))) k (by omega) (fun j hj => by
                rw [hb _ (by omega) (by omega), if_neg (hk3 j hj)]; rfl) (by rw [hb _ (by omega) (by omega), if_pos hk2])
              have e0 : (((0 : Nat) : Int) + 1) = 1 := rfl
              rw [e0] at this
              rw [this, onL_ret]
            exact ⟨_, _, run body hb, fun body' hb' _ => run body' hb', fun _ => ⟨by omega, by omega, hk2.1, hk2.2⟩⟩
          · have run : ∀ (body : Int → Option (Step Int Unit (Int × Int))), (∀ m, 1 ≤ m → m ≤ 12 → body m = some (if 1000 % m = 0 ∧ stdy m f l = true then .ret (m, 0) else .next (m + 1))) → body 13 = some (.brk ()) → onL (loop body loopLim 1) (fun (_ : Unit) => some (0, 3)) (fun r => some r) = some ((0 : Int), (3 : Int)) := by
              intro body hb he
              have := loop_brk (body := body) (fun j => (j : Int) + 1) (b := ()) 12 (by omega) (fun j hj => by
                rw [hb _ (by omega) (by omega), if_neg (fun h => hex ⟨j, hj, h⟩)]; rfl) (by rw [show (((12 : Nat) : Int) + 1) = 13 from rfl]; exact he)
              have e0 : (((0 : Nat) : Int) + 1) = 1 := rfl
              rw [e0] at this
              rw [this, onL_brk]
            exact ⟨_, _, run body hb he, fun body' hb' he' => run body' hb' he', fun h => by cases h⟩
        have hbody1 : ∀ m : Int, 1 ≤ m → m ≤ 12 → (fun (many1 : Int) => if many1 ≤ 12 then ((((mod? 1000 many1).bind fun q1 => if q1 = 0 then ((impl_steady many1 f l).bind fun r2 => some r2) else some false) : Option Bool).bind fun (x1 : Bool) =>
            if x1 then (some (.ret (many1, 0))) else some (.next (w64 (many1 + 1)))) else some (.brk ()) : Int → Option (Step Int Unit (Int × Int))) m = some (if 1000 % m = 0 ∧ stdy m f l = true then .ret (m, 0) else .next (m + 1)) := by
          intro m m1 m2
          obtain ⟨s1, s2⟩ := steady_eq m1 m2 n1 n2 hd1 n3 hl.1 hl.2
          simp only
          rw [if_pos m2, mod_ok (by omega), Option.bind_some, Int.tmod_eq_emod_of_nonneg (by omega), s1, w64_id (by omega) (by omega)]
          by_cases e1 : 1000 % m = 0 <;> cases stdy m f l <;> simp [e1]
        have hbody2 : ∀ m : Int, 1 ≤ m → m ≤ 12 → (fun (n1 : Int) => if n1 ≤ 12 then ((((mod? 1000 n1).bind fun q1 => if q1 = 0 then (some (decide ((w64 (f.Num * n1)) ≥ (w64 (l * f.Den))))) else some false) : Option Bool).bind fun (x2 : Bool) =>
            if x2 then (some (.ret (n1, 0))) else some (.next (w64 (n1 + 1)))) else some (.brk ()) : Int → Option (Step Int Unit (Int × Int))) m = some (if 1000 % m = 0 ∧ stdy m f l = true then .ret (m, 0) else .next (m + 1)) := by
          intro m m1 m2
          obtain ⟨s1, s2⟩ := steady_eq m1 m2 n1 n2 hd1 n3 hl.1 hl.2
          simp only
          rw [if_pos m2, mod_ok (by omega), Option.bind_some, Int.tmod_eq_emod_of_nonneg (by omega), s2, w64_id (by omega) (by omega)]
          by_cases e1 : 1000 % m = 0 <;> cases stdy m f l <;> simp [e1]
        obtain ⟨v, cc, r1, r2, r3⟩ := key _ hbody1 rfl
        exact ⟨v, cc, r1, r2 _ hbody2 rfl, fun h => ⟨⟨hv, n1, n2, n3⟩, hl.1, hl.2, r3 h⟩⟩
      · have h0 : c ≠ 0 := fun h => hl (c2.1 h).2.2
        have : c = 2 := by omega
        subst this
        refine ⟨0, 2, rfl, ?_, fun h => by cases h⟩
        simp [hr, hl]
    · have h0 : c ≠ 0 := fun h => hr (c2.1 h).2.1.2
      have : c = 2 := by omega
      subst this
      refine ⟨0, 2, rfl, ?_, fun h => by cases h⟩
      simp only [Option.bind_some, hr, decide_false, Bool.false_eq_true, if_false, if_true]
  · have hq : q = false := by cases q with
      | false => rfl
      | true => exact absurd (k2.1 rfl) hv
    have := c3.2 (fun h => hv h.2)
    subst this
    rw [hq]
    exact ⟨0, 1, rfl, rfl, fun h => by cases h⟩
theorem SlowestSteady_same (b : GBlades) (l : Int) : ∃ f c, impl_SlowestSteady b l = some (f, c) ∧ spec_SlowestSteady b l = some (f, c) ∧ (c = 0 → b.good ∧ 1 ≤ l ∧ l ≤ 200 ∧ Red l b.Many f) := by
  unfold impl_SlowestSteady spec_SlowestSteady
  obtain ⟨r, e1, f1, _, e2⟩ := valid_same b
  rw [e1, f1, Option.bind_some, Option.bind_some]
  split
  · rename_i h
    have hg := e2.1 h
    rw [within_eqR, l09Least_eq, Option.bind_some, Option.bind_some]
    split
    · rename_i h2
      simp only [decide_eq_true_eq] at h2
      obtain ⟨f, g1, g2, g3⟩ := make_same (n := l) (d := b.Many) (by have := hg.1; omega) (by omega) (by have := hg.2.1; omega)
      rw [g1, g2]
      exact ⟨f, 0, rfl, rfl, fun _ => ⟨hg, h2.1, h2.2, g3⟩⟩
    · exact ⟨_, _, rfl, rfl, fun h => by cases h⟩
  · exact ⟨_, _, rfl, rfl, fun h => by cases h⟩
theorem FlickerRate_same (b : GBlades) (f : GFraction) : ∃ g c, impl_FlickerRate b f = some (g, c) ∧ spec_FlickerRate b f = some (g, c) ∧ (b.good → rateOk f → Red (f.Num * b.Many) f.Den g) := by
  unfold impl_FlickerRate spec_FlickerRate
  obtain ⟨r, c, e1, e2, e3, e4⟩ := codes_same b f
  obtain ⟨d, d1, d2, _⟩ := l09Code_eq b f
  rw [e1, Option.bind_some, e2, e3, Option.bind_some, Option.bind_some]
  obtain rfl : d = c := by rw [d1] at e3; exact Option.some.inj e3
  split
  · rename_i h
    obtain ⟨⟨h1, h2, h3, h4, h5, h6⟩, hv, n1, n2, n3⟩ := e4 h
    have hd1 := hv.1
    have hb := mul_bd (a := f.Num) (b := b.Many) (A := 1000) (B := 12) (by omega) (by omega) (by omega) (by omega)
    rw [w64_id (by omega) (by omega)]
    obtain ⟨g, g1, g2, g3⟩ := make_same (n := f.Num * b.Many) (d := f.Den) (by omega) (by omega) (by omega)
    rw [g1, g2]
    exact ⟨g, 0, rfl, rfl, fun _ _ => g3⟩
  · rename_i h
    exact ⟨_, d, rfl, rfl, fun hg hr => absurd (d2.2 ⟨hg, hr⟩) h⟩
theorem OpenParts_same (b : GBlades) (f t : Int) : ∃ v c, impl_OpenParts b f t = some (v, c) ∧ spec_OpenParts b f t = some (v, c) ∧ (c = 0 → b.good ∧ 0 ≤ f ∧ f ≤ t ∧ t ≤ 1000 ∧ v = (count (fun i => b.isOpen ((i : Int) + f)) (t - f).toNat : Int)) := by
  obtain ⟨r, e1, f1, _, e2⟩ := valid_same b
  by_cases hg : b.good
  · by_cases hr : 0 ≤ f ∧ f ≤ t ∧ t ≤ 1000
    · refine ⟨_, _, OpenParts_ok hg hr.1 hr.2.1 hr.2.2, ?_, fun _ => ⟨hg, hr.1, hr.2.1, hr.2.2, rfl⟩⟩
      unfold spec_OpenParts
      rw [f1, Option.bind_some, e2.2 hg, if_pos rfl, l00In_eqB, l00In_eqB, Option.bind_some, decide_eq_true (by omega), if_pos rfl, Option.bind_some, decide_eq_true (by omega), Option.bind_some]
      simp only [Bool.not_true, Bool.false_eq_true, if_false]
      refine openLoop hr.1 hr.2.1 hr.2.2 (fun m i hm0 hm hi hi2 => ?_) (fun m => by simp)
      simp only
      rw [if_pos hi2, l09Open_eq hg (by omega), Option.bind_some, w64_id (n := i + 1) (by omega) (by omega), w64_id (n := m + 1) (by omega) (by omega)]
      split <;> rfl
    · refine ⟨0, 2, ?_, ?_, fun h => by cases h⟩
      · unfold impl_OpenParts
        rw [e1, Option.bind_some, e2.2 hg, if_pos rfl]
        have : (if 0 ≤ f then (if f ≤ t then some (!decide (t ≤ 1000)) else some true) else some true : Option Bool) = some true := by
          split
          · split
            · rw [decide_eq_false (by omega)]; rfl
            · rfl
          · rfl
        rw [this]; rfl
      · unfold spec_OpenParts
        rw [f1, Option.bind_some, e2.2 hg, if_pos rfl, l00In_eqB, l00In_eqB, Option.bind_some, Option.bind_some]
        have : (if decide (0 ≤ f ∧ f ≤ 1000) = true then some (!decide (f ≤ t ∧ t ≤ 1000)) else some true : Option Bool) = some true := by
          split
          · rename_i h; simp only [decide_eq_true_eq] at h; rw [decide_eq_false (by omega)]; rfl
          · rfl
        rw [this]; rfl
  · refine ⟨0, 1, ?_, ?_, fun h => by cases h⟩
    · unfold impl_OpenParts
      have : r = false := by cases r with
        | false => rfl
        | true => exact absurd (e2.1 rfl) hg
      rw [e1, Option.bind_some, this]; rfl
    · unfold spec_OpenParts
      have : r = false := by cases r with
        | false => rfl
        | true => exact absurd (e2.1 rfl) hg
      rw [f1, Option.bind_some, this]; rfl
theorem IsOpenAt_ok {b : GBlades} (hb : b.good) {p : Int} (h0 : 0 ≤ p) (h1 : p ≤ 999) : impl_IsOpenAt b p = some (b.isOpen p, 0) := by
  unfold impl_IsOpenAt
  obtain ⟨r, e1, e2⟩ := ValidBlades_eq b
  rw [e1, Option.bind_some, e2.2 hb, if_pos rfl, within_eqR, Option.bind_some, decide_eq_true ⟨h0, h1⟩, if_pos rfl, impl_isOpen_eq hb h0]
  rfl

theorem l09DrawLeast_ok {B : Int} {s : GL00Src} (h : SrcOk B s) (hB : B ≤ 4611686018427360000) : ∃ v s', spec_l09DrawLeast s = some (v, s') ∧ SrcOk (B + 4) s' := by
  unfold spec_l09DrawLeast
  obtain ⟨v, s1, e1, k1⟩ := one_ok h (by omega) 10
  rw [e1, Option.bind_some]
  simp only
  split
  · obtain ⟨z, s4, e4, hz, k4⟩ := among_ok k1 (by omega) (l := [(-1), 0, 1, 200, 201, (-9223372036854775808)]) (by simp) (by simp)
    rw [e4]; exact ⟨_, _, rfl, k4.mono (by omega)⟩
  · obtain ⟨z, s4, e4, z0, z1, k4⟩ := pick_ok k1 (by omega) 60
    rw [e4]; exact ⟨_, _, rfl, k4.mono (by omega)⟩
theorem DrawOpenParts_ok {code : List Int} (hc : okL (okI .u8) code) (hl : code.length ≤ 1000000) : ∃ b f t, spec_DrawOpenParts code = some (b, f, t) := by
  unfold spec_DrawOpenParts
  obtain ⟨b, s1, e1, k1⟩ := l09Draw_ok (srcOk_from hc hl) (by omega)
  obtain ⟨y, s3, e3, y0, y1, k3⟩ := l09Part_ok k1 (by omega)
  obtain ⟨v, s4, e4, k4⟩ := one_ok k3 (by omega) 8
  rw [l00From_eq, Option.bind_some, e1, Option.bind_some, e3, Option.bind_some, e4, Option.bind_some]
  simp only
  split
  · obtain ⟨z, s5, e5, _, _, k5⟩ := l09Part_ok k4 (by omega)
    rw [e5]; exact ⟨_, _, _, rfl⟩
  · obtain ⟨z, s5, e5, z0, z1, k5⟩ := pick_ok k4 (by omega) 300
    rw [e5, Option.bind_some]
    unfold spec_l00Min
    split <;> exact ⟨_, _, _, rfl⟩

theorem laws_FnSteady_true {code : List Int} (hc : okL (okI .u8) code) : laws_FnSteady code = some true := by
  unfold laws_FnSteady laws_f6big
  rw [Option.bind_some]
  refine ite_val (fun _ => rfl) (fun hl => ?_)
  · simp only [decide_eq_true_eq] at hl
    have h0 := srcOk_from hc (by omega)
    obtain ⟨a, s1, e1, k1⟩ := l09Draw_ok h0 (by omega)
    obtain ⟨q, s2, e2, k2⟩ := l09DrawRate_ok k1 (by omega)
    obtain ⟨l, s3, e3, k3⟩ := l09DrawLeast_ok k2 (by omega)
    obtain ⟨q', s2', e2', k2'⟩ := l09DrawRate_ok h0 (by omega)
    obtain ⟨l', s3', e3', k3'⟩ := l09DrawLeast_ok k2' (by omega)
    obtain ⟨l'', s3'', e3'', k3''⟩ := l09DrawLeast_ok k1 (by omega)
    obtain ⟨b, f, t, d4⟩ := DrawOpenParts_ok hc (by omega)
    have d1 : spec_DrawIsSteady code = some (a, q, l) := by
      unfold spec_DrawIsSteady; simp only [l00From_eq, e1, e2, e3, Option.bind_some]
    have d2 : spec_DrawFewestBlades code = some (q', l') := by
      unfold spec_DrawFewestBlades; simp only [l00From_eq, e2', e3', Option.bind_some]
    have d3 : spec_DrawSlowestSteady code = some (a, l'') := by
      unfold spec_DrawSlowestSteady; simp only [l00From_eq, e1, e3'', Option.bind_some]
    obtain ⟨v1, c1, a1, b1, p1⟩ := IsSteady_same a q l
    obtain ⟨v2, c2, a2, b2, p2⟩ := FewestBlades_same q' l'
    obtain ⟨v3, c3, a3, b3, p3⟩ := SlowestSteady_same a l''
    obtain ⟨v4, c4, a4, b4, p4⟩ := OpenParts_same b f t
    obtain ⟨v5, c5, a5, b5, p5⟩ := FlickerRate_same a q
    obtain ⟨v6, a6, _, b6, _⟩ := valid_same a
    simp (maxSteps := 2000000) only [d1, d2, d3, d4, a1, b1, a2, b2, a3, b3, a4, b4, a5, b5, a6, b6, Option.bind_some, if_true, fr_beqL, decide_true, beq_self_eq_true, Bool.not_true, Bool.false_eq_true, if_false]
    have hA : (if c1 = 0 then some (!(v1 == decide (v5.Num ≥ w64 (l * v5.Den)))) else some false : Option Bool) = some false := by
      split
      · rename_i h
        obtain ⟨hg, hr, l1, l2, rfl⟩ := p1 h
        have hR := p5 hg hr
        obtain ⟨hv, n1, n2, n3⟩ := hr
        obtain ⟨g1, g2, _⟩ := hg
        have d1 := hv.1
        have x1 := hR.pos
        have x2 := hR.den_le (by omega)
        have he := hR.eq
        have hb := mul_bd (a := l) (b := v5.Den) (A := 200) (B := 1000) (by omega) (by omega) (by omega) (by omega)
        rw [w64_id (by omega) (by omega)]
        have : stdy a.Many q l = decide (v5.Num ≥ l * v5.Den) := by
          unfold stdy
          rw [decide_eq_decide]
          constructor
          · intro h
            refine Int.le_of_mul_le_mul_right (a := q.Den) ?_ (by omega)
            rw [he]
            calc l * v5.Den * q.Den = (l * q.Den) * v5.Den := by simp only [Int.mul_assoc, Int.mul_comm, Int.mul_left_comm]
              _ ≤ (q.Num * a.Many) * v5.Den := Int.mul_le_mul_of_nonneg_right h (by omega)
          · intro h
            refine Int.le_of_mul_le_mul_right (a := v5.Den) ?_ (by omega)
            rw [← he]
            calc l * q.Den * v5.Den = (l * v5.Den) * q.Den := by simp only [Int.mul_assoc, Int.mul_comm, Int.mul_left_comm]
              _ ≤ v5.Num * q.Den := Int.mul_le_mul_of_nonneg_right h (by omega)
        rw [this]; simp
      · rfl
    rw [hA]
    simp only [Option.bind_some, Bool.false_eq_true, if_false]
    have hB : (if c2 = 0 then (impl_IsSteady (GBlades.mk v2 v2) q' l').bind fun r18 => if r18.2 = 0 then (if r18.1 then some (.next ()) else some (.ret false)) else some (.ret false) else some (.next ()) : Option (Step Unit Empty Bool)) = some (.next ()) := by
      split
      · rename_i h
        obtain ⟨hr, l1, l2, m1, m2, m3, m4⟩ := p2 h
        rw [IsSteady_ok (b := GBlades.mk v2 v2) ⟨m1, m2, m3, m1, by simp only; omega, Int.emod_self⟩ hr l1 l2]
        simp only [Option.bind_some, if_true, m4]
      · rfl
    rw [hB, onS_next]
    have hC : ∀ x3 : Bool, (if c3 = 0 then (if l'' ≤ 200 then some (decide (v3.Num ≤ 1000)) else some false) else some false : Option Bool) = some x3 →
       (if x3 then (impl_IsSteady a v3 l'').bind fun r19 => if r19.2 = 0 then (if r19.1 then some (.next ()) else some (.ret false)) else some (.ret false) else some (.next ()) : Option (Step Unit Empty Bool)) = some (.next ()) := by
      intro x3 hx
      cases x3 with
      | false => rfl
      | true =>
        split at hx
        · rename_i h
          obtain ⟨hg, l1, l2, hR⟩ := p3 h
          rw [if_pos l2] at hx
          simp at hx
          have m1 := hg.1
          have m2 := hg.2.1
          have x1 := hR.pos
          have x2 := hR.den_le (by omega)
          have x3 := hR.num_le (by omega)
          have he := hR.eq
          have xn : 1 ≤ v3.Num := by
            have : 0 < v3.Num * a.Many := by rw [he]; exact Int.mul_pos (by omega) (by omega)
            have := Int.pos_of_mul_pos_left this (by omega)
            omega
          rw [IsSteady_ok hg ⟨⟨by omega, by omega, by omega, by omega, hR.cop⟩, xn, by omega, by omega⟩ l1 l2]
          have : stdy a.Many v3 l'' = true := by unfold stdy; rw [decide_eq_true_eq, he]; omega
          simp only [Option.bind_some, if_true, this]
        · simp at hx
    generalize hX : (if c3 = 0 then (if l'' ≤ 200 then some (decide (v3.Num ≤ 1000)) else some false) else some false : Option Bool) = X at hC
    have hsome : ∃ x3, X = some x3 := by
      rw [← hX]; split
      · split <;> exact ⟨_, rfl⟩
      · exact ⟨_, rfl⟩
    obtain ⟨x3, rfl⟩ := hsome
    rw [Option.bind_some, hC x3 rfl, onS_next]
    split
    · rename_i h
      obtain ⟨hg, f0, ft, t1, rfl⟩ := p4 h
      refine (openLoop (b := b) f0 ft t1 (fun m i hm0 hm hi hi2 => ?_) (fun m => ?_)).trans ?_
      · simp only
        rw [if_pos hi2, IsOpenAt_ok hg (by omega) (by omega), Option.bind_some, w64_id (n := i + 1) (by omega) (by omega), w64_id (n := m + 1) (by omega) (by omega), if_pos rfl]
        split <;> rfl
      · simp
      · simp only [decide_true]
    · rfl
end Go.Vs.G
