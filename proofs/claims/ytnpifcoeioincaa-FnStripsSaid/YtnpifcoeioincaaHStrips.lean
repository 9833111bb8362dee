/- Drums: strips. No conditions. -/
import Derived.Test.YtnpifcoeioincaaHSteady
import Derived.Test.YtnpifcoeioincaaHDrift
namespace Go.Vs.G
open Go Go.Vs

def drumOk (d : GDrum) : Prop := (100 ≤ d.Round ∧ d.Round ≤ 10000) ∧ (20 ≤ d.High ∧ d.High ≤ 1000) ∧ 1 ≤ d.Slits ∧ d.Slits ≤ 48
instance (d : GDrum) : Decidable (drumOk d) := by unfold drumOk; exact inferInstance
theorem ValidDrum_eq (d : GDrum) : impl_ValidDrum d = some (decide (drumOk d)) := by
  unfold impl_ValidDrum
  simp only [within_eqR, Option.bind_some]
  by_cases h1 : 100 ≤ d.Round ∧ d.Round ≤ 10000
  · by_cases h2 : 20 ≤ d.High ∧ d.High ≤ 1000
    · by_cases h3 : 1 ≤ d.Slits ∧ d.Slits ≤ 48
      · rw [decide_eq_true h1, decide_eq_true h2, decide_eq_true h3, decide_eq_true (show drumOk d from ⟨h1, h2, h3⟩)]; rfl
      · rw [decide_eq_true h1, decide_eq_true h2, decide_eq_false h3, decide_eq_false (show ¬ drumOk d from fun h => h3 h.2.2)]; rfl
    · rw [decide_eq_true h1, decide_eq_false h2, decide_eq_false (show ¬ drumOk d from fun h => h2 h.2.1)]; rfl
  · rw [decide_eq_false h1, decide_eq_false (show ¬ drumOk d from fun h => h1 h.1)]; rfl
theorem l07Ok_eq (d : GDrum) : spec_l07Ok d = some (decide (drumOk d)) := by
  unfold spec_l07Ok
  simp only [l00In_eqB, Option.bind_some]
  by_cases h1 : 100 ≤ d.Round ∧ d.Round ≤ 10000
  · by_cases h2 : 20 ≤ d.High ∧ d.High ≤ 1000
    · by_cases h3 : 1 ≤ d.Slits ∧ d.Slits ≤ 48
      · rw [decide_eq_true h1, decide_eq_true h2, decide_eq_true h3, decide_eq_true (show drumOk d from ⟨h1, h2, h3⟩)]; rfl
      · rw [decide_eq_true h1, decide_eq_true h2, decide_eq_false h3, decide_eq_false (show ¬ drumOk d from fun h => h3 h.2.2)]; rfl
    · rw [decide_eq_true h1, decide_eq_false h2, decide_eq_false (show ¬ drumOk d from fun h => h2 h.2.1)]; rfl
  · rw [decide_eq_false h1, decide_eq_false (show ¬ drumOk d from fun h => h1 h.1)]; rfl
theorem halfHigh {d : GDrum} (h : drumOk d) : w64 (d.High.tdiv 2) = d.High / 2 := by
  obtain ⟨_, ⟨h1, h2⟩, _⟩ := h
  rw [Int.tdiv_eq_ediv_of_nonneg (by omega), w64_id (by omega) (by omega)]
theorem longOf {d : GDrum} {g : Int} (h : drumOk d) (h1 : 0 ≤ g) (h2 : g ≤ 100) : w64 (d.Round + g) = d.Round + g := by
  obtain ⟨⟨h3, h4⟩, _⟩ := h
  rw [w64_id (by omega) (by omega)]
theorem StripFor_same (d : GDrum) (g : Int) : ∃ u v e, impl_StripFor d g = some (u, v, e) ∧ spec_StripFor d g = some (u, v, e) ∧ (e = 0 ↔ drumOk d ∧ 0 ≤ g ∧ g ≤ 100) ∧ (e = 0 → u = d.Round + g ∧ v = d.High / 2) := by
  unfold impl_StripFor spec_StripFor spec_l07Glue
  rw [ValidDrum_eq, l07Ok_eq, within_eqR, l00In_eqB]
  simp only [Option.bind_some]
  by_cases h : drumOk d
  · by_cases h2 : 0 ≤ g ∧ g ≤ 100
    · rw [decide_eq_true h, decide_eq_true h2]
      refine ⟨_, _, 0, rfl, rfl, ⟨fun _ => ⟨h, h2⟩, fun _ => rfl⟩, fun _ => ⟨longOf h h2.1 h2.2, halfHigh h⟩⟩
    · rw [decide_eq_true h, decide_eq_false h2]
      refine ⟨_, _, 2, rfl, rfl, ⟨fun h => (by cases h), fun hh => absurd hh.2 h2⟩, fun h => by cases h⟩
  · rw [decide_eq_false h]
    refine ⟨_, _, 1, rfl, rfl, ⟨fun h => (by cases h), fun hh => absurd hh.1 h⟩, fun h => by cases h⟩
theorem div_mul_le4 {w h L H : Int} (hw : 0 ≤ w) (hh : 0 ≤ h) (hL : 0 < L) (hH : 0 < H) : w / L * (h / H) * L * H ≤ w * h := by
  have h1 : w / L * L ≤ w := Int.ediv_mul_le _ (by omega)
  have h2 : h / H * H ≤ h := Int.ediv_mul_le _ (by omega)
  have h3 : 0 ≤ w / L * L := Int.mul_nonneg (Int.ediv_nonneg hw (by omega)) (by omega)
  calc w / L * (h / H) * L * H = (w / L * L) * (h / H * H) := by simp only [Int.mul_assoc, Int.mul_comm, Int.mul_left_comm]
    _ ≤ (w / L * L) * h := Int.mul_le_mul_of_nonneg_left h2 h3
    _ ≤ w * h := Int.mul_le_mul_of_nonneg_right h1 hh
theorem divq {a b : Int} (ha : 0 ≤ a) (ha2 : a ≤ 10000) (hb : 0 < b) : div? .i64 a b = some (a / b) ∧ 0 ≤ a / b ∧ a / b ≤ a := by
  have h0 := Int.ediv_nonneg ha (show 0 ≤ b by omega)
  have h1 := Int.ediv_le_self b ha
  rw [div_ok (by omega), Int.tdiv_eq_ediv_of_nonneg ha]
  exact ⟨by rw [show IntKind.wrap .i64 (a / b) = a / b from w64_id (by omega) (by omega)], h0, h1⟩
theorem StripsFrom_same (d : GDrum) (g w h : Int) : ∃ u e, impl_StripsFrom d g w h = some (u, e) ∧ spec_StripsFrom d g w h = some (u, e) ∧ (e = 0 → drumOk d ∧ 0 ≤ g ∧ g ≤ 100 ∧ 1 ≤ w ∧ w ≤ 5000 ∧ 1 ≤ h ∧ h ≤ 5000 ∧ 0 ≤ u ∧ u * (d.Round + g) * (d.High / 2) ≤ w * h) := by
  unfold impl_StripsFrom spec_StripsFrom spec_l07Glue spec_l07Long spec_l07High
  rw [ValidDrum_eq, l07Ok_eq, within_eqR, l00In_eqB]
  simp only [Option.bind_some, within_eqR, l00In_eqB]
  by_cases hd : drumOk d
  · by_cases h2 : 0 ≤ g ∧ g ≤ 100
    · rw [decide_eq_true hd, decide_eq_true h2]
      by_cases h3 : 1 ≤ w ∧ w ≤ 5000
      · rw [decide_eq_true h3]
        by_cases h4 : 1 ≤ h ∧ h ≤ 5000
        · rw [decide_eq_true h4, halfHigh hd, longOf hd h2.1 h2.2]
          simp only [Option.bind_some, if_true, Bool.not_true, Bool.false_eq_true, if_false, l00Max_eq, imax_def]
          have hL : 100 ≤ d.Round + g := by have := hd.1; omega
          have hH : 10 ≤ d.High / 2 := by have := hd.2.1; omega
          generalize d.Round + g = L at *
          generalize d.High / 2 = H at *
          obtain ⟨q1, a1, b1⟩ := divq (a := w) (b := L) (by omega) (by omega) (by omega)
          obtain ⟨q2, a2, b2⟩ := divq (a := h) (b := H) (by omega) (by omega) (by omega)
          obtain ⟨q3, a3, b3⟩ := divq (a := h) (b := L) (by omega) (by omega) (by omega)
          obtain ⟨q4, a4, b4⟩ := divq (a := w) (b := H) (by omega) (by omega) (by omega)
          rw [q1, q2, q3, q4]
          simp only [Option.bind_some]
          have m1 := mul_bd (a := w / L) (b := h / H) (A := 5000) (B := 5000) (by omega) (by omega) (by omega) (by omega)
          have m2 := mul_bd (a := h / L) (b := w / H) (A := 5000) (B := 5000) (by omega) (by omega) (by omega) (by omega)
          have n1 : 0 ≤ w / L * (h / H) := Int.mul_nonneg a1 a2
          have n2 : 0 ≤ h / L * (w / H) := Int.mul_nonneg a3 a4
          rw [w64_id (n := w / L * (h / H)) (by omega) (by omega), w64_id (n := h / L * (w / H)) (by omega) (by omega)]
          refine ⟨_, 0, rfl, rfl, fun _ => ⟨hd, h2.1, h2.2, h3.1, h3.2, h4.1, h4.2, by omega, ?_⟩⟩
          have e1 := div_mul_le4 (w := w) (h := h) (L := L) (H := H) (by omega) (by omega) (by omega) (by omega)
          have e2 := div_mul_le4 (w := h) (h := w) (L := L) (H := H) (by omega) (by omega) (by omega) (by omega)
          rw [Int.mul_comm h w] at e2
          rcases Int.le_total (w / L * (h / H)) (h / L * (w / H)) with hm | hm
          · rw [Int.max_eq_right hm]; exact e2
          · rw [Int.max_eq_left hm]; exact e1
        · rw [decide_eq_false h4]
          exact ⟨_, 2, rfl, rfl, fun h => by cases h⟩
      · rw [decide_eq_false h3]
        exact ⟨_, 2, rfl, rfl, fun h => by cases h⟩
    · rw [decide_eq_true hd, decide_eq_false h2]
      exact ⟨_, 2, rfl, rfl, fun h => by cases h⟩
  · rw [decide_eq_false hd]
    exact ⟨_, 1, rfl, rfl, fun h => by cases h⟩
theorem l03Many_eq (n : Int) : spec_l03Many n = some (decide (1 ≤ n ∧ n ≤ 48)) := by
  unfold spec_l03Many; rw [l00In_eqB]; rfl
theorem WidestPicture_same (d : GDrum) (p g : Int) : ∃ u e, impl_WidestPicture d p g = some (u, e) ∧ spec_WidestPicture d p g = some (u, e) ∧ (e = 0 → drumOk d ∧ 1 ≤ p ∧ p ≤ 48 ∧ 0 ≤ g ∧ g ≤ 10000 ∧ u + g = d.Round / p) := by
  unfold impl_WidestPicture spec_WidestPicture spec_l07Many
  rw [ValidDrum_eq, l07Ok_eq]
  simp only [Option.bind_some, within_eqR, l00In_eqB, l03Many_eq]
  by_cases hd : drumOk d
  · rw [decide_eq_true hd]
    by_cases h2 : 1 ≤ p ∧ p ≤ 48
    · rw [decide_eq_true h2]
      by_cases h3 : 0 ≤ g ∧ g ≤ 10000
      · rw [decide_eq_true h3]
        have hr := hd.1
        obtain ⟨q1, a1, b1⟩ := divq (a := d.Round) (b := p) (by omega) (by omega) (by omega)
        rw [q1]
        simp only [Option.bind_some, if_true, Bool.not_true, Bool.false_eq_true, if_false]
        rw [w64_id (by omega) (by omega)]
        split
        · exact ⟨_, 5, rfl, rfl, fun h => by cases h⟩
        · exact ⟨_, 0, rfl, rfl, fun _ => ⟨hd, h2.1, h2.2, h3.1, h3.2, by omega⟩⟩
      · rw [decide_eq_false h3]
        exact ⟨_, 2, rfl, rfl, fun h => by cases h⟩
    · rw [decide_eq_false h2]
      exact ⟨_, 2, rfl, rfl, fun h => by cases h⟩
  · rw [decide_eq_false hd]
    exact ⟨_, 1, rfl, rfl, fun h => by cases h⟩

/- draws -/
theorem l07Bent_ok {B : Int} {s : GL00Src} (h : SrcOk B s) (hB : B ≤ 4611686018427360000) : ∃ d s', spec_l07Bent s = some (d, s') ∧ SrcOk (B + 10) s' := by
  unfold spec_l07Bent spec_l07New
  obtain ⟨a, s1, e1, _, _, k1⟩ := pick_ok h (by omega) 90
  rw [e1, Option.bind_some]
  simp only
  obtain ⟨b, s2, e2, _, _, k2⟩ := pick_ok k1 (by omega) 20
  rw [e2, Option.bind_some]
  simp only
  obtain ⟨c, s3, e3, _, _, k3⟩ := pick_ok k2 (by omega) 16
  rw [e3, Option.bind_some, Option.bind_some]
  simp only
  obtain ⟨x, s4, e4, _, _, k4⟩ := pick_ok k3 (by omega) 24
  rw [e4, Option.bind_some]
  simp only
  split
  · obtain ⟨z, s5, e5, _, k5⟩ := among_ok k4 (by omega) (l := [(-1), 99, 100, 10000, 10001, (-9223372036854775808)]) (by simp) (by simp)
    rw [e5]; exact ⟨_, _, rfl, k5.mono (by omega)⟩
  · split
    · obtain ⟨z, s5, e5, _, k5⟩ := among_ok k4 (by omega) (l := [(-1), 19, 20, 1000, 1001]) (by simp) (by simp)
      rw [e5]; exact ⟨_, _, rfl, k5.mono (by omega)⟩
    · split
      · obtain ⟨z, s5, e5, _, k5⟩ := among_ok k4 (by omega) (l := [(-1), 0, 1, 48, 49]) (by simp) (by simp)
        rw [e5]; exact ⟨_, _, rfl, k5.mono (by omega)⟩
      · exact ⟨_, _, rfl, k4.mono (by omega)⟩
theorem l07DrawGlue_ok {B : Int} {s : GL00Src} (h : SrcOk B s) (hB : B ≤ 4611686018427360000) : ∃ d s', spec_l07DrawGlue s = some (d, s') ∧ SrcOk (B + 4) s' := by
  unfold spec_l07DrawGlue
  obtain ⟨v, s1, e1, k1⟩ := one_ok h (by omega) 10
  rw [e1, Option.bind_some]
  simp only
  split
  · obtain ⟨z, s5, e5, _, k5⟩ := among_ok k1 (by omega) (l := [(-1), 0, 100, 101]) (by simp) (by simp)
    rw [e5]; exact ⟨_, _, rfl, k5.mono (by omega)⟩
  · obtain ⟨z, s5, e5, _, _, k5⟩ := pick_ok k1 (by omega) 30
    rw [e5]; exact ⟨_, _, rfl, k5.mono (by omega)⟩
theorem DrawStripFor_ok {code : List Int} (hc : okL (okI .u8) code) (hl : code.length ≤ 1000000) : ∃ d g, spec_DrawStripFor code = some (d, g) := by
  unfold spec_DrawStripFor
  obtain ⟨d, s1, e1, k1⟩ := l07Bent_ok (srcOk_from hc hl) (by omega)
  obtain ⟨g, s2, e2, k2⟩ := l07DrawGlue_ok k1 (by omega)
  rw [l00From_eq, Option.bind_some, e1, Option.bind_some]
  simp only
  rw [e2]; exact ⟨_, _, rfl⟩
theorem DrawStripsFrom_ok {code : List Int} (hc : okL (okI .u8) code) (hl : code.length ≤ 1000000) : ∃ d g w h, spec_DrawStripsFrom code = some (d, g, w, h) := by
  unfold spec_DrawStripsFrom
  obtain ⟨d, s1, e1, k1⟩ := l07Bent_ok (srcOk_from hc hl) (by omega)
  obtain ⟨g, s2, e2, k2⟩ := l07DrawGlue_ok k1 (by omega)
  obtain ⟨a, s3, e3, _, _, k3⟩ := pick_ok k2 (by omega) 300
  obtain ⟨v, s4, e4, k4⟩ := one_ok k3 (by omega) 10
  rw [l00From_eq, Option.bind_some, e1, Option.bind_some]
  simp only
  rw [e2, Option.bind_some]
  simp only
  rw [e3, Option.bind_some]
  simp only
  rw [e4, Option.bind_some]
  simp only
  have hw : ∃ s5 w, (if v = true then (spec_l00Src_among s4 [(-1), 0, 1, 5000, 5001]).bind fun r6 => some (r6.2, r6.1) else some (s4, w64 (200 + (w64 (10 * a))))) = some (s5, w) ∧ SrcOk (0 + 30) s5 := by
    split
    · obtain ⟨z, s5, e5, _, k5⟩ := among_ok k4 (by omega) (l := [(-1), 0, 1, 5000, 5001]) (by simp) (by simp)
      rw [e5]; exact ⟨_, _, rfl, k5.mono (by omega)⟩
    · exact ⟨_, _, rfl, k4.mono (by omega)⟩
  obtain ⟨s5, w, e5, k5⟩ := hw
  rw [e5, Option.bind_some]
  simp only
  obtain ⟨x, s6, e6, k6⟩ := one_ok k5 (by omega) 10
  rw [e6, Option.bind_some]
  simp only
  split
  · obtain ⟨z, s7, e7, _, k7⟩ := among_ok k6 (by omega) (l := [(-1), 0, 1, 5000, 5001]) (by simp) (by simp)
    rw [e7]; exact ⟨_, _, _, _, rfl⟩
  · obtain ⟨z, s7, e7, _, _, k7⟩ := pick_ok k6 (by omega) 100
    rw [e7]; exact ⟨_, _, _, _, rfl⟩
theorem DrawWidestPicture_ok {code : List Int} (hc : okL (okI .u8) code) (hl : code.length ≤ 1000000) : ∃ d p g, spec_DrawWidestPicture code = some (d, p, g) := by
  unfold spec_DrawWidestPicture spec_l07With
  obtain ⟨d, s1, e1, k1⟩ := l07Bent_ok (srcOk_from hc hl) (by omega)
  obtain ⟨v, s2, e2, k2⟩ := one_ok k1 (by omega) 8
  rw [l00From_eq, Option.bind_some, e1, Option.bind_some]
  simp only
  rw [e2, Option.bind_some]
  simp only
  have hw : ∃ p, (if v = true then (spec_l00Src_among s2 [(-1), 0, 1, 48, 49]).bind fun r4 => some (d, r4.1) else (spec_l00Src_pick s2 20).bind fun r5 => some (d, w64 (1 + r5.1))) = some (d, p) := by
    split
    · obtain ⟨z, s5, e5, _, k5⟩ := among_ok k2 (by omega) (l := [(-1), 0, 1, 48, 49]) (by simp) (by simp)
      rw [e5]; exact ⟨_, rfl⟩
    · obtain ⟨z, s5, e5, _, _, k5⟩ := pick_ok k2 (by omega) 20
      rw [e5]; exact ⟨_, rfl⟩
  obtain ⟨p, hp⟩ := hw
  rw [hp, Option.bind_some, Option.bind_some]
  obtain ⟨x, s3, e3, k3⟩ := one_ok (srcOk_from hc hl) (by omega) 8
  rw [e3, Option.bind_some]
  simp only
  split
  · obtain ⟨z, s5, e5, _, k5⟩ := among_ok k3 (by omega) (l := [(-1), 0, 10000, 10001]) (by simp) (by simp)
    rw [e5]; exact ⟨_, _, _, rfl⟩
  · obtain ⟨z, s5, e5, _, _, k5⟩ := pick_ok k3 (by omega) 50
    rw [e5]; exact ⟨_, _, _, rfl⟩

theorem laws_FnStrips_true {code : List Int} (hc : okL (okI .u8) code) : laws_FnStrips code = some true := by
  unfold laws_FnStrips laws_f6big
  rw [Option.bind_some]
  refine ite_val (fun _ => rfl) (fun hl => ?_)
  simp only [decide_eq_true_eq] at hl
  obtain ⟨d, g, d1⟩ := DrawStripFor_ok hc (by omega)
  obtain ⟨d', g', w, hh, d2⟩ := DrawStripsFrom_ok hc (by omega)
  obtain ⟨d'', p, g'', d3⟩ := DrawWidestPicture_ok hc (by omega)
  obtain ⟨u1, v1, c1, a1, b1, i1, p1⟩ := StripFor_same d g
  obtain ⟨u2, c2, a2, b2, p2⟩ := StripsFrom_same d' g' w hh
  obtain ⟨u3, c3, a3, b3, p3⟩ := WidestPicture_same d'' p g''
  obtain ⟨u4, v4, c4, a4, b4, i4, p4⟩ := StripFor_same d' g'
  rw [d1, Option.bind_some]
  simp only
  rw [a1, Option.bind_some, b1, Option.bind_some, d2, Option.bind_some]
  simp only
  rw [a2, Option.bind_some, b2, Option.bind_some, d3, Option.bind_some]
  simp only
  rw [a3, Option.bind_some, b3, Option.bind_some, a4]
  simp only [if_true, decide_true, Bool.not_true, Option.bind_some, Bool.false_eq_true, if_false]
  have hA : (if c3 = 0 then (if (w64 (p * (w64 (u3 + g'')))) > d''.Round then some true else some (decide ((w64 (p * (w64 ((w64 (u3 + g'')) + 1)))) ≤ d''.Round))) else some false : Option Bool) = some false := by
    refine ite_val (fun h => ?_) (fun _ => rfl)
    obtain ⟨hd, q1, q2, q3, q4, q5⟩ := p3 h
    have hr := hd.1
    rw [q5]
    obtain ⟨_, a1, b1⟩ := divq (a := d''.Round) (b := p) (by omega) (by omega) (by omega)
    have e1 := Int.mul_ediv_self_le (x := d''.Round) (k := p) (by omega)
    have e2 := Int.lt_mul_ediv_self_add (x := d''.Round) (k := p) (by omega)
    have e3 : p * (d''.Round / p + 1) = p * (d''.Round / p) + p := by rw [Int.mul_add, Int.mul_one]
    have e4 : 0 ≤ p * (d''.Round / p) := Int.mul_nonneg (by omega) a1
    rw [w64_id (n := d''.Round / p) (by omega) (by omega), w64_id (n := p * (d''.Round / p)) (by omega) (by omega), if_neg (by omega), w64_id (n := d''.Round / p + 1) (by omega) (by omega), w64_id (n := p * (d''.Round / p + 1)) (by omega) (by omega), decide_eq_false (by omega)]
  rw [hA]
  simp only [Option.bind_some, Bool.false_eq_true, if_false]
  refine (congrArg (fun o => onS o _ Empty.elim fun r => some r) (?_ : _ = some (Step.next ()))).trans ?_
  · refine ite_val (fun h => ?_) (fun _ => rfl)
    obtain ⟨hd, q1, q2, q3, q4, q5, q6, q7, q8⟩ := p2 h
    have h0 := i4.2 ⟨hd, q1, q2⟩
    obtain ⟨rfl, rfl⟩ := p4 h0
    have r1 := hd.1
    have r2 := hd.2.1
    have hH : 10 ≤ d'.High / 2 ∧ d'.High / 2 ≤ 500 := by omega
    have hL : 100 ≤ d'.Round + g' ∧ d'.Round + g' ≤ 10100 := by omega
    generalize d'.Round + g' = L at *
    generalize d'.High / 2 = H at *
    have m1 := mul_bd (a := w) (b := hh) (A := 5000) (B := 5000) (by omega) (by omega) (by omega) (by omega)
    have n1 : 0 ≤ u2 * L := Int.mul_nonneg q7 (by omega)
    have n2 := Int.mul_le_mul_of_nonneg_left (a := 1) (b := H) (c := u2 * L) (by omega) n1
    rw [Int.mul_one] at n2
    rw [if_pos h0, if_neg (by omega), if_neg (by omega), if_neg (by omega), if_neg (by omega), w64_id (n := u2 * L) (by omega) (by omega), w64_id (n := u2 * L * H) (by omega) (by omega), w64_id (n := w * hh) (by omega) (by omega), if_neg (by omega)]
  · rw [onS_next]
    refine ite_val (fun h => ?_) (fun _ => rfl)
    obtain ⟨rfl, rfl⟩ := p1 h
    obtain ⟨hd, q1, q2⟩ := i1.1 h
    have r1 := hd.1
    have r2 := hd.2.1
    rw [longOf hd q1 q2, if_pos rfl, w64_id (by omega) (by omega), decide_eq_true (by omega)]
end Go.Vs.G
