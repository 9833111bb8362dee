/- Wheels of a rack: draws, FnWheels. No conditions. -/
import Derived.Test.YtoeekebkinljpaaHWheels
namespace Go.Vs.G
open Go Go.Vs

theorem l14DrawTeeth_ok {B : Int} {s : GL00Src} (h : SrcOk B s) (hB : B ≤ 4611686018427360000) : ∃ v s', spec_l14DrawTeeth s = some (v, s') ∧ SrcOk (B + 4) s' := by
  unfold spec_l14DrawTeeth
  obtain ⟨v, s1, e1, k1⟩ := one_ok h (by omega) 12
  rw [e1, Option.bind_some]
  simp only
  split
  · obtain ⟨z, s4, e4, hz, k4⟩ := among_ok k1 (by omega) (l := [(-1), 1, 2, 200, 201, (-9223372036854775808)]) (by simp) (by simp)
    rw [e4]; exact ⟨_, _, rfl, k4.mono (by omega)⟩
  · obtain ⟨z, s4, e4, hz, k4⟩ := among_ok k1 (by omega) (l := [6, 8, 10, 12, 15, 20, 24, 30, 36, 7]) (by simp) (by simp)
    rw [e4]; exact ⟨_, _, rfl, k4.mono (by omega)⟩
theorem l14DrawMany_ok {B : Int} {s : GL00Src} (h : SrcOk B s) (hB : B ≤ 4611686018427360000) : ∃ v s', spec_l14DrawMany s = some (v, s') ∧ SrcOk (B + 4) s' := by
  unfold spec_l14DrawMany
  obtain ⟨v, s1, e1, k1⟩ := one_ok h (by omega) 10
  rw [e1, Option.bind_some]
  simp only
  split
  · obtain ⟨z, s4, e4, hz, k4⟩ := among_ok k1 (by omega) (l := [(-1), 0, 100000, 100001, (-9223372036854775808)]) (by simp) (by simp)
    rw [e4]; exact ⟨_, _, rfl, k4.mono (by omega)⟩
  · obtain ⟨z, s4, e4, z0, z1, k4⟩ := pick_ok k1 (by omega) 400
    rw [e4]; exact ⟨_, _, rfl, k4.mono (by omega)⟩
theorem l14Draw_ok {B : Int} {s : GL00Src} (h : SrcOk B s) (hB : B ≤ 4611686018427300000) : ∃ c l s', spec_l14Draw s = some (c, l, s') ∧ l.length ≤ 9 ∧ SrcOk (B + 100) s' := by
  have key : wp (spec_l14Draw s) (fun r => r.2.1.length ≤ 9 ∧ SrcOk (B + 100) r.2.2) := by
    unfold spec_l14Draw
    obtain ⟨c, s1, e1, k1⟩ := l14DrawTeeth_ok h (by omega)
    rw [e1, Option.bind_some]
    simp only
    obtain ⟨n, s2, e2, n0, n1, k2⟩ := pick_ok k1 (by omega) 4
    rw [e2, Option.bind_some]
    simp only
    obtain ⟨o, s3, e3, k3⟩ := one_ok k2 (by omega) 20
    rw [e3, Option.bind_some]
    simp only
    have hn : ∃ s4 n4, (if o = true then (spec_l00Src_pick s3 2).bind fun r4 => some (r4.2, w64 (8 + r4.1)) else some (s3, n)) = some (s4, n4) ∧ 0 ≤ n4 ∧ n4 ≤ 9 ∧ SrcOk (B + 10) s4 := by
      split
      · obtain ⟨z, s4, e4, z0, z1, k4⟩ := pick_ok k3 (by omega) 2
        rw [e4]
        refine ⟨_, _, rfl, ?_, ?_, k4.mono (by omega)⟩ <;> simp only <;> rw [w64_id (by omega) (by omega)] <;> omega
      · exact ⟨_, _, rfl, n0, by omega, k3.mono (by omega)⟩
    obtain ⟨s4, n4, e4, m0, m1, k4⟩ := hn
    rw [e4, Option.bind_some]
    simp only
    refine wp_loop (fun t : GL00Src × List GWheel × Int => ∃ C : Int, SrcOk C t.1 ∧ C + 4 * t.2.2 = B + 10 + 4 * n4 ∧ 0 ≤ t.2.2 ∧ t.2.2 ≤ n4 ∧ (t.2.1.length : Int) = n4 - t.2.2) (fun t => t.2.2.toNat) ⟨B + 10, k4, rfl, m0, Int.le_refl _, by simp⟩ (by simp only; omega) ?_
    rintro ⟨s5, a, k⟩ ⟨C, j1, j2, j3, j4, j5⟩
    simp only at j1 j2 j3 j4 j5 ⊢
    refine wp_ite (fun h => ?_) (fun h => ?_)
    · obtain ⟨v2, s6, e6, _, k6⟩ := among_ok j1 (by omega) (l := [6, 8, 9, 10, 12, 15, 7, 25]) (by simp) (by simp)
      rw [e6, Option.bind_some]
      simp only
      obtain ⟨v3, s7, e7, k7⟩ := one_ok k6 (by omega) 3
      rw [e7, Option.bind_some]
      simp only
      rw [app_ok (by simp; omega), Option.bind_some, w64_id (by omega) (by omega)]
      exact wp_some ⟨⟨C + 4, k7.mono (by omega), by simp only; omega, by simp only; omega, by simp only; omega, by simp; omega⟩, by simp only; omega⟩
    · refine wp_some ?_
      simp only
      obtain ⟨v3, s7, e7, k7⟩ := one_ok j1 (by omega) 24
      rw [e7, Option.bind_some]
      simp only
      have hl : ∃ l, (if v3 = true then some [(GWheel.mk 199 false), (GWheel.mk 197 false), (GWheel.mk 193 false), (GWheel.mk 191 false)] else some a : Option (List GWheel)) = some l ∧ l.length ≤ 9 := by
        split
        · exact ⟨_, rfl, by simp⟩
        · exact ⟨_, rfl, by omega⟩
      obtain ⟨l, hl1, hl2⟩ := hl
      rw [hl1, Option.bind_some]
      have hs : ∃ s8 x, (if (l.length : Int) > 0 then (spec_l00Src_one s7 14).bind fun r8 => some (r8.2, r8.1) else some (s7, false)) = some (s8, x) ∧ SrcOk (B + 60) s8 ∧ (x = true → 0 < l.length) := by
        split
        · obtain ⟨v8, s8, e8, k8⟩ := one_ok k7 (by omega) 14
          rw [e8]; exact ⟨_, _, rfl, k8.mono (by omega), fun _ => by omega⟩
        · exact ⟨_, _, rfl, k7.mono (by omega), fun h => by cases h⟩
      obtain ⟨s8, x, e8, k8, hx⟩ := hs
      rw [e8, Option.bind_some]
      simp only
      refine wp_ite (fun h => ?_) (fun h => ?_)
      · obtain ⟨v9, s9, e9, k9⟩ := l14DrawTeeth_ok k8 (by omega)
        rw [e9, Option.bind_some, at_ok (by omega) (by simpa using hx h), Option.bind_some]
        exact wp_some ⟨by simpa using hl2, k9.mono (by omega)⟩
      · exact wp_some ⟨hl2, k8.mono (by omega)⟩
  obtain ⟨⟨c, l, s'⟩, h1, h2, h3⟩ := key
  exact ⟨c, l, s', h1, h2, h3⟩
theorem l14Pick_ok {B : Int} {s : GL00Src} (h : SrcOk B s) (hB : B ≤ 4611686018427300000) (l : List GWheel) : ∃ v s', spec_l14Pick s l = some (v, s') ∧ SrcOk (B + 4) s' := by
  unfold spec_l14Pick
  obtain ⟨n, s2, e2, _, _, k2⟩ := pick_ok h (by omega) (w64 ((l.length : Int) + 1))
  rw [e2, Option.bind_some]
  simp only
  obtain ⟨m, s3, e3, _, _, k3⟩ := pick_ok k2 (by omega) 16
  rw [e3]; exact ⟨_, _, rfl, k3.mono (by omega)⟩
theorem DrawTurnsOf_ok {code : List Int} (hc : okL (okI .u8) code) (hl : code.length ≤ 1000000) : ∃ c l k n, spec_DrawTurnsOf code = some (c, l, k, n) ∧ l.length ≤ 9 := by
  unfold spec_DrawTurnsOf
  obtain ⟨c, l, s1, e1, h1, k1⟩ := l14Draw_ok (srcOk_from hc hl) (by omega)
  rw [l00From_eq, Option.bind_some, e1, Option.bind_some]
  simp only
  obtain ⟨k, s2, e2, k2⟩ := l14Pick_ok k1 (by omega) l
  rw [e2, Option.bind_some]
  simp only
  obtain ⟨n, s3, e3, k3⟩ := l14DrawMany_ok k2 (by omega)
  rw [e3]; exact ⟨_, _, _, _, rfl, h1⟩
theorem DrawSlackOf_ok {code : List Int} (hc : okL (okI .u8) code) (hl : code.length ≤ 1000000) : ∃ c l k n x, spec_DrawSlackOf code = some (c, l, k, n, x) ∧ l.length ≤ 9 := by
  unfold spec_DrawSlackOf
  obtain ⟨c, l, s1, e1, h1, k1⟩ := l14Draw_ok (srcOk_from hc hl) (by omega)
  rw [l00From_eq, Option.bind_some, e1, Option.bind_some]
  simp only
  obtain ⟨k, s2, e2, k2⟩ := l14Pick_ok k1 (by omega) l
  rw [e2, Option.bind_some]
  simp only
  obtain ⟨n, s3, e3, k3⟩ := l14DrawMany_ok k2 (by omega)
  rw [e3, Option.bind_some]
  simp only
  obtain ⟨o, s4, e4, k4⟩ := one_ok k3 (by omega) 10
  rw [e4, Option.bind_some]
  simp only
  split
  · obtain ⟨z, s5, e5, _, k5⟩ := among_ok k4 (by omega) (l := [(-1), 0, n, w64 (n + 1)]) (by simp) (by simp)
    rw [e5]; exact ⟨_, _, _, _, _, rfl, h1⟩
  · obtain ⟨z, s5, e5, _, _, k5⟩ := pick_ok k4 (by omega) 6
    rw [e5]; exact ⟨_, _, _, _, _, rfl, h1⟩
theorem DrawWheelFor_ok {code : List Int} (hc : okL (okI .u8) code) (hl : code.length ≤ 1000000) : ∃ c f, spec_DrawWheelFor code = some (c, f) := by
  unfold spec_DrawWheelFor
  obtain ⟨c, s1, e1, k1⟩ := l14DrawTeeth_ok (srcOk_from hc hl) (by omega)
  rw [l00From_eq, Option.bind_some, e1, Option.bind_some]
  simp only
  obtain ⟨n, s2, e2, _, _, k2⟩ := pick_ok k1 (by omega) 10
  rw [e2, Option.bind_some]
  simp only
  split
  · obtain ⟨f, s3, e3, _⟩ := l02Bent_ok k2 (by omega)
    rw [e3]; exact ⟨_, _, rfl⟩
  · split
    · obtain ⟨z, s5, e5, _, k5⟩ := among_ok k2 (by omega) (l := [(-1), 0, 1, 1000, 1001]) (by simp) (by simp)
      rw [e5]; exact ⟨_, _, rfl⟩
    · split
      · obtain ⟨z, s5, e5, _, k5⟩ := among_ok k2 (by omega) (l := [1000, 1001]) (by simp) (by simp)
        rw [e5]; exact ⟨_, _, rfl⟩
      · obtain ⟨z, s4, e4, z0, z1, k4⟩ := pick_ok k2 (by omega) 12
        rw [e4, Option.bind_some]
        simp only
        obtain ⟨x, s5, e5, x0, x1, k5⟩ := pick_ok k4 (by omega) 12
        rw [e5, Option.bind_some]
        simp only
        rw [w64_id (by omega) (by omega), w64_id (by omega) (by omega)]
        obtain ⟨f, hf, hr⟩ := l02Make_eq (n := 1 + z) (d := 1 + x) (by omega) (by omega) (by omega)
        rw [hf]; exact ⟨_, _, rfl⟩

theorem laws_FnWheels_true {code : List Int} (hc : okL (okI .u8) code) : laws_FnWheels code = some true := by
  unfold laws_FnWheels laws_f6big
  rw [Option.bind_some]
  refine ite_val (fun _ => rfl) (fun hl => ?_)
  simp only [decide_eq_true_eq] at hl
  obtain ⟨c, l, k, n, d1, l1⟩ := DrawTurnsOf_ok hc (by omega)
  obtain ⟨c', l', k', n', x, d3, l3⟩ := DrawSlackOf_ok hc (by omega)
  obtain ⟨cw, fw, d2⟩ := DrawWheelFor_ok hc (by omega)
  obtain ⟨v1, c1, a1, b1, p1⟩ := TurnsOf_same (c := c) (l := l) (by omega) k n
  obtain ⟨v2, c2, a2, b2, p2⟩ := WheelFor_same cw fw
  obtain ⟨v3, c3, a3, b3, p3⟩ := SlackOf_same (c := c') (l := l') (by omega) k' n' x
  rw [d1, Option.bind_some]
  simp only
  rw [a1, Option.bind_some, b1, Option.bind_some, d2, Option.bind_some]
  simp only
  rw [a2, Option.bind_some, b2, Option.bind_some, d3, Option.bind_some]
  simp only
  rw [a3, Option.bind_some, b3, Option.bind_some]
  simp only [if_true, fr_beqL, decide_true, Bool.not_true, Option.bind_some, Bool.false_eq_true, if_false]
  refine (congrArg (fun o => onS o _ Empty.elim fun r => some r) (?_ : _ = some (Step.next ()))).trans ?_
  · refine ite_val (fun h => ?_) (fun _ => rfl)
    obtain ⟨q1, q2, q3, q4, q5, q6, rfl⟩ := p2 h
    have hv := bwAll_rng cw fw
    have hbest := bwAll_best cw fw
    generalize bwAll cw fw = b at *
    refine eq_of_wp ?_
    refine wp_loop (fun t : Int => 2 ≤ t ∧ t ≤ 201) (fun t => (201 - t).toNat) ⟨by omega, by omega⟩ (by omega) ?_
    rintro t ⟨t1, t2⟩
    refine wp_ite (fun h => ?_) (fun h => ?_)
    · have hb := werr_bd (t := t) q1 q2 q5 q6 q3 q4 (by omega) (by omega)
      have hb2 := werr_bd (t := b) q1 q2 q5 q6 q3 q4 (by omega) (by omega)
      have m1 := mul_bd (a := werr cw fw t) (b := b) (A := 400000) (B := 200) (by omega) (by omega) (by omega) (by omega)
      have m2 := mul_bd (a := werr cw fw b) (b := t) (A := 400000) (B := 200) (by omega) (by omega) (by omega) (by omega)
      have := hbest t t1 h
      rw [w64_id (n := cw * fw.Den) (by omega) (by omega), w64_id (n := fw.Num * t) (by omega) (by omega), w64_id (n := fw.Num * b) (by omega) (by omega), w64_id (n := cw * fw.Den - fw.Num * t) (by omega) (by omega), w64_id (n := cw * fw.Den - fw.Num * b) (by omega) (by omega), f6abs_eq (by omega) (by omega), Option.bind_some, f6abs_eq (by omega) (by omega), Option.bind_some]
      rw [show ((cw * fw.Den - fw.Num * t).natAbs : Int) = werr cw fw t from rfl, show ((cw * fw.Den - fw.Num * b).natAbs : Int) = werr cw fw b from rfl, w64_id (n := werr cw fw t * b) (by omega) (by omega), w64_id (n := werr cw fw b * t) (by omega) (by omega), if_neg (by omega), w64_id (by omega) (by omega)]
      exact wp_some ⟨⟨by omega, by omega⟩, by omega⟩
    · exact wp_some (wp_some rfl)
  · rw [onS_next]
    have hA : (if c3 = 0 then (if v3 < 0 then some true else if v3 > x then some true else (at? l' k').bind fun v1 => some (decide (w64 (2 * v3) > v1.Teeth))) else some false : Option Bool) = some false := by
      refine ite_val (fun h => ?_) (fun _ => rfl)
      obtain ⟨w, w1, w2, w3, w4, w5, w6⟩ := p3 h
      rw [if_neg (by omega), if_neg (by omega), w1, Option.bind_some, w64_id (by omega) (by omega), decide_eq_false (by omega)]
    rw [hA]
    simp only [Option.bind_some, Bool.false_eq_true, if_false]
    refine ite_val (fun h => ?_) (fun _ => rfl)
    obtain ⟨w, w1, w2, w3, w4, w5, w6, w7, hR⟩ := p1 h
    have nb := mul_bd (a := n) (b := c) (A := 100000) (B := 200) (by omega) (by omega) (by omega) (by omega)
    have n0 : 0 ≤ n * c := Int.mul_nonneg w6 (by omega)
    have x1 := hR.pos
    have x2 := hR.den_le (by omega)
    have x3 := hR.num_le (by omega)
    have he := hR.eq
    have x3' : (v1.Num.natAbs : Int) ≤ 20000000 := by
      cases hb : w.Back <;> rw [hb] at x3 <;> simp only [if_true, Bool.false_eq_true, if_false] at x3 <;> omega
    have hm1 := mul_bd (a := (v1.Num.natAbs : Int)) (b := w.Teeth) (A := 20000000) (B := 200) (by omega) (by omega) (by omega) (by omega)
    have hm2 := mul_bd (a := n * c) (b := v1.Den) (A := 20000000) (B := 200) (by omega) (by omega) (by omega) (by omega)
    rw [f6abs_eq (by omega) (by omega), Option.bind_some, w1, Option.bind_some, w64_id (n := n * c) (by omega) (by omega), w64_id (n := n * c * v1.Den) (by omega) (by omega), w64_id (by omega) (by omega)]
    have habs : (v1.Num.natAbs : Int) * w.Teeth = n * c * v1.Den := by
      have e1 : (v1.Num.natAbs : Int) * w.Teeth = ((v1.Num * w.Teeth).natAbs : Int) := by
        rw [Int.natAbs_mul, Int.natCast_mul]; congr 1; omega
      have e2 : n * c * v1.Den = ((n * c * v1.Den).natAbs : Int) := by
        have : 0 ≤ n * c * v1.Den := Int.mul_nonneg n0 (by omega)
        omega
      rw [e1, he, e2]
      cases w.Back
      · simp
      · simp only [if_true]; rw [show (0 - n * c) * v1.Den = -(n * c * v1.Den) by rw [Int.sub_mul]; omega]; simp
    rw [if_pos habs, Option.bind_some]
    cases hb : w.Back with
    | false =>
      rw [hb] at he
      simp only [Bool.false_eq_true, if_false] at he ⊢
      have : 0 ≤ v1.Num * w.Teeth := by rw [he]; exact Int.mul_nonneg n0 (by omega)
      have := Int.nonneg_of_mul_nonneg_left this (by omega)
      rw [decide_eq_false (by omega)]; rfl
    | true =>
      rw [hb] at he
      simp only [if_true] at he ⊢
      congr 1
      rw [beq_iff_eq, decide_eq_decide]
      constructor
      · intro hn
        rcases Int.lt_or_eq_of_le w6 with h0 | h0
        · exact h0
        · have hz : v1.Num * w.Teeth = 0 := by rw [he, ← h0]; simp
          rcases Int.mul_eq_zero.mp hz with hz | hz <;> omega
      · intro hn
        have h1 : 0 < n * c := Int.mul_pos hn (by omega)
        have h2 : v1.Num * w.Teeth < 0 := by
          rw [he, Int.sub_mul]
          have := Int.mul_pos h1 x1
          omega
        refine Classical.byContradiction fun hc => ?_
        have := Int.mul_nonneg (a := v1.Num) (b := w.Teeth) (by omega) (by omega)
        omega
end Go.Vs.G
