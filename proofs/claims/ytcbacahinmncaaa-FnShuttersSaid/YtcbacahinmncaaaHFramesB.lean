/- Frames: draws. FnSeenAtOnce. No conditions. -/
import Derived.Test.YtcbacahinmncaaaHFrames
namespace Go.Vs.G
open Go Go.Vs

theorem l16Draw_ok {B : Int} {s : GL00Src} (h : SrcOk B s) (hB : B ≤ 4611686018427300000) : wp (spec_l16Draw s) (fun r => r.1.length ≤ 100 ∧ SrcOk (B + 2000) r.2) := by
  unfold spec_l16Draw
  have key : ∀ (n : Int) (s : GL00Src), SrcOk (B + 10) s → 0 ≤ n → n ≤ 70 → wp (onL (loop (S := (GL00Src × (List GFrame) × Int)) (B := (GL00Src × (List GFrame))) (R := Empty) (fun ((s3, out1, k1) : GL00Src × (List GFrame) × Int) =>
 if k1 > 0 then
 ((spec_l00Src_pick s3 60).bind fun r4 =>
 (spec_l00Src_pick r4.2 60).bind fun r5 =>
 (spec_l00Src_one r5.2 12).bind fun r6 =>
 ((if r6.1 then
 ((spec_l00Src_among r6.2 [0, 500, 501]).bind fun r7 =>
 some (r7.2, r7.1))
 else
 some (r6.2, r5.1)) : Option (GL00Src × Int)).bind fun ((s4, x1) : GL00Src × Int) =>
 (app? out1 ([(GFrame.mk (w64 (1 + r4.1)) x1)] : List GFrame)).bind fun l1 =>
 some (.next (s4, l1, w64 (k1 - 1))))
 else
 some (.brk (s3, out1))) loopLim (s, [], n))
 (fun ((s5, out2) : GL00Src × (List GFrame)) => if n > 0 then
 ((spec_l00Src_pick s5 n).bind fun r8 =>
 (at? out2 r8.1).bind fun v1 =>
 (spec_l00Src_pick r8.2 20).bind fun r9 =>
 if r9.1 = 0 then
 ((spec_l00Src_among r9.2 [(-1), 0, 1, 10000, 10001, (-9223372036854775808)]).bind fun r10 =>
 some (out2.set r8.1.toNat (GFrame.mk r10.1 v1.Dark), r10.2))
 else
 if r9.1 = 1 then
 ((spec_l00Src_among r9.2 [(-1), 0, 10000, 10001]).bind fun r11 =>
 some (out2.set r8.1.toNat (GFrame.mk v1.Light r11.1), r11.2))
 else
 some (out2, r9.2))
 else
 some (out2, s5)) Empty.elim) (fun r => r.1.length ≤ 100 ∧ SrcOk (B + 2000) r.2) := by
    intro n s hs h0 h1
    refine wp_loop (fun t : GL00Src × List GFrame × Int => SrcOk (B + 1000 - t.2.2 * 10) t.1 ∧ 0 ≤ t.2.2 ∧ t.2.2 ≤ n ∧ (t.2.1.length : Int) = n - t.2.2) (fun t => t.2.2.toNat) ⟨hs.mono (by simp only; omega), h0, by simp only; omega, by simp⟩ (by simp only; omega) ?_
    rintro ⟨s, l, k⟩ ⟨h2, h3, h4, h5⟩
    simp only at h2 h3 h4 h5 ⊢
    refine wp_ite (fun h6 => ?_) (fun h6 => ?_)
    · refine wp_pick h2 (by omega) fun v s' v0 v1 h7 => ?_
      refine wp_pick h7 (by omega) fun u s'' u0 u1 h8 => ?_
      refine wp_one h8 (by omega) fun b s3 h9 => ?_
      simp only
      rw [w64_id (n := k - 1) (by omega) (by omega)]
      refine wp_bind (wp_ite (fun _ => ?_) (fun _ => ?_))
      · refine wp_among h9 (by omega) (by simp) (by simp) fun z s4 _ h10 => wp_some ?_
        simp only
        refine wp_app (by simp; omega) ?_
        exact wp_some ⟨⟨h10.mono (by simp only; omega), by simp only; omega, by simp only; omega, by simp; omega⟩, by simp only; omega⟩
      · refine wp_some ?_
        simp only
        refine wp_app (by simp; omega) ?_
        exact wp_some ⟨⟨h9.mono (by simp only; omega), by simp only; omega, by simp only; omega, by simp; omega⟩, by simp only; omega⟩
    · refine wp_some ?_
      simp only
      refine wp_ite (fun h7 => ?_) (fun h7 => ?_)
      · refine wp_pick h2 (by omega) fun v s' v0 v1 h8 => ?_
        simp only
        rw [at_ok v0 (by omega), Option.bind_some]
        refine wp_pick h8 (by omega) fun u s'' u0 u1 h9 => ?_
        simp only
        refine wp_ite (fun _ => ?_) (fun _ => wp_ite (fun _ => ?_) (fun _ => ?_))
        · refine wp_among h9 (by omega) (by simp) (by simp) fun z s4 _ h10 => wp_some ⟨by simp; omega, h10.mono (by omega)⟩
        · refine wp_among h9 (by omega) (by simp) (by simp) fun z s4 _ h10 => wp_some ⟨by simp; omega, h10.mono (by omega)⟩
        · exact wp_some ⟨by simp only; omega, h9.mono (by omega)⟩
      · exact wp_some ⟨by simp only; omega, h2.mono (by omega)⟩
  refine wp_pick h (by omega) fun v s' v0 v1 h7 => ?_
  refine wp_one h7 (by omega) fun b s'' h8 => ?_
  simp only
  refine wp_bind (wp_ite (fun _ => ?_) (fun _ => ?_))
  · refine wp_pick h8 (by omega) fun u s3 u0 u1 h9 => wp_some ?_
    simp only
    rw [w64_id (by omega) (by omega)]
    exact key _ _ (h9.mono (by omega)) (by omega) (by omega)
  · exact wp_some (key _ _ (h8.mono (by omega)) (by omega) (by omega))
theorem l16DrawPersist_ok {B : Int} {s : GL00Src} (h : SrcOk B s) (hB : B ≤ 4611686018427360000) : wp (spec_l16DrawPersist s) (fun r => SrcOk (B + 20) r.2) := by
  unfold spec_l16DrawPersist
  repeat' first
    | ((with_reducible apply wp_pick); assumption; omega; intro _ _ _ _ _; try simp only)
    | ((with_reducible apply wp_one); assumption; omega; intro _ _ _; try simp only)
    | ((with_reducible apply wp_among); assumption; omega; simp; simp; intro _ _ _ _; try simp only)
    | ((with_reducible apply wp_bent); assumption; omega; intro _ _ _; try simp only)
    | ((with_reducible apply wp_draw02); assumption; omega; intro _ _ _; try simp only)
    | ((with_reducible apply wp_from); assumption; omega; intro _ _; try simp only)
    | ((with_reducible refine wp_app ?_ ?_); ((try simp only [List.length_append, List.length_cons, List.length_nil]); omega); try simp only)
    | (with_reducible refine wp_ite ?_ ?_) <;> intro _
    | ((with_reducible refine wp_bind (wp_ite ?_ ?_))) <;> intro _
    | ((with_reducible refine wp_bind (wp_some ?_)); try simp only)
    | ((with_reducible refine wp_some ?_); try simp only)
    | exact trivial
    | exact SrcOk.mono (by assumption) (by omega)
theorem l16With_ok {code : List Int} (hc : okL (okI .u8) code) (hl : code.length ≤ 1000000) : wp (spec_l16With code) (fun r => r.1.length ≤ 100) := by
  unfold spec_l16With
  refine wp_from hc hl fun s hs => wp_seq (l16Draw_ok hs (by omega)) fun r hr => wp_seq (l16DrawPersist_ok hr.2 (by omega)) fun q hq => wp_some hr.1
theorem DrawGapsSeen_ok {code : List Int} (hc : okL (okI .u8) code) (hl : code.length ≤ 1000000) : wp (spec_DrawGapsSeen code) (fun r => r.1.length ≤ 100) := by
  unfold spec_DrawGapsSeen
  exact wp_seq (l16With_ok hc hl) fun r hr => wp_some hr

theorem laws_FnSeenAtOnce_true {code : List Int} (hc : okL (okI .u8) code) : laws_FnSeenAtOnce code = some true := by
  unfold laws_FnSeenAtOnce laws_f6big
  rw [Option.bind_some]
  refine ite_val (fun _ => rfl) (fun hl => ?_)
  simp only [decide_eq_true_eq] at hl
  obtain ⟨⟨l, p⟩, d1, hl1⟩ := DrawGapsSeen_ok hc (by omega)
  simp only at hl1
  obtain ⟨f, e, q1, q2, q3⟩ := LightShare_same (l := l) (by omega)
  rw [d1, Option.bind_some]
  simp only
  rw [GapsSeen_eq (by omega), Option.bind_some, GapsSeen_spec (by omega), Option.bind_some, BlurOf_eq (by omega), Option.bind_some, BlurOf_spec (by omega), Option.bind_some, q1, Option.bind_some, q2, Option.bind_some, TotalMillis_eq (by omega), Option.bind_some, TotalMillis_spec (by omega), Option.bind_some]
  simp only [if_true, fr_beqL, decide_true, Bool.not_true, Option.bind_some, Bool.false_eq_true, if_false]
  by_cases hv : vf l
  · simp only [hv, if_true]
    refine (congrArg (fun o => onS o _ Empty.elim fun r => some r) (?_ : _ = some (Step.next ()))).trans ?_
    · refine ite_val (fun h => ?_) (fun _ => rfl)
      obtain ⟨_, hz, hR⟩ := q3 h
      have h1 := bg_big hv (Nat.le_refl l.length)
      have h2 := lit_bd hv l.length (Nat.le_refl _)
      have h3 := bg_mono hv (j := 0) (k := l.length) (by omega) (Nat.le_refl _)
      have h60 := hv.1
      have hb0 : bg l 0 = 0 := rfl
      refine eq_of_wp (litLoop hv (fun _ _ => rfl) ?_)
      have r1 := hR.pos
      have r2 := hR.den_le (by omega)
      have r3 := hR.num_le (by omega)
      have r4 := hR.eq
      have m1 := mul_bd (a := f.Num) (b := bg l l.length) (A := 1000000) (B := 1200000) (by omega) (by omega) (by omega) (by omega)
      have m2 := mul_bd (a := lit l l.length) (b := f.Den) (A := 1000000) (B := 1200000) (by omega) (by omega) (by omega) (by omega)
      rw [w64_id (by omega) (by omega), w64_id (by omega) (by omega), if_pos r4]
      exact wp_some rfl
    · rw [onS_next]
      by_cases hp : 0 ≤ p ∧ p ≤ 500
      · simp only [hp, and_self, if_true, Option.bind_some, decide_eq_true_eq]
        refine ite_val (fun _ => rfl) (fun ht => ?_)
        have h0 := bg_big hv (Nat.le_refl l.length)
        refine eq_of_wp ?_
        obtain ⟨N, hN⟩ : ∃ N : Nat, (N : Int) = bg l l.length := ⟨(bg l l.length).toNat, by omega⟩
        refine wp_cnt (fun m => (dk l p m, mx (fun m => cnt l p m) m, (m : Int))) N rfl (by omega) (fun m hm => ?_) (b := (dk l p N, mx (fun m => cnt l p m) N)) ?_ ?_
        · have := dk_rng l p m
          simp only
          rw [if_pos (by omega), SeenFrames_of hv hp (by omega), Option.bind_some]
          simp only [if_true]
          have e9 : ((sl (sn l p (m : Int)) l.length).length : Int) = cnt l p m := rfl
          rw [e9]
          have e8 : (if cnt l p (m : Int) = 0 then some (w64 (dk l p m + 1)) else some (dk l p m) : Option Int) = some (dk l p (m + 1)) := by
            rw [dk]
            split
            · rw [w64_id (by omega) (by omega)]
            · simp
          rw [e8, Option.bind_some, imax_def, w64_id (by omega) (by omega)]
          rfl
        · simp only; rw [if_neg (by omega)]
        · simp only
          rw [if_pos (dk_gp hv hp.1 l.length (Nat.le_refl _) N hN)]
          refine wp_some (decide_eq_true ?_)
          refine Int.le_antisymm (mx_le (blur_rng l p).1 fun i hi => cnt_blur hv (by omega) (by omega)) ?_
          refine mx_le (mx_nonneg _ _) fun k hk => ?_
          have hb := bg_big hv (k := k) (by omega)
          have hm := bg_mono hv (j := k) (k := l.length) (by omega) (Nat.le_refl _)
          obtain ⟨K, hK⟩ : ∃ K : Nat, (K : Int) = bg l k := ⟨(bg l k).toNat, by omega⟩
          rw [← hK]
          exact le_mx (f := fun m : Nat => cnt l p m) (i := K) (by omega)
      · simp only [hp, if_false, Option.bind_some]
        rfl
  · have he : ¬ e = 0 := fun h => hv (q3 h).1
    simp only [hv, he, if_false]
    rfl
end Go.Vs.G
