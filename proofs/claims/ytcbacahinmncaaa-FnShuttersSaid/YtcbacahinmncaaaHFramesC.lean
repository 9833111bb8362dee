/- Frames: FnShutters. No conditions. -/
import Derived.Test.YtcbacahinmncaaaHFramesB
namespace Go.Vs.G
open Go Go.Vs

theorem un_eq {l : List GFrame} (hl : vf l) {p : Int} (hp : 0 ≤ p) : ∀ k, k ≤ l.length → un l p k ≤ bg l k + p ∧ (k < l.length → un l p (k + 1) = bg l k + (fr l k).Light + p)
  | 0, h => by
    refine ⟨by simp [un, bg]; omega, fun h2 => ?_⟩
    have := fr_rng hl h2
    simp only [un, bg]; omega
  | k + 1, h => by
    have h1 := (un_eq hl hp k (by omega)).2 (by omega)
    have h2 := fr_rng hl (k := k) (by omega)
    refine ⟨by rw [h1, bg]; omega, fun h3 => ?_⟩
    have h4 := fr_rng hl h3
    rw [un, h1, bg]; omega
/-- the longest dark -/
def md (l : List GFrame) : Nat → Int := mx (fun k => (fr l k).Dark)
theorem gp_zero {l : List GFrame} (hl : vf l) {p : Int} (hp : 0 ≤ p) : ∀ k, k ≤ l.length → 0 ≤ gp l p k ∧ (gp l p k = 0 ↔ md l k ≤ p)
  | 0, _ => by simp [gp, md, mx, hp]
  | k + 1, h => by
    obtain ⟨h0, h1⟩ := gp_zero hl hp k (by omega)
    have h2 := (un_eq hl hp k (by omega)).2 (by omega)
    have h3 : md l (k + 1) = max (md l k) (fr l k).Dark := rfl
    rw [gp, h2, h3, bg]
    refine ⟨by omega, ?_⟩
    constructor
    · intro h5
      have := h1.1 (by omega)
      omega
    · intro h5
      have := h1.2 (by omega)
      omega
theorem md_rng {l : List GFrame} (hl : vf l) : 0 ≤ md l l.length ∧ md l l.length ≤ 10000 := ⟨mx_nonneg _ _, mx_le (by omega) fun i hi => (fr_rng hl hi).2.2⟩
theorem LeastPersist_eq {l : List GFrame} (hl : l.length ≤ 1000000) : impl_LeastPersist l = some (if vf l then (if md l l.length > 500 then (0, 3) else (md l l.length, 0)) else (0, 1)) := by
  unfold impl_LeastPersist
  rw [ValidFrames_eq hl, Option.bind_some]
  by_cases hv : vf l
  · simp only [hv, decide_true, if_true]
    have hm := md_rng hv
    refine eq_of_wp ?_
    refine wp_loop (fun p : Int => 0 ≤ p ∧ p ≤ 501 ∧ p ≤ md l l.length) (fun p => (501 - p).toNat) ⟨by omega, by omega, hm.1⟩ (by omega) ?_
    rintro p ⟨h1, h2, h3⟩
    refine wp_ite (fun h => ?_) (fun h => ?_)
    · rw [gapsSeen_eq hv h1 h, Option.bind_some]
      have hz := (gp_zero hv h1 l.length (Nat.le_refl _)).2
      refine wp_ite (fun h5 => ?_) (fun h5 => ?_)
      · have := hz.1 h5
        refine wp_some (wp_some ?_)
        rw [if_neg (by omega)]
        exact Prod.ext (by simp only; omega) rfl
      · rw [w64_id (by omega) (by omega)]
        have : ¬ md l l.length ≤ p := fun hh => h5 (hz.2 hh)
        exact wp_some ⟨⟨by omega, by omega, by omega⟩, by omega⟩
    · refine wp_some (wp_some ?_)
      rw [if_pos (by omega)]
  · simp only [hv, decide_false, Bool.false_eq_true, if_false]
theorem LeastPersist_spec {l : List GFrame} (hl : l.length ≤ 1000000) : spec_LeastPersist l = some (if vf l then (if md l l.length > 500 then (0, 3) else (md l l.length, 0)) else (0, 1)) := by
  unfold spec_LeastPersist
  rw [l16Ok_eq hl, Option.bind_some]
  by_cases hv : vf l
  · simp only [hv, decide_true, if_true]
    refine eq_of_wp ?_
    refine wp_cnt (fun k => (md l k, (k : Int))) l.length rfl (by omega) (fun k hk => ?_) (b := md l l.length) ?_ ?_
    · simp only
      rw [if_pos (by omega), at_fr hk, Option.bind_some, maxB, Option.bind_some, w64_id (by omega) (by omega)]
      rfl
    · simp only; rw [if_neg (by omega)]
    · refine wp_ite (fun h => ?_) (fun h => ?_)
      · rw [if_pos h]; exact wp_some rfl
      · rw [if_neg h]; exact wp_some rfl
  · simp only [hv, decide_false, Bool.false_eq_true, if_false]

/-- the frame that shows, if there is one -/
theorem FrameAt_same {l : List GFrame} (hl : l.length ≤ 1000000) (ms : Int) : ∃ k b e, impl_FrameAt l ms = some (k, b, e) ∧ spec_FrameAt l ms = some (k, b, e) ∧ (e = 0 → vf l ∧ ∃ j : Nat, k = (j : Int) ∧ j < l.length ∧ bg l j ≤ ms ∧ b = decide (ms < bg l j + (fr l j).Light)) := by
  unfold impl_FrameAt spec_FrameAt
  rw [ValidFrames_eq hl, l16Ok_eq hl, Option.bind_some, Option.bind_some]
  by_cases hv : vf l
  · simp only [hv, decide_true, if_true]
    have hB := bg_big hv (Nat.le_refl l.length)
    have h60 := hv.1
    rw [totalMillis_eq hv, Option.bind_some, l16Total_eq hv, Option.bind_some, w64_id (n := bg l l.length - 1) (by omega) (by omega), withinB, inB, Option.bind_some, Option.bind_some]
    by_cases hm : 0 ≤ ms ∧ ms ≤ bg l l.length - 1
    · simp only [hm, and_self, decide_true, if_true]
      obtain ⟨j, hj, hj1, hj2⟩ := frame_at hv hm.1 l.length (Nat.le_refl _) (by omega)
      refine ⟨(j : Int), decide (ms < bg l j + (fr l j).Light), 0, ?_, ?_, fun _ => ⟨trivial, j, rfl, hj, hj1, rfl⟩⟩
      · refine eq_of_wp ?_
        rw [begins_eq hv, Option.bind_some]
        refine wp_cnt (fun k => (k : Int)) j rfl (by omega) (fun k hk => ?_) (b := (j : Int)) ?_ ?_
        · have := bg_mono hv (j := k + 1) (k := j) (by omega) (by omega)
          rw [w64_id (by omega) (by omega), show ((k : Int) + 1) = ((k + 1 : Nat) : Int) by omega, at_bg (by omega), Option.bind_some, if_pos (by omega)]
        · rw [w64_id (by omega) (by omega), show ((j : Int) + 1) = ((j + 1 : Nat) : Int) by omega, at_bg (by omega), Option.bind_some, if_neg (by omega)]
        · have h1 := bg_big hv (k := j) (by omega)
          have h2 := fr_rng hv hj
          rw [at_bg (by omega), Option.bind_some, at_fr hj, Option.bind_some, w64_id (by omega) (by omega)]
          exact wp_some rfl
      · refine eq_of_wp ?_
        refine wp_loop (fun s : Int × Int => ∃ k : Nat, s = (ms - bg l k, (k : Int)) ∧ k ≤ j) (fun s => (l.length - s.2).toNat) ⟨0, by simp [bg], by omega⟩ (by simp only; omega) ?_
        rintro ⟨m, i⟩ ⟨k, he, hk⟩
        simp only [Prod.mk.injEq] at he
        obtain ⟨rfl, rfl⟩ := he
        simp only
        have h1 := bg_big hv (k := k) (by omega)
        have h2 := fr_rng hv (k := k) (by omega)
        rw [if_pos (by omega), at_fr (by omega), Option.bind_some]
        refine wp_ite (fun h => ?_) (fun h => ?_)
        · obtain rfl : k = j := by
            refine Classical.byContradiction fun hc => ?_
            have := bg_mono hv (j := k + 1) (k := j) (by omega) (by omega)
            rw [bg] at this; omega
          refine wp_some (wp_some ?_)
          rw [decide_eq_true (by omega)]
        · rw [Option.bind_some, Option.bind_some, w64_id (n := (fr l k).Light + (fr l k).Dark) (by omega) (by omega), w64_id (n := ms - bg l k - ((fr l k).Light + (fr l k).Dark)) (by omega) (by omega)]
          refine wp_ite (fun h3 => ?_) (fun h3 => ?_)
          · obtain rfl : k = j := by
              refine Classical.byContradiction fun hc => ?_
              have := bg_mono hv (j := k + 1) (k := j) (by omega) (by omega)
              rw [bg] at this; omega
            refine wp_some (wp_some ?_)
            rw [decide_eq_false (by omega)]
          · rw [w64_id (by omega) (by omega)]
            have hkj : k ≠ j := by
              rintro rfl
              rw [bg] at hj2; omega
            exact wp_some ⟨⟨k + 1, by rw [bg]; exact Prod.ext (by simp only; omega) rfl, by omega⟩, by simp only; omega⟩
    · simp only [hm, decide_false, Bool.false_eq_true, if_false]
      exact ⟨_, _, _, rfl, rfl, fun h => by cases h⟩
  · simp only [hv, decide_false, Bool.false_eq_true, if_false]
    exact ⟨_, _, _, rfl, rfl, fun h => by cases h⟩

theorem SameFrames_impl (a b : List GFrame) : impl_SameFrames a b = spec_SameFrames a b := by
  unfold impl_SameFrames spec_SameFrames slices_Equal_impl_Frame_impl_Frame_812
  cases (if (a.length : Int) = (b.length : Int) then _ else some false : Option Bool) <;> rfl
theorem SameFrames_eq (a b : List GFrame) (ha : a.length < 9223372036854775807) : ∃ r, spec_SameFrames a b = some r ∧ (a = b → r = true) := by
  unfold spec_SameFrames
  have := eqS (f := fun v1 v2 : GFrame => some (v1.Light == v2.Light && (v1.Dark == v2.Dark && true))) (c := fun v1 v2 => (v1.Light == v2.Light && (v1.Dark == v2.Dark && true))) a b (fun _ _ _ _ => rfl) ha
  simp only [Option.bind_some] at this
  refine ⟨_, this, ?_⟩
  rintro rfl
  simp only [decide_true, Bool.true_and, List.all_eq_true, id]
  intro x hx
  obtain ⟨i, hi, rfl⟩ := List.getElem_of_mem hx
  simp

/-- even frames -/
def evn (each pm : Int) : GFrame := ⟨max 1 (each * pm / 1000), each - max 1 (each * pm / 1000)⟩
theorem evn_rng {each pm : Int} (h : 1 ≤ each ∧ each ≤ 10000) (h2 : 1 ≤ pm ∧ pm ≤ 1000) : 0 ≤ each * pm ∧ each * pm / 1000 ≤ each ∧ 0 ≤ each * pm / 1000 ∧ each * pm ≤ 10000000 := by
  have m1 := mul_bd (a := each) (b := pm) (A := 10000) (B := 1000) (by omega) (by omega) (by omega) (by omega)
  have m0 : 0 ≤ each * pm := Int.mul_nonneg (by omega) (by omega)
  have m2 : each * pm ≤ each * 1000 := Int.mul_le_mul_of_nonneg_left h2.2 (by omega)
  omega
theorem EvenFrames_same (many each pm : Int) : ∃ l e, impl_EvenFrames many each pm = some (l, e) ∧ spec_EvenFrames many each pm = some (l, e) ∧ l.length ≤ 60 ∧ (e = 0 → (0 ≤ many ∧ many ≤ 60) ∧ (1 ≤ each ∧ each ≤ 10000) ∧ (1 ≤ pm ∧ pm ≤ 1000) ∧ l = tab (fun _ => evn each pm) many.toNat) := by
  by_cases h : (0 ≤ many ∧ many ≤ 60) ∧ (1 ≤ each ∧ each ≤ 10000) ∧ (1 ≤ pm ∧ pm ≤ 1000)
  · obtain ⟨h1, h2, h3⟩ := h
    obtain ⟨e1, e2, e3, e4⟩ := evn_rng h2 h3
    obtain ⟨m, rfl⟩ : ∃ m : Nat, many = (m : Int) := ⟨many.toNat, by omega⟩
    refine ⟨tab (fun _ => evn each pm) m, 0, ?_, ?_, by simp; omega, fun _ => ⟨h1, h2, h3, by simp⟩⟩
    · unfold impl_EvenFrames
      simp only [withinB, h1, h2, h3, and_self, decide_true, if_true, Option.bind_some, Bool.not_true, Bool.false_eq_true, if_false]
      rw [w64_id (n := each * pm) (by omega) (by omega), Int.tdiv_eq_ediv_of_nonneg e1, w64_id (n := each * pm / 1000) (by omega) (by omega), imax_def, w64_id (n := each - max (each * pm / 1000) 1) (by omega) (by omega)]
      refine eq_of_wp (wp_cnt (fun k => (tab (fun _ => evn each pm) k, (k : Int))) m rfl (by omega) (fun k hk => ?_) (b := tab (fun _ => evn each pm) m) ?_ (wp_some rfl))
      · simp only
        rw [if_pos (by omega), app_ok (by simp; omega), Option.bind_some, w64_id (by omega) (by omega), tab_succ, evn, Int.max_comm]
        rfl
      · simp only; rw [if_neg (by omega)]
    · unfold spec_EvenFrames
      simp only [inB, h1, h2, h3, and_self, decide_true, if_true, Option.bind_some, Bool.not_true, Bool.false_eq_true, if_false]
      rw [w64_id (n := each * pm) (by omega) (by omega), Int.tdiv_eq_ediv_of_nonneg e1, w64_id (n := each * pm / 1000) (by omega) (by omega), maxB, Option.bind_some, w64_id (n := each - max 1 (each * pm / 1000)) (by omega) (by omega)]
      refine eq_of_wp (wp_cnt (fun k => (tab (fun _ => evn each pm) k, (k : Int))) m rfl (by omega) (fun k hk => ?_) (b := tab (fun _ => evn each pm) m) ?_ (wp_some rfl))
      · simp only
        rw [if_pos (by omega), app_ok (by simp; omega), Option.bind_some, w64_id (by omega) (by omega), tab_succ, evn]
        rfl
      · simp only; rw [if_neg (by omega)]
  · refine ⟨[], 2, ?_, ?_, by simp, fun h => by cases h⟩
    · unfold impl_EvenFrames
      by_cases h1 : 0 ≤ many ∧ many ≤ 60 <;> by_cases h2 : 1 ≤ each ∧ each ≤ 10000 <;> by_cases h3 : 1 ≤ pm ∧ pm ≤ 1000 <;> simp [withinB, h1, h2, h3]
      exact (h ⟨h1, h2, h3⟩).elim
    · unfold spec_EvenFrames
      by_cases h1 : 0 ≤ many ∧ many ≤ 60 <;> by_cases h2 : 1 ≤ each ∧ each ≤ 10000 <;> by_cases h3 : 1 ≤ pm ∧ pm ≤ 1000 <;> simp [inB, h1, h2, h3]
      exact (h ⟨h1, h2, h3⟩).elim
theorem bg_even {each pm : Int} {m : Nat} : ∀ k, k ≤ m → bg (tab (fun _ => evn each pm) m) k = k * each
  | 0, _ => by simp [bg]
  | k + 1, h => by
    rw [bg, bg_even k (by omega)]
    have : fr (tab (fun _ => evn each pm) m) k = evn each pm := by unfold fr; rw [List.getD_eq_getElem?_getD, tab_get (by omega)]; rfl
    rw [this, Int.natCast_add, Int.add_mul]
    simp [evn]; omega
theorem vf_even {each pm : Int} {m : Nat} (hm : m ≤ 60) (h : 1 ≤ each ∧ each ≤ 10000) (h2 : 1 ≤ pm ∧ pm ≤ 1000) : vf (tab (fun _ => evn each pm) m) := by
  obtain ⟨e1, e2, e3, e4⟩ := evn_rng h h2
  refine ⟨by simpa using hm, fun f hf => ?_⟩
  obtain ⟨i, _, rfl⟩ := List.mem_map.1 hf
  simp only [evn]; omega
theorem SeenFrames_eq {l : List GFrame} {p ms : Int} (hl : l.length ≤ 1000000) : impl_SeenFrames l p ms = some (if vf l then (if (0 ≤ p ∧ p ≤ 500) ∧ (0 ≤ ms ∧ ms ≤ 10000000) then (sl (sn l p ms) l.length, 0) else ([], 2)) else ([], 1)) := by
  by_cases hv : vf l
  · by_cases hp : 0 ≤ p ∧ p ≤ 500
    · by_cases hm : 0 ≤ ms ∧ ms ≤ 10000000
      · rw [SeenFrames_of hv hp hm, if_pos hv, if_pos ⟨hp, hm⟩]
      · unfold impl_SeenFrames
        rw [framesCode_eq hl, Option.bind_some]
        simp [hv, hp, withinB, hm]
    · unfold impl_SeenFrames
      rw [framesCode_eq hl, Option.bind_some]
      simp [hv, hp, withinB]
  · unfold impl_SeenFrames
    rw [framesCode_eq hl, Option.bind_some]
    simp [hv, withinB]
theorem SeenFrames_spec {l : List GFrame} {p ms : Int} (hl : l.length ≤ 1000000) : spec_SeenFrames l p ms = some (if vf l then (if (0 ≤ p ∧ p ≤ 500) ∧ (0 ≤ ms ∧ ms ≤ 10000000) then (sl (sn l p ms) l.length, 0) else ([], 2)) else ([], 1)) := by
  unfold spec_SeenFrames
  rw [l16Ok_eq hl, Option.bind_some]
  by_cases hv : vf l
  · by_cases hp : 0 ≤ p ∧ p ≤ 500
    · by_cases hm : 0 ≤ ms ∧ ms ≤ 10000000
      · simp only [hv, decide_true, if_true, l16Persist_eq, hp, hm, and_self, Option.bind_some, inB, Bool.not_true, Bool.false_eq_true, if_false]
        rw [l16Seen_eq hv hp.1 hp.2]; rfl
      · simp [hv, hp, inB, hm, l16Persist_eq]
    · simp [hv, hp, l16Persist_eq]
  · simp [hv]
theorem f6intsF (a b : List Int) (ha : a.length < 9223372036854775807) : laws_f6ints a b = some (decide (a = b)) := by
  unfold laws_f6ints; exact eqSp a b ha
theorem f6has_eq (l : List Int) (n : Int) (hl : l.length < 9223372036854775807) : laws_f6has l n = some (decide (n ∈ l)) := by
  unfold laws_f6has
  rw [allS (f := fun v => some (!decide (v = n))) (fun v => !decide (v = n)) l (fun _ _ => rfl) hl (r := true) (fun i => by
    simp only [Option.bind_some]
    split
    · congr 1; funext v
      by_cases h : v = n <;> simp [h]
    · rfl)]
  split
  · rename_i h
    rw [decide_eq_false]
    intro hm
    simpa using h n hm
  · rename_i h
    rw [decide_eq_true]
    refine Classical.byContradiction fun hm => h fun x hx => ?_
    have : x ≠ n := by rintro rfl; exact hm hx
    simp [this]
theorem mem_sl {c : Nat → Bool} {j : Nat} : ∀ {k : Nat}, j < k → c j = true → (j : Int) ∈ sl c k
  | k + 1, h, hc => by
    rw [sl]
    rcases Nat.lt_or_ge j k with h1 | h1
    · have := mem_sl (c := c) h1 hc
      split <;> simp [this]
    · obtain rfl : j = k := by omega
      rw [if_pos hc]; simp

theorem DrawSeenFrames_ok {code : List Int} (hc : okL (okI .u8) code) (hl : code.length ≤ 1000000) : wp (spec_DrawSeenFrames code) (fun r => r.1.length ≤ 100) := by
  unfold spec_DrawSeenFrames
  refine wp_from hc hl fun s hs => wp_seq (l16Draw_ok hs (by omega)) fun r hr => wp_seq (l16DrawPersist_ok hr.2 (by omega)) fun q hq => wp_one hq (by omega) fun b s1 h1 => wp_ite (fun _ => ?_) (fun _ => ?_)
  · exact wp_among h1 (by omega) (by simp) (by simp) fun v s2 _ h2 => wp_some hr.1
  · exact wp_pick h1 (by omega) fun v s2 _ _ h2 => wp_some hr.1
theorem DrawEvenFrames_ok {code : List Int} (hc : okL (okI .u8) code) (hl : code.length ≤ 1000000) : wp (spec_DrawEvenFrames code) (fun r => True) := by
  unfold spec_DrawEvenFrames
  repeat' first
    | ((with_reducible apply wp_pick); assumption; omega; intro _ _ _ _ _; try simp only)
    | ((with_reducible apply wp_one); assumption; omega; intro _ _ _; try simp only)
    | ((with_reducible apply wp_among); assumption; omega; simp; simp; intro _ _ _ _; try simp only)
    | ((with_reducible apply wp_bent); assumption; omega; intro _ _ _; try simp only)
    | ((with_reducible apply wp_draw02); assumption; omega; intro _ _ _; try simp only)
    | ((with_reducible apply wp_from); assumption; omega; intro _ _; try simp only)
    | ((with_reducible refine wp_app ?_ ?_); ((try simp only [List.length_append, List.length_cons, List.length_nil]); omega); try simp only)
    | (with_reducible refine wp_ite ?_ ?_) <;> intro _
    | ((with_reducible refine wp_bind (wp_ite ?_ ?_))) <;> intro _
    | ((with_reducible refine wp_bind (wp_some ?_)); try simp only)
    | ((with_reducible refine wp_some ?_); try simp only)
    | exact trivial
    | exact SrcOk.mono (by assumption) (by omega)
theorem DrawSameFrames_ok {code : List Int} (hc : okL (okI .u8) code) (hl : code.length ≤ 1000000) : wp (spec_DrawSameFrames code) (fun r => r.1.length ≤ 100) := by
  unfold spec_DrawSameFrames
  refine wp_from hc hl fun s hs => wp_seq (l16Draw_ok hs (by omega)) fun r hr => ?_
  obtain ⟨h1, h2⟩ := hr
  refine wp_app (by simp; omega) ?_
  simp only [List.nil_append]
  refine wp_bind (wp_ite (fun h3 => ?_) (fun h3 => wp_some ?_))
  · refine wp_one h2 (by omega) fun b s1 h4 => wp_some ?_
    simp only
    refine wp_bind (wp_ite (fun _ => ?_) (fun _ => wp_some ?_))
    · rw [at_ok (by omega) (by simp; omega), Option.bind_some]
      refine wp_pick h4 (by omega) fun v s2 _ _ h5 => ?_
      rw [Option.bind_some]
      refine wp_some ?_
      simp only
      refine wp_one h5 (by omega) fun b2 s3 h6 => wp_ite (fun _ => ?_) (fun _ => wp_some h1)
      exact wp_app (by simp; omega) (wp_some h1)
    · simp only
      refine wp_one h4 (by omega) fun b2 s3 h6 => wp_ite (fun _ => ?_) (fun _ => wp_some h1)
      exact wp_app (by simp; omega) (wp_some h1)
  · simp only [Bool.false_eq_true, if_false, Option.bind_some]
    refine wp_one h2 (by omega) fun b2 s3 h6 => wp_ite (fun _ => ?_) (fun _ => wp_some h1)
    exact wp_app (by simp; omega) (wp_some h1)

theorem laws_FnShutters_true {code : List Int} (hc : okL (okI .u8) code) : laws_FnShutters code = some true := by
  unfold laws_FnShutters laws_f6big
  rw [Option.bind_some]
  refine ite_val (fun _ => rfl) (fun hl => ?_)
  simp only [decide_eq_true_eq] at hl
  obtain ⟨⟨l, p, ms⟩, d1, hl1⟩ := DrawSeenFrames_ok hc (by omega)
  obtain ⟨⟨mn, ea, pm⟩, d2, _⟩ := DrawEvenFrames_ok hc (by omega)
  obtain ⟨⟨a, b⟩, d3, hl3⟩ := DrawSameFrames_ok hc (by omega)
  simp only at hl1 hl3
  obtain ⟨k, lt, e1, p1, q1, r1⟩ := FrameAt_same (l := l) (by omega) ms
  obtain ⟨ev, e2, p2, q2, hev, r2⟩ := EvenFrames_same mn ea pm
  obtain ⟨se, g1, g2⟩ := SameFrames_eq ev ev (by omega)
  have g2 := g2 rfl
  obtain ⟨sf, g3, _⟩ := SameFrames_eq a b (by omega)
  have hV : spec_ValidFrames l = some (decide (vf l)) := by unfold spec_ValidFrames; rw [l16Ok_eq (by omega)]; rfl
  rw [d1, Option.bind_some]
  simp only
  rw [SeenFrames_eq (by omega), Option.bind_some, SeenFrames_spec (by omega), Option.bind_some, p1, Option.bind_some, q1, Option.bind_some, LeastPersist_eq (by omega), Option.bind_some, LeastPersist_spec (by omega), Option.bind_some, d2, Option.bind_some]
  simp only
  rw [p2, Option.bind_some, q2, Option.bind_some, d3, Option.bind_some]
  have hs60 := sl_len (sn l p ms) l.length
  have hF : ∀ x : List Int × Int, x = (if vf l then (if (0 ≤ p ∧ p ≤ 500) ∧ (0 ≤ ms ∧ ms ≤ 10000000) then (sl (sn l p ms) l.length, 0) else ([], 2)) else ([], 1)) → x.1.length ≤ 100 := by
    rintro x rfl
    repeat' split
    all_goals simp only [List.length_nil]
    all_goals omega
  have hF := hF _ rfl
  generalize hX : (if vf l then (if (0 ≤ p ∧ p ≤ 500) ∧ (0 ≤ ms ∧ ms ≤ 10000000) then (sl (sn l p ms) l.length, (0 : Int)) else ([], 2)) else ([], 1)) = X at *
  generalize hY : (if vf l then (if md l l.length > 500 then ((0 : Int), (3 : Int)) else (md l l.length, 0)) else (0, 1)) = Y at *
  simp only [if_true, f6intsF _ _ (show X.1.length < 9223372036854775807 by omega), decide_true, Option.bind_some, g1, g2, SameFrames_impl, g3, beq_self_eq_true, ValidFrames_eq (show l.length ≤ 1000000 by omega), hV, Bool.not_true, Bool.false_eq_true, if_false]
  refine (congrArg (fun o => onS o _ Empty.elim fun r => some r) (?_ : _ = some (Step.next ()))).trans ?_
  · refine ite_val (fun h => ?_) (fun _ => rfl)
    obtain ⟨u1, u2, u3, u4⟩ := r2 h
    subst u4
    have hvf := vf_even (m := mn.toNat) (by omega) u2 u3
    rw [TotalMillis_eq (by simp; omega), Option.bind_some, if_pos hvf]
    simp only [if_true, tab_length]
    have m1 := mul_bd (a := mn) (b := ea) (A := 60) (B := 10000) (by omega) (by omega) (by omega) (by omega)
    rw [bg_even _ (Nat.le_refl _), Int.toNat_of_nonneg u1.1, w64_id (by omega) (by omega), if_pos rfl]
  · rw [onS_next]
    refine (congrArg (fun o => onS o _ Empty.elim fun r => some r) (?_ : _ = some (Step.next ()))).trans ?_
    · refine ite_val (fun h => ?_) (fun _ => rfl)
      subst hY
      by_cases hv : vf l
      · rw [if_pos hv] at h ⊢
        by_cases hm : md l l.length > 500
        · rw [if_pos hm] at h; cases h
        · rw [if_neg hm]
          have hmr := md_rng hv
          simp only
          rw [GapsSeen_eq (by omega), Option.bind_some, if_pos hv, if_pos (show 0 ≤ md l l.length ∧ md l l.length ≤ 500 from ⟨hmr.1, by omega⟩)]
          have hz := (gp_zero hv hmr.1 l.length (Nat.le_refl _)).2.2 (Int.le_refl _)
          simp only [hz, if_true, decide_true, Bool.not_true, Option.bind_some, Bool.false_eq_true, if_false]
          refine ite_val (fun h5 => ?_) (fun _ => rfl)
          rw [w64_id (by omega) (by omega), GapsSeen_eq (by omega), Option.bind_some, if_pos hv, if_pos (show 0 ≤ md l l.length - 1 ∧ md l l.length - 1 ≤ 500 by omega)]
          simp only [if_true]
          have hz2 := gp_zero hv (p := md l l.length - 1) (by omega) l.length (Nat.le_refl _)
          have : gp l (md l l.length - 1) l.length ≠ 0 := fun hh => by have := hz2.2.1 hh; omega
          rw [if_neg (by omega)]
      · rw [if_neg hv] at h; cases h
    · rw [onS_next]
      subst hX
      by_cases hv : vf l
      · by_cases hpm : (0 ≤ p ∧ p ≤ 500) ∧ (0 ≤ ms ∧ ms ≤ 10000000)
        · rw [if_pos hv, if_pos hpm]
          simp only [if_true, Option.bind_some]
          by_cases he : e1 = 0
          · obtain ⟨_, j, rfl, hj, hj1, rfl⟩ := r1 he
            simp only [he, decide_true, Bool.not_true, Bool.false_eq_true, if_false]
            refine ite_val (fun hlt => ?_) (fun _ => rfl)
            have hlt := of_decide_eq_true hlt
            rw [f6has_eq _ _ (by omega), Option.bind_some, decide_eq_true]
            exact mem_sl hj (decide_eq_true ⟨hj1, by omega⟩)
          · simp only [he, decide_false, Bool.not_false, if_true]
        · rw [if_pos hv, if_neg hpm]
          simp
      · rw [if_neg hv]
        simp
end Go.Vs.G
