/- Plain facts about the typed functions, up to the law: no program in sight. No conditions. -/
import Derived.Test.YtmbjedkkombmjaaV5
import Derived.Test.YtmbjedkkombmjaaDLCauses
import Derived.Test.YtmbjedkkombmjaaHLCauses1
namespace Go.Vs.G
open Go Go.Vs
theorem f6intsE {a b : List Int} (ha : a.length ≤ 1048576) : laws_f6ints a b = some (decide (a = b)) := eqSp a b (by omega)
theorem f6has_eq {l : List Int} {n : Int} (hl : l.length ≤ 1048576) : laws_f6has l n = some (decide (n ∈ l)) := by
  refine eq_of_wp ?_
  unfold laws_f6has
  refine wp_loop (fun i : Int => ∃ k : Nat, i = (k : Int) ∧ k ≤ l.length ∧ n ∉ l.take k) (fun i => (l.length - i).toNat) ⟨0, rfl, by omega, by simp⟩ (by omega) ?_
  rintro _ ⟨k, rfl, hk, hn⟩
  refine wp_ite (fun h => ?_) (fun h => ?_)
  · have hk2 : k < l.length := by omega
    rw [at_of hk2, Option.bind_some]
    refine wp_ite (fun h2 => wp_some (wp_some ?_)) (fun h2 => ?_)
    · rw [← h2, decide_eq_true (List.getElem_mem hk2)]
    · rw [w64_id (by omega) (by omega)]
      refine wp_some ⟨⟨k + 1, rfl, by omega, fun hm => ?_⟩, by omega⟩
      rcases (mem_take_succ hk2).1 hm with h3 | h3
      · exact hn h3
      · exact h2 h3.symm
  · obtain rfl : k = l.length := by omega
    rw [List.take_length] at hn
    exact wp_some (wp_some (decide_eq_false hn).symm)
/-- what a set that explains the signs tells -/
theorem expl_mem {l : List GCause} {seen : List Int} (hf : few20 l) {m : Int} (hr : rises seen 0 m) (hm : m < 20) {c : Nat → Bool} : sgN l c l.length = bitsN seen ↔ ∀ x : Int, x ∈ seen ↔ ∃ j : Nat, j < l.length ∧ c j = true ∧ x ∈ sg l j := by
  have hsm := hr.small hm
  constructor
  · intro h x
    constructor
    · intro hx
      have h0 := hsm x hx
      have h1 : (bitsN seen).testBit x.toNat = true := by
        rw [bitsN_test (fun v hv => (hsm v hv).1), show ((x.toNat : Nat) : Int) = x by omega]; exact decide_eq_true hx
      rw [← h] at h1
      obtain ⟨j, g1, g2, g3⟩ := (sgN_test hf c (Nat.le_refl _)).1 h1
      rw [show ((x.toNat : Nat) : Int) = x by omega] at g3
      exact ⟨j, g1, g2, g3⟩
    · rintro ⟨j, g1, g2, g3⟩
      have h0 := sg_small hf g1 x g3
      have h1 : (sgN l c l.length).testBit x.toNat = true := (sgN_test hf c (Nat.le_refl _)).2 ⟨j, g1, g2, by rwa [show ((x.toNat : Nat) : Int) = x by omega]⟩
      rw [h, bitsN_test (fun v hv => (hsm v hv).1), show ((x.toNat : Nat) : Int) = x by omega] at h1
      exact of_decide_eq_true h1
  · intro h
    refine Nat.eq_of_testBit_eq fun i => ?_
    rw [Bool.eq_iff_iff, sgN_test hf c (Nat.le_refl _), bitsN_test (fun v hv => (hsm v hv).1), decide_eq_true_eq, h]
theorem rises_sl {c : Nat → Bool} {n : Nat} : rises (sl c n) 0 ((n : Int) - 1) := by
  intro i hi
  obtain ⟨j, h1, h2, _⟩ := mem_sl' (List.getElem_mem hi)
  refine ⟨by omega, by omega, fun h0 => ?_⟩
  have := rise_sl c n
  unfold Rise at this
  rw [List.pairwise_iff_getElem] at this
  exact this (i - 1) i (by omega) hi (by omega)
theorem rises_of_rise {l : List Int} {a b : Int} (hr : Rise l) (h : ∀ v, v ∈ l → a ≤ v ∧ v ≤ b) : rises l a b := by
  intro i hi
  have h1 := h _ (List.getElem_mem hi)
  refine ⟨h1.1, h1.2, fun h0 => ?_⟩
  unfold Rise at hr
  rw [List.pairwise_iff_getElem] at hr
  exact hr (i - 1) i (by omega) hi (by omega)
theorem code22_of {m : Int} {l : List GCause} {s s' seen : List Int} (h : code22 m l s' seen = 0) (hr : rises s 0 (l.length - 1)) : code22 m l s seen = 0 := by
  obtain ⟨hv, _, h3⟩ := code22_zero h
  unfold code22
  rw [if_pos hv, if_pos ⟨hr, h3⟩]
theorem possR_len2 {m : Int} {l : List GCause} {s : List Int} (hl : l.length ≤ 12) : (possR m l s).1.length ≤ 12 := by
  unfold possR; split
  · exact Nat.le_trans (sl_len _ _) hl
  · simp
theorem sureR_len2 {m : Int} {l : List GCause} {s : List Int} (hl : l.length ≤ 12) : (sureR m l s).1.length ≤ 12 := by
  unfold sureR; split
  · split
    · simp
    · exact Nat.le_trans (sl_len _ _) hl
  · simp
theorem fewestR_len {m : Int} {l : List GCause} {s : List Int} (hl : l.length ≤ 12) : (fewestR m l s).1.length ≤ 12 := by
  unfold fewestR; split
  · split
    · simp
    · exact Nat.le_trans (ix_len _ _) hl
  · simp
theorem sureR_snd (m : Int) (l : List GCause) (s : List Int) : (sureR m l s).2 = (fewestR m l s).2 := by
  unfold sureR fewestR
  split
  · generalize expl l s = E
    match E with
    | [] => rfl
    | x :: r => simp
  · rfl
/-- the one that is told explains the signs with the fewest -/
theorem fewestR_ok {m : Int} {l : List GCause} {seen : List Int} (h : (fewestR m l seen).2 = 0) : code22 m l [] seen = 0 ∧ ∃ b, b ∈ expl l seen ∧ (fewestR m l seen).1 = ixs l.length b ∧ ∀ y, y ∈ expl l seen → (ixs l.length b).length ≤ (ixs l.length y).length := by
  by_cases hc : code22 m l [] seen = 0
  · refine ⟨hc, ?_⟩
    unfold fewestR at h ⊢
    rw [if_pos hc] at h ⊢
    generalize expl l seen = E at h
    match E, h with
    | [], h => cases h
    | x :: r, _ => exact ⟨_, fw_mem l.length r x, rfl, fw_min l.length r x⟩
  · unfold fewestR at h
    rw [if_neg hc] at h
    exact absurd h hc
theorem sureR_ok {m : Int} {l : List GCause} {seen : List Int} (hc : code22 m l [] seen = 0) (he : expl l seen ≠ []) : sureR m l seen = (sl (fun k => decide (cnt (expl l seen) k = (expl l seen).length)) l.length, 0) := by
  unfold sureR; rw [if_pos hc, if_neg he]
theorem inS_sl {c : Nat → Bool} {n i : Nat} (hi : i < n) : inS (sl c n) i = c i := by
  unfold inS
  by_cases h : c i = true
  · rw [h]; exact decide_eq_true (mem_sl.2 ⟨i, rfl, hi, h⟩)
  · rw [Bool.eq_false_iff.2 h]
    refine decide_eq_false fun hm => ?_
    obtain ⟨j, h1, _, h2⟩ := mem_sl' hm
    rw [show j = i by omega] at h2; exact h h2
/-- without one of them they explain no more -/
theorem fewer_not {m : Int} {l : List GCause} {seen : List Int} (hl : l.length ≤ 12) (hs : ∀ x, x ∈ l → smallC x) (hc : code22 m l [] seen = 0) {b : Nat} (hb : b ∈ expl l seen) (hmin : ∀ y, y ∈ expl l seen → (ixs l.length b).length ≤ (ixs l.length y).length) {i : Nat} (hi : i < (ixs l.length b).length) :
    explR m l ((ixs l.length b).take i ++ (ixs l.length b).drop (i + 1)) seen = (false, 0) := by
  obtain ⟨hv, _, h3⟩ := code22_zero hc
  have hm := hv.1
  have h10 := hv.2.1
  have hf := hv.few hs
  have hr0 := rise_sl b.testBit l.length
  generalize hL : ixs l.length b = L at hi hmin
  have hrL : Rise L := by rw [← hL]; exact hr0
  have hmL : ∀ v, v ∈ L → 0 ≤ v ∧ v < l.length := fun v hv => by rw [← hL] at hv; exact ix_rng v hv
  have hsub : (L.take i ++ L.drop (i + 1)).Sublist L := by
    have h1 : L = L.take i ++ L.drop i := (List.take_append_drop i L).symm
    conv => rhs; rw [h1]
    exact List.Sublist.append (List.Sublist.refl _) (List.drop_sublist_drop_left L (by omega))
  generalize hF : L.take i ++ L.drop (i + 1) = F at hsub
  have hrF : Rise F := by unfold Rise; exact List.Pairwise.sublist hsub hrL
  have hmF : ∀ v, v ∈ F → 0 ≤ v ∧ v < l.length := fun v hv => hmL v (hsub.subset hv)
  have hlen : F.length + 1 = L.length := by rw [← hF, List.length_append, List.length_take, List.length_drop]; omega
  have hcF : code22 m l F seen = 0 := code22_of hc (rises_of_rise hrF fun v hv => by have := hmF v hv; omega)
  unfold explR
  rw [if_pos hcF]
  refine Prod.ext (decide_eq_false fun he => ?_) rfl
  -- the set of those that are left
  have hsl : ixs l.length (bitsN F) = F := sl_bits hrF hmF
  have hb2 : bitsN F ∈ expl l seen := by
    refine mem_expl.2 ⟨?_, ?_⟩
    · refine Nat.lt_pow_two_of_testBit _ fun j hj => ?_
      rw [bitsN_test (fun v hv => (hmF v hv).1)]
      exact decide_eq_false fun hm => by have := hmF _ hm; omega
    · rw [bits_inS (fun v hv => (hmF v hv).1)]; exact he
  have := hmin _ hb2
  rw [hsl] at this
  omega
theorem laws_FnCauses_true {code : List Int} (hc : okL (okI .u8) code) : laws_FnCauses code = some true := by
  unfold laws_FnCauses laws_f6big
  rw [Option.bind_some]
  by_cases hbig : (code.length : Int) > 4096
  · rw [decide_eq_true hbig]; rfl
  rw [decide_eq_false hbig, if_neg (by simp)]
  obtain ⟨⟨m, l, seen⟩, hd, ⟨⟨hl, hs⟩, hse⟩⟩ : wp (spec_DrawFewestCauses code) (fun r => drawnC r.2.1 ∧ r.2.2.length ≤ 20) := by
    unfold spec_DrawFewestCauses; exact wp_seq (l22Ask_ok hc (by omega)) fun r hr => wp_some hr
  simp only at hl hs hse
  have hl2 : l.length ≤ 1048576 := by omega
  have hse2 : seen.length ≤ 1048576 := by omega
  have q1 := fewestR_len (m := m) (l := l) (s := seen) hl
  have q2 := sureR_len2 (m := m) (l := l) (s := seen) hl
  have q3 := possR_len2 (m := m) (l := l) (s := seen) hl
  have hval : spec_ValidCauses m l = impl_ValidCauses m l := by
    unfold spec_ValidCauses; rw [l22Ok_eq hl2 hs, ValidCauses_eq hl2 hs]; rfl
  obtain ⟨vb, hvb⟩ : ∃ vb, impl_ValidCauses m l = some vb := ⟨_, ValidCauses_eq hl2 hs⟩
  rw [hd, Option.bind_some]
  simp only
  simp only [FewestCauses_eq hl2 hs hse2, FewestCauses_spec hl2 hs hse2, SureCauses_eq hl2 hs hse2, SureCauses_spec hl2 hs hse2, PossibleCauses_eq hl2 hs hse2, PossibleCauses_spec hl2 hs hse2,
    CountExplanations_eq hl2 hs hse2, CountExplanations_spec hl2 hs hse2, Option.bind_some, f6intsE (a := (fewestR m l seen).1) (by omega), f6intsE (a := (sureR m l seen).1) (by omega), f6intsE (a := (possR m l seen).1) (by omega), decide_true, if_true, sureR_snd, hval, hvb, beq_self_eq_true, Bool.not_true, Bool.false_eq_true, if_false]
  have hcnt : ((if (countR m l seen).2 = 0 then (some (!((decide ((countR m l seen).1 > 0)) == (decide ((fewestR m l seen).2 = 0))))) else some false) : Option Bool) = some false := by
    by_cases h : (countR m l seen).2 = 0
    · rw [if_pos h]
      by_cases hc : code22 m l [] seen = 0
      · unfold countR fewestR
        rw [if_pos hc, if_pos hc]
        generalize expl l seen = E
        match E with
        | [] => rfl
        | x :: r => simp
      · unfold countR at h; rw [if_neg hc] at h; exact absurd h hc
    · rw [if_neg h]
  rw [hcnt, Option.bind_some]
  simp only [Bool.false_eq_true, if_false]
  by_cases hz : (fewestR m l seen).2 = 0
  · rw [if_pos hz]
    obtain ⟨hc0, b, hb, hfe, hmin⟩ := fewestR_ok hz
    obtain ⟨hv, _, h3⟩ := code22_zero hc0
    have hm := hv.1
    have h10 := hv.2.1
    have hf := hv.few hs
    have hbE := mem_expl.1 hb
    have hne : expl l seen ≠ [] := fun h => by rw [h] at hb; cases hb
    rw [hfe]
    have hlen := ix_len l.length b
    have hsee : ∀ x : Int, x ∈ seen ↔ ∃ j : Nat, j < l.length ∧ b.testBit j = true ∧ x ∈ sg l j := (expl_mem hf h3 (by omega)).1 hbE.2
    have hposs : possR m l seen = (sl (poss l seen) l.length, 0) := by unfold possR; rw [if_pos hc0]
    have he1 : impl_ExplainsSigns m l (ixs l.length b) seen = some (true, 0) := by
      rw [ExplainsSigns_eq hl2 hs (by omega) hse2]
      unfold explR
      rw [if_pos (code22_of hc0 rises_sl), sgN_congr (d := b.testBit) fun i hi => inS_sl hi, hbE.2, decide_eq_true rfl]
    have he2 : impl_ExplainsSigns m l (possR m l seen).1 seen = some (true, 0) := by
      rw [ExplainsSigns_eq hl2 hs (by omega) hse2, hposs]
      unfold explR
      rw [if_pos (code22_of hc0 rises_sl), sgN_congr (d := poss l seen) fun i hi => inS_sl hi]
      refine congrArg some (Prod.ext (decide_eq_true ?_) rfl)
      refine (expl_mem hf h3 (by omega)).2 fun x => ?_
      constructor
      · intro hx
        obtain ⟨j, g1, g2, g3⟩ := (hsee x).1 hx
        refine ⟨j, g1, ?_, g3⟩
        unfold poss
        rw [List.all_eq_true]
        exact fun y hy => decide_eq_true ((hsee y).2 ⟨j, g1, g2, hy⟩)
      · rintro ⟨j, g1, g2, g3⟩
        unfold poss at g2
        rw [List.all_eq_true] at g2
        exact of_decide_eq_true (g2 x g3)
    rw [he1, Option.bind_some, he2]
    simp only [if_true, Bool.not_true, Option.bind_some, Bool.false_eq_true, if_false]
    refine eq_of_wp ?_
    rw [sureR_ok hc0 hne]
    have hsl := sl_len (fun k => decide (cnt (expl l seen) k = (expl l seen).length)) l.length
    refine wp_cnt (fun k : Nat => (k : Int)) (sl (fun k => decide (cnt (expl l seen) k = (expl l seen).length)) l.length).length rfl (by omega) (fun k hk => ?_) (b := ()) ?_ ?_
    · simp only
      rw [if_pos (by omega), at_of hk, Option.bind_some, f6has_eq (by omega), Option.bind_some, if_pos ?_, w64_id (by omega) (by omega)]
      · rfl
      · refine decide_eq_true ?_
        obtain ⟨j, g1, g2, g3⟩ := mem_sl' (List.getElem_mem hk)
        rw [g1]
        exact mem_sl.2 ⟨j, rfl, g2, cnt_all.1 (of_decide_eq_true g3) b hb⟩
    · simp only; rw [if_neg (by omega)]
    · refine wp_cnt (fun k : Nat => (k : Int)) (ixs l.length b).length rfl (by omega) (fun k hk => ?_) (b := ()) ?_ ?_
      · have hfn := fewer_not hl hs hc0 hb hmin hk
        rw [if_pos (by omega), at_of hk, Option.bind_some, f6has_eq (by omega), Option.bind_some, if_pos ?_]
        · rw [w64_id (n := (k : Int) + 1) (by omega) (by omega), sub_ok (by omega) (by omega) (by omega), Option.bind_some, app_ok (by simp; omega), Option.bind_some, sub_ok (by omega) (by omega) (by omega), Option.bind_some, app_ok (by simp; omega), Option.bind_some]
          have e : ([] ++ List.drop (0 : Int).toNat (List.take (k : Int).toNat (ixs l.length b))) ++ List.drop ((k : Int) + 1).toNat (List.take ((ixs l.length b).length : Int).toNat (ixs l.length b)) = (ixs l.length b).take k ++ (ixs l.length b).drop (k + 1) := by
            simp only [Int.toNat_natCast, Int.toNat_zero, List.drop_zero, List.nil_append, List.take_length]
            rw [show ((k : Int) + 1).toNat = k + 1 by omega]
          rw [e, ExplainsSigns_eq hl2 hs (by simp; omega) hse2, hfn, Option.bind_some]
          rfl
        · refine decide_eq_true ?_
          obtain ⟨j, g1, g2, g3⟩ := mem_sl' (List.getElem_mem hk)
          rw [hposs, g1]
          refine mem_sl.2 ⟨j, rfl, g2, ?_⟩
          unfold poss
          rw [List.all_eq_true]
          exact fun y hy => decide_eq_true ((hsee y).2 ⟨j, g2, g3, hy⟩)
      · rw [if_neg (by omega)]
      · exact wp_some rfl
  · rw [if_neg hz]
end Go.Vs.G

