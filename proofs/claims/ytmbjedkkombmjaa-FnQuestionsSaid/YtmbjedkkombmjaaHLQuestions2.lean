/- Plain facts about the typed functions, up to the law: no program in sight. No conditions. -/
import Derived.Test.YtmbjedkkombmjaaV5
import Derived.Test.YtmbjedkkombmjaaDLQuestions
import Derived.Test.YtmbjedkkombmjaaHLQuestions1
namespace Go.Vs.G
open Go Go.Vs
theorem wp_onN {S B R α : Type} {Q : α → Prop} {X : Option (Step S B R)} {kn : S → Option α} {kb : B → Option α} {kr : R → Option α} {s : S} (h : X = some (.next s)) (h2 : wp (kn s) Q) : wp (onS X kn kb kr) Q := by rw [h]; exact h2
theorem signsR_len2 (m : Int) (l : List GCause) (s : List Int) : (signsR m l s).1.length ≤ 20 := by
  unfold signsR; split
  · exact sl_len _ _
  · simp
theorem bestQ_sure {m : Int} {l : List GCause} {seen : List Int} (h : (bestQR m l seen).2 = 0) : (sureR m l seen).2 = 0 ∧ (bestQR m l seen).1 ∉ (sureR m l seen).1 := by
  by_cases hc : code22 m l [] seen = 0
  · unfold bestQR at h ⊢
    unfold sureR
    rw [if_pos hc] at h ⊢
    rw [if_pos hc]
    generalize expl l seen = E at h ⊢
    by_cases he : E = []
    · rw [if_pos he] at h; cases h
    rw [if_neg he] at h ⊢
    rw [if_neg he]
    by_cases h2 : (bq E 0 l.length).2 = E.length
    · rw [if_pos h2] at h; cases h
    rw [if_neg h2]
    refine ⟨rfl, ?_⟩
    rcases bq_fst E 0 0 l.length with h3 | h3
    · exact absurd h3.1 h2
    · intro hm
      obtain ⟨j, g1, _, g2⟩ := mem_sl' hm
      simp only at g1
      rw [show (bq E 0 l.length).1.toNat = j by omega] at h3
      have := of_decide_eq_true g2
      omega
  · unfold bestQR at h; rw [if_neg hc] at h; exact absurd h hc
theorem laws_FnQuestions_true {code : List Int} (hc : okL (okI .u8) code) : laws_FnQuestions code = some true := by
  unfold laws_FnQuestions laws_f6big
  rw [Option.bind_some]
  by_cases hbig : (code.length : Int) > 4096
  · rw [decide_eq_true hbig]; rfl
  rw [decide_eq_false hbig, if_neg (by simp)]
  obtain ⟨⟨m, l, seen⟩, hd, ⟨⟨hl, hs⟩, hse⟩⟩ : wp (spec_DrawBestQuestion code) (fun r => drawnC r.2.1 ∧ r.2.2.length ≤ 20) := by
    unfold spec_DrawBestQuestion; exact wp_seq (l22Ask_ok hc (by omega)) fun r hr => wp_some hr
  obtain ⟨⟨a, b, some1⟩, hd2, ⟨⟨hb, hbs⟩, hso⟩⟩ := DrawSignsOf_ok hc (by omega)
  obtain ⟨⟨c, d, e, f⟩, hd3, ⟨⟨hdl, hds⟩, hel, hfl⟩⟩ := DrawExplainsSigns_ok hc (by omega)
  simp only at hl hs hse hb hbs hso hdl hds hel hfl
  have hl2 : l.length ≤ 1048576 := by omega
  have hse2 : seen.length ≤ 1048576 := by omega
  have q1 := signsR_len2 a b some1
  have q2 := signsR_len2 c d e
  have q3 := sureR_len2 (m := m) (l := l) (s := seen) hl
  rw [hd, Option.bind_some]
  simp only
  rw [hd2, hd3]
  simp only [BestQuestion_eq hl2 hs hse2, BestQuestion_spec hl2 hs hse2, AlikeCauses_eq hl2 hs, AlikeCauses_spec hl2 hs, SignsOf_eq (m := a) (l := b) (s := some1) (by omega) hbs (by omega), SignsOf_spec (m := a) (l := b) (s := some1) (by omega) hbs (by omega),
    ExplainsSigns_eq (m := c) (l := d) (s := e) (seen := f) (by omega) hds (by omega) (by omega), ExplainsSigns_spec (m := c) (l := d) (s := e) (seen := f) (by omega) hds (by omega) (by omega), SignsOf_eq (m := c) (l := d) (s := e) (by omega) hds (by omega), SureCauses_eq hl2 hs hse2, Option.bind_some,
    f6intsE (a := (signsR a b some1).1) (by omega), decide_true, if_true, beq_self_eq_true, Bool.not_true, Bool.false_eq_true, if_false]
  refine eq_of_wp ?_
  -- the pairs
  have hal : (alikeR m l).1.length ≤ 1048576 := by
    unfold alikeR
    split
    · rename_i hv
      have h3 := alAll_len l l.length
      have h7 : l.length * l.length ≤ 10 * 10 := Nat.mul_le_mul hv.2.1 hv.2.1
      simp only; omega
    · simp
  refine wp_cnt (fun k : Nat => (k : Int)) (alikeR m l).1.length rfl (by omega) (fun k hk => ?_) (b := ()) ?_ ?_
  · have hmem := List.getElem_mem hk
    rw [if_pos (by omega), at_of hk, Option.bind_some, Option.bind_some]
    generalize (alikeR m l).1[k] = row at hmem
    obtain ⟨i, j, g1, g2, g3, g4, rfl⟩ : ∃ j k : Nat, j < l.length ∧ j < k ∧ k < l.length ∧ sg l j = sg l k ∧ row = [(j : Int), (k : Int)] := by
      unfold alikeR at hmem
      split at hmem
      · exact mem_alAll hmem
      · simp at hmem
    have hi0 : at? ([(i : Int), (j : Int)] : List Int) 0 = some (i : Int) := rfl
    have hi1 : at? ([(i : Int), (j : Int)] : List Int) 1 = some (j : Int) := rfl
    have hsm := (hs _ (List.getElem_mem g1)).2
    rw [f6intsE (by simp), Option.bind_some, decide_eq_true rfl, if_pos rfl, Option.bind_some, if_pos (by simp), Option.bind_some, hi0, Option.bind_some, at_of g1, Option.bind_some, Option.bind_some, hi1, Option.bind_some, at_of g3, Option.bind_some, f6intsE hsm, Option.bind_some]
    rw [sg_get g1, sg_get g3] at g4
    rw [g4, decide_eq_true rfl, w64_id (by omega) (by omega)]
    rfl
  · rw [if_neg (by omega)]
  -- the signs that are shown
  refine wp_onN (s := ()) ?_ ?_
  · by_cases h3 : (signsR a b some1).2 = 0
    · rw [if_pos h3]
      have hc0 : code22 a b some1 [] = 0 := by
        refine Classical.byContradiction fun hn => ?_
        unfold signsR at h3; rw [if_neg hn] at h3; exact hn h3
      obtain ⟨hv, hr, _⟩ := code22_zero hc0
      have hf := hv.few hbs
      have h10 := hv.2.1
      refine eq_of_wp ?_
      refine wp_cnt (fun k : Nat => (k : Int)) some1.length rfl (by omega) (fun k hk => ?_) (b := ()) ?_ (wp_some rfl)
      · have hrg := hr.rng (List.getElem_mem hk)
        have hk2 : some1[k].toNat < b.length := by omega
        have ek : some1[k] = ((some1[k].toNat : Nat) : Int) := by omega
        have hat : at? b some1[k] = some b[some1[k].toNat] := (congrArg (at? b) ek).trans (at_of hk2)
        have hlen := sg_len hf hk2
        rw [sg_get hk2] at hlen
        rw [if_pos (by omega)]
        refine eq_of_wp ?_
        simp only [at_of hk, Option.bind_some, hat]
        refine wp_cnt (fun j : Nat => (j : Int)) b[some1[k].toNat].Signs.length rfl (by omega) (fun j hj => ?_) (b := ()) ?_ ?_
        · have hx := hf.2.1 _ (List.getElem_mem hk2) _ (List.getElem_mem hj)
          rw [if_pos (by omega), at_of hj, Option.bind_some, f6has_eq (by omega), Option.bind_some, if_pos, w64_id (by omega) (by omega)]
          · rfl
          · refine decide_eq_true ?_
            unfold signsR
            rw [if_pos hc0]
            refine mem_sl.2 ⟨b[some1[k].toNat].Signs[j].toNat, by omega, by omega, (sgN_test hf _ (Nat.le_refl _)).2 ⟨some1[k].toNat, hk2, ?_, ?_⟩⟩
            · unfold inS; rw [← ek]; exact decide_eq_true (List.getElem_mem hk)
            · rw [sg_get hk2, show ((b[some1[k].toNat].Signs[j].toNat : Nat) : Int) = b[some1[k].toNat].Signs[j] by omega]; exact List.getElem_mem hj
        · rw [if_neg (by omega)]
        · rw [w64_id (by omega) (by omega)]; exact wp_some rfl
      · rw [if_neg (by omega)]
    · rw [if_neg h3]
  refine wp_onN (s := ()) ?_ ?_
  · by_cases h3 : (explR c d e f).2 = 0
    · rw [if_pos h3]
      have hc0 : code22 c d e f = 0 := by
        refine Classical.byContradiction fun hn => ?_
        unfold explR at h3; rw [if_neg hn] at h3; exact hn h3
      obtain ⟨hv, hr, hr2⟩ := code22_zero hc0
      have hf := hv.few hds
      have hm := hv.1
      have hc1 : code22 c d e [] = 0 := by unfold code22; rw [if_pos hv, if_pos ⟨hr, rises_nil _ _⟩]
      have e1 : signsR c d e = (sl (sgN d (inS e) d.length).testBit 20, 0) := by unfold signsR; rw [if_pos hc1]
      have e2 : explR c d e f = (decide (sgN d (inS e) d.length = bitsN f), 0) := by unfold explR; rw [if_pos hc0]
      rw [e1] at q2
      rw [e1, e2, if_pos rfl, f6intsE (by omega), Option.bind_some]
      have h9 := sl_eq_iff (sgN_lt hf (inS e) (Nat.le_refl _)) hr2.rise (hr2.small (by omega))
      by_cases hx : sgN d (inS e) d.length = bitsN f
      · rw [decide_eq_true hx, decide_eq_true (h9.2 hx)]; rfl
      · rw [decide_eq_false hx, decide_eq_false (fun h => hx (h9.1 h))]; rfl
    · rw [if_neg h3]
  · refine wp_ite (fun h => ?_) (fun h => wp_some rfl)
    obtain ⟨h1, h2⟩ := bestQ_sure h
    rw [if_pos h1, f6has_eq (by omega), Option.bind_some, decide_eq_false h2]
    exact wp_some rfl
end Go.Vs.G

