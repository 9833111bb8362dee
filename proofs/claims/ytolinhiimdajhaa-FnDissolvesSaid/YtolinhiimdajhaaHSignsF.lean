/- Causes that are alike; the exact laws on sure causes, the best question and alike causes. No conditions. -/
import Derived.Test.YtolinhiimdajhaaHSignsE
namespace Go.Vs
open Go
theorem flt_nil {α : Type} {P : Nat → Bool} {g : Nat → α} {k : Nat} (h : ∀ j, j < k → P j = false) : flt P g k = [] := by
  rw [List.eq_nil_iff_forall_not_mem]
  intro x hx
  obtain ⟨j, h1, h2, _⟩ := mem_flt.1 hx
  rw [h j h1] at h2; cases h2
end Go.Vs
namespace Go.Vs.G
open Go Go.Vs
/-- causes i and k are alike -/
def alk (l : List GCause) (i k : Nat) : Bool := decide (i < k) && decide (sg l i = sg l k)
def alRow (l : List GCause) (i k : Nat) : List (List Int) := flt (alk l i) (fun k => [(i : Int), (k : Int)]) k
def alAll (l : List GCause) : Nat → List (List Int)
  | 0 => []
  | i + 1 => alAll l i ++ alRow l i l.length
theorem alAll_len (l : List GCause) : ∀ i, (alAll l i).length ≤ i * l.length
  | 0 => by simp [alAll]
  | i + 1 => by
    have h1 := alAll_len l i
    have h2 : (alRow l i l.length).length ≤ l.length := flt_len _ _ _
    rw [alAll, List.length_append, Nat.add_mul]; omega
theorem mem_alAll {l : List GCause} {x : List Int} : ∀ {i : Nat}, x ∈ alAll l i → ∃ j k : Nat, j < i ∧ j < k ∧ k < l.length ∧ sg l j = sg l k ∧ x = [(j : Int), (k : Int)]
  | i + 1, h => by
    rw [alAll, List.mem_append] at h
    rcases h with h | h
    · obtain ⟨j, k, h1, h2⟩ := mem_alAll h; exact ⟨j, k, by omega, h2⟩
    · obtain ⟨k, h1, h2, h3⟩ := mem_flt.1 h
      unfold alk at h2
      rw [Bool.and_eq_true, decide_eq_true_eq, decide_eq_true_eq] at h2
      exact ⟨i, k, by omega, h2.1, h1, h2.2, h3.symm⟩
/-- the loop that both sides have -/
theorem alikeLoop {l : List GCause} (h10 : l.length ≤ 10) {T : Int → Int → Option Bool} (hT : ∀ i k : Nat, i < l.length → k < l.length → T i k = some (decide (sg l i = sg l k))) {body : List (List Int) × Int → Option (Step (List (List Int) × Int) (List (List Int)) Empty)}
    (hb : ∀ (out : List (List Int)) (i : Nat), i < l.length → body (out, (i : Int)) = onL (loop (S := ((List (List Int)) × Int)) (B := (List (List Int))) (R := Empty) (fun ((out2, k1) : (List (List Int)) × Int) =>
       if k1 < (l.length : Int) then ((T i k1).bind fun r2 => if r2 then ((app? out2 ([[(i : Int), k1]] : List (List Int))).bind fun l1 => some (.next (l1, w64 (k1 + 1)))) else some (.next (out2, w64 (k1 + 1)))) else some (.brk out2)) loopLim (out, w64 ((i : Int) + 1)))
       (fun (out3 : List (List Int)) => some (.next (out3, w64 ((i : Int) + 1)))) Empty.elim)
    (he : ∀ (out : List (List Int)), body (out, (l.length : Int)) = some (.brk out)) {α : Type} {kb : List (List Int) → Option α} {kr : Empty → Option α} : onL (loop body loopLim ([], 0)) kb kr = kb (alAll l l.length) := by
  have := loop_brk (body := body) (fun i => (alAll l i, (i : Int))) (b := alAll l l.length) l.length (by omega) (fun i hi => by
    rw [hb _ _ hi]
    have hl1 := alAll_len l i
    have hl2 : i * l.length ≤ 10 * 10 := Nat.mul_le_mul (by omega) h10
    refine eq_of_wp ?_
    refine wp_cnt (fun j => (alAll l i ++ alRow l i (i + 1 + j), ((i + 1 + j : Nat) : Int))) (l.length - (i + 1)) ?_ (by omega) (fun j hj => ?_) (b := alAll l (i + 1)) ?_ ?_
    · rw [alRow, flt_nil (fun j hj => by unfold alk; rw [decide_eq_false (by omega)]; rfl), List.append_nil, w64_id (by omega) (by omega)]; rfl
    · have hr : (alRow l i (i + 1 + j)).length ≤ i + 1 + j := flt_len _ _ _
      simp only
      rw [if_pos (by omega), hT i (i + 1 + j) hi (by omega), Option.bind_some, w64_id (by omega) (by omega), app_ok (by simp; omega), Option.bind_some]
      have hs : alRow l i (i + 1 + (j + 1)) = alRow l i (i + 1 + j) ++ if alk l i (i + 1 + j) = true then [[(i : Int), ((i + 1 + j : Nat) : Int)]] else [] := flt_succ _ _ _
      rw [hs]
      have ha : alk l i (i + 1 + j) = decide (sg l i = sg l (i + 1 + j)) := by unfold alk; rw [decide_eq_true (by omega), Bool.true_and]
      rw [ha]
      by_cases hc : sg l i = sg l (i + 1 + j)
      · simp only [hc, decide_true, if_true, List.append_assoc]; rfl
      · simp only [hc, decide_false, if_false, List.append_nil, Bool.false_eq_true]; rfl
    · have e : i + 1 + (l.length - (i + 1)) = l.length := by omega
      simp only
      rw [e, if_neg (by omega)]; rfl
    · rw [w64_id (by omega) (by omega)]; exact wp_some rfl) (he _)
  exact (congrArg (fun o => onL o kb kr) this)
open Classical in
noncomputable def alikeR (m : Int) (l : List GCause) : List (List Int) × Int := if vcs m l then (alAll l l.length, 0) else ([], 1)
open Classical in
theorem AlikeCauses_eq {m : Int} {l : List GCause} (hl : l.length ≤ 1048576) (hs : ∀ x, x ∈ l → smallC x) : impl_AlikeCauses m l = some (alikeR m l) := by
  unfold impl_AlikeCauses alikeR
  rw [ValidCauses_eq hl hs, Option.bind_some]
  by_cases hv : vcs m l
  · rw [decide_eq_true hv, if_pos rfl, if_pos hv]
    have h10 := hv.2.1
    refine alikeLoop h10 (T := fun i k => (at? l i).bind fun v1 => (at? l k).bind fun v2 => slices_Equal_int64_int64_811 v1.Signs v2.Signs) (fun i k hi hk => ?_) (fun out i hi => ?_) (fun out => ?_)
    · have := (hs _ (List.getElem_mem hi)).2
      simp only [at_of hi, at_of hk, Option.bind_some]
      rw [EqualL (by omega), sg_get hi, sg_get hk]
    · simp only
      rw [if_pos (by omega), at_of hi, Option.bind_some]
      refine congrArg (fun o => onL o _ _) (congrArg (fun b => loop b loopLim _) ?_)
      funext ⟨o, k⟩
      simp only
      split
      · rw [Option.bind_some, Option.bind_assoc]
      · rfl
    · simp only; rw [if_neg (by omega)]
  · rw [decide_eq_false hv, if_neg (by simp), if_neg hv]
theorem bitsN_inj {a b : List Int} (ha : Rise a) (hb : Rise b) (sa : small20 a) (sb : small20 b) : bitsN a = bitsN b ↔ a = b :=
  ⟨fun h => by rw [← sl_bits (n := 20) ha (fun v hv => by have := sa v hv; omega), h, sl_bits hb (fun v hv => by have := sb v hv; omega)], fun h => by rw [h]⟩
open Classical in
theorem AlikeCauses_spec {m : Int} {l : List GCause} (hl : l.length ≤ 1048576) (hs : ∀ x, x ∈ l → smallC x) : spec_AlikeCauses m l = some (alikeR m l) := by
  unfold spec_AlikeCauses alikeR
  rw [l22Ok_eq hl hs, Option.bind_some]
  by_cases hv : vcs m l
  · rw [decide_eq_true hv, if_pos rfl, if_pos hv]
    have h10 := hv.2.1
    have hf := hv.few hs
    refine alikeLoop h10 (T := fun i k => (at? l i).bind fun v1 => (spec_l22Bits v1.Signs).bind fun r2 => (at? l k).bind fun v2 => (spec_l22Bits v2.Signs).bind fun r3 => some (decide (r2 = r3))) (fun i k hi hk => ?_) (fun out i hi => ?_) (fun out => ?_)
    · have h1 := List.getElem_mem hi
      have h2 := List.getElem_mem hk
      simp only [at_of hi, at_of hk, Option.bind_some, l22Bits_eq (hf.2.1 _ h1) (hf.2.2.1 _ h1), l22Bits_eq (hf.2.1 _ h2) (hf.2.2.1 _ h2)]
      rw [sg_get hi, sg_get hk]
      refine congrArg some (decide_eq_decide.2 ?_)
      rw [← bitsN_inj (hf.2.2.2 _ h1) (hf.2.2.2 _ h2) (hf.2.1 _ h1) (hf.2.1 _ h2)]
      omega
    · simp only
      rw [if_pos (by omega)]
      refine congrArg (fun o => onL o _ _) (congrArg (fun b => loop b loopLim _) ?_)
      funext ⟨o, k⟩
      simp only
      split
      · simp only [Option.bind_assoc, Option.bind_some, decide_eq_true_eq]
      · rfl
    · simp only; rw [if_neg (by omega)]
  · rw [decide_eq_false hv, if_neg (by simp), if_neg hv]

theorem sureR_len (m : Int) (l : List GCause) (s : List Int) (hl : l.length ≤ 1048576) : (sureR m l s).1.length ≤ 1048576 := by
  unfold sureR; split
  · split
    · simp
    · exact Nat.le_trans (sl_len _ _) hl
  · simp
theorem laws_FnExactSureCauses_true {m : Int} {a : List GCause} {s : List Int} (hm : okI .i64 m) (ha : okL GCause.ok a) (hs : okL (okI .i64) s) : laws_FnExactSureCauses m a s = some true := by
  unfold laws_FnExactSureCauses
  split
  · rfl
  rename_i hsl
  have hsl : s.length ≤ 1048576 := by omega
  obtain ⟨r1, h1, h2⟩ := szCauseS_eq ha (left := 1048576) (by omega) (by omega)
  rw [h1, Option.bind_some]
  split
  · rfl
  rename_i hr
  obtain ⟨hl, hsm⟩ := smallCs h2 hr
  have hlen := sureR_len m a s hl
  simp only [toCauseS_eq hl hsm, toInt64S_eq (a := s) (by omega), Option.bind_some, SureCauses_eq hl hsm hsl, SureCauses_spec hl hsm hsl, laws_eqInt64S_eq (a := (sureR m a s).1) (by omega), eqCauseS_eq hl hsm, eqInt64S_eqF (a := s) hsl, decide_true, if_true, Bool.not_true, Bool.false_eq_true, if_false]
  refine Eq.trans ?_ (exactL (m1 := laws_markCauseS a 1) (m2 := fun k => laws_markInt64S s k) (markCauseS_ok (by omega) (by omega) hl hsm) (fun k h0 h1 => ⟨_, _, laws_markInt64S_eq h0 (by omega) (by omega), by omega⟩) (w := sureR m a s) (again := some (sureR m a s)) rfl hlen)
  simp only [Option.bind_some, laws_eqInt64S_eq (a := (sureR m a s).1) (by omega), decide_true, if_true, Bool.not_true, Bool.false_eq_true, if_false]
theorem laws_FnExactBestQuestion_true {m : Int} {a : List GCause} {s : List Int} (hm : okI .i64 m) (ha : okL GCause.ok a) (hs : okL (okI .i64) s) : laws_FnExactBestQuestion m a s = some true := by
  unfold laws_FnExactBestQuestion
  split
  · rfl
  rename_i hsl
  have hsl : s.length ≤ 1048576 := by omega
  obtain ⟨r1, h1, h2⟩ := szCauseS_eq ha (left := 1048576) (by omega) (by omega)
  rw [h1, Option.bind_some]
  split
  · rfl
  rename_i hr
  obtain ⟨hl, hsm⟩ := smallCs h2 hr
  simp only [toCauseS_eq hl hsm, toInt64S_eq (a := s) (by omega), Option.bind_some, BestQuestion_eq hl hsm hsl, BestQuestion_spec hl hsm hsl, eqCauseS_eq hl hsm, eqInt64S_eqF (a := s) hsl, decide_true, if_true, Bool.not_true, Bool.false_eq_true, if_false]
/-- lists of lists of numbers: compared, marked -/
theorem eqInt64SS_eq {a b : List (List Int)} (ha : a.length ≤ 1048576) (hs : ∀ x, x ∈ a → x.length ≤ 1048576) : laws_eqInt64SS a b = some (decide (a = b)) := by
  rw [← zip_eq (c := fun x y => decide (x = y)) (fun _ _ => rfl)]
  exact eqS (c := fun x y => decide (x = y)) a b (fun x hx y _ => eqInt64S_eqF (hs x hx)) (by omega)
/-- rows of two, marked -/
def mk2 (k : Int) (i : Nat) : List Int := [k + 2 * (i : Int), k + 2 * (i : Int) + 1]
theorem mk2_tab (k : Int) (j : Nat) : mk2 k j = tab (fun i => (k + 2 * (j : Int)) + (i : Int)) 2 := by unfold mk2; rw [tab_succ, tab_succ, tab_zero]; simp
theorem markSS_eq {a : List (List Int)} {k : Int} (h0 : 0 ≤ k) (h1 : k ≤ 1048576) (ha : a.length ≤ 1048576) (hs : ∀ x, x ∈ a → x.length = 2) : laws_markInt64SS a k = some (k + 2 * a.length, tab (mk2 k) a.length) := by
  refine eq_of_wp ?_
  unfold laws_markInt64SS
  refine wp_loop (fun s : List (List Int) × Int × Int => ∃ j : Nat, s.2.2 = (j : Int) ∧ j ≤ a.length ∧ s.2.1 = k + 2 * j ∧ s.1.length = a.length ∧ (∀ i, i < j → s.1[i]? = some (mk2 k i)) ∧ ∀ i, j ≤ i → s.1[i]? = a[i]?) (fun s => (a.length - s.2.2).toNat) ⟨0, rfl, by omega, by simp, rfl, by simp, fun i _ => rfl⟩ (by simp; omega) ?_
  rintro ⟨a2, k2, i⟩ ⟨j, rfl, hj, rfl, hl, hv, hw⟩
  simp only at hj hl hv hw ⊢
  refine wp_ite (fun h => ?_) (fun h => ?_)
  · have hj2 : j < a2.length := by omega
    have hj3 : j < a.length := by omega
    have he : a2[j] = a[j] := by
      have := hw j (Nat.le_refl _)
      rw [List.getElem?_eq_getElem hj2, List.getElem?_eq_getElem hj3] at this
      exact Option.some.inj this
    have h2 := hs _ (List.getElem_mem hj3)
    rw [at_of hj2, Option.bind_some, he, laws_markInt64S_eq (by omega) (by omega) (by omega), Option.bind_some, h2, w64_id (by omega) (by omega)]
    refine wp_some ⟨⟨j + 1, by simp, by omega, by simp only; omega, by simp [hl], fun i hi => ?_, fun i hi => ?_⟩, by simp only; omega⟩
    · simp only [Int.toNat_natCast, List.getElem?_set]
      by_cases h3 : j = i
      · subst h3; simp only [if_true, hj2]; exact congrArg some (mk2_tab k j).symm
      · rw [if_neg h3]; exact hv i (by omega)
    · simp only [Int.toNat_natCast]
      rw [List.getElem?_set_ne (by omega)]; exact hw i (by omega)
  · refine wp_some (wp_some ?_)
    obtain rfl : j = a.length := by omega
    congr 1
    apply List.ext_getElem?
    intro i
    by_cases hi : i < a.length
    · rw [hv i hi, tab_get hi]
    · rw [List.getElem?_eq_none (by simp only; omega), List.getElem?_eq_none (by simp; omega)]
theorem heldSS_tab {n : Nat} {k : Int} (h0 : 0 ≤ k) (h1 : k ≤ 1048576) (hn : n ≤ 1048576) : laws_heldInt64SS (tab (mk2 k) n) k = some (k + 2 * n) := by
  refine eq_of_wp ?_
  unfold laws_heldInt64SS
  refine wp_loop (fun s : Int × Int => ∃ j : Nat, s.2 = (j : Int) ∧ j ≤ n ∧ s.1 = k + 2 * j) (fun s => (n - s.2).toNat) ⟨0, rfl, by omega, by simp⟩ (by simp; omega) ?_
  rintro ⟨k2, i⟩ ⟨j, rfl, hj, rfl⟩
  simp only at hj ⊢
  simp only [tab_length]
  refine wp_ite (fun h => ?_) (fun h => ?_)
  · have e := mk2_tab k j
    rw [tab_at (by omega) (by omega), Option.bind_some, Int.toNat_natCast, e, laws_heldInt64S_tab (by omega) (by omega) (by omega), Option.bind_some, if_neg (by omega), w64_id (by omega) (by omega)]
    exact wp_some ⟨⟨j + 1, by simp, by omega, by simp only; omega⟩, by simp only; omega⟩
  · exact wp_some (wp_some (by omega))
theorem laws_FnExactAlikeCauses_true {m : Int} {a : List GCause} (hm : okI .i64 m) (ha : okL GCause.ok a) : laws_FnExactAlikeCauses m a = some true := by
  unfold laws_FnExactAlikeCauses
  obtain ⟨r1, h1, h2⟩ := szCauseS_eq ha (left := 1048576) (by omega) (by omega)
  rw [h1, Option.bind_some]
  split
  · rfl
  rename_i hr
  obtain ⟨hl, hsm⟩ := smallCs h2 hr
  obtain ⟨k, b, h4, h5, h6⟩ := markCauseS_ok (k := 1) (by omega) (by omega) hl hsm
  have hrow : ∀ x, x ∈ (alikeR m a).1 → x.length = 2 := fun x hx => by
    unfold alikeR at hx
    split at hx
    · obtain ⟨j, k, _, _, _, _, rfl⟩ := mem_alAll hx; rfl
    · simp at hx
  have hlen : (alikeR m a).1.length ≤ 1048576 := by
    unfold alikeR
    split
    · rename_i hv
      have h3 := alAll_len a a.length
      have h7 : a.length * a.length ≤ 10 * 10 := Nat.mul_le_mul hv.2.1 hv.2.1
      simp only; omega
    · simp
  have heq := eqInt64SS_eq (a := (alikeR m a).1) (b := (alikeR m a).1) hlen (fun x hx => by rw [hrow x hx]; omega)
  simp only [toCauseS_eq hl hsm, Option.bind_some, AlikeCauses_eq hl hsm, AlikeCauses_spec hl hsm, heq, eqCauseS_eq hl hsm, h4, decide_true, if_true, Bool.not_true, Bool.false_eq_true, if_false]
  rw [if_neg (by omega)]
  simp only [Option.bind_some, Bool.false_eq_true, if_false]
  rw [markSS_eq (by omega) (by omega) hlen hrow, Option.bind_some]
  simp only
  rw [heldSS_tab (by omega) (by omega) hlen, Option.bind_some, if_neg (by omega), if_pos rfl, Option.bind_some, if_neg (by omega), if_pos rfl]
end Go.Vs.G
