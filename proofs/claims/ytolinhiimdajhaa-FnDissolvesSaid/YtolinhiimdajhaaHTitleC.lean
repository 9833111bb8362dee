/- Titles: whole titles; marks. No conditions. -/
import Derived.Test.YtolinhiimdajhaaHTitleB
namespace Go.Vs.G
open Go Go.Vs

theorem laws_eqInt64S_eq {a b : List Int} (ha : a.length ≤ 9223372036854775806) : laws_eqInt64S a b = some (decide (a = b)) := eqSp a b (by omega)

theorem laws_markInt64S_eq {a : List Int} {k : Int} (h0 : 0 ≤ k) (h1 : k ≤ 1152921504606846976) (ha : a.length ≤ 1073741824) : laws_markInt64S a k = some (k + a.length, tab (fun i => k + (i : Int)) a.length) := by
  refine eq_of_wp ?_
  unfold laws_markInt64S
  refine wp_loop (fun s : List Int × Int × Int => ∃ j : Nat, s.2.2 = (j : Int) ∧ j ≤ a.length ∧ s.2.1 = k + j ∧ s.1.length = a.length ∧ ∀ i, i < j → s.1[i]? = some (k + (i : Int))) (fun s => (a.length - s.2.2).toNat) ⟨0, rfl, by omega, by simp, rfl, by simp⟩ (by simp; omega) ?_
  rintro ⟨a2, k2, i⟩ ⟨j, rfl, hj, rfl, hl, hv⟩
  simp only at hj hl hv ⊢
  refine wp_ite (fun h => ?_) (fun h => ?_)
  · rw [at_of (by omega), Option.bind_some, w64_id (n := (j : Int) + 1) (by omega) (by omega), w64_id (by omega) (by omega)]
    refine wp_some ⟨⟨j + 1, by simp, by omega, by simp only; omega, by simp [hl], fun i hi => ?_⟩, by simp only; omega⟩
    simp only [Int.toNat_natCast, List.getElem?_set]
    by_cases h2 : j = i
    · subst h2; simp [show j < a2.length by omega]
    · rw [if_neg h2]; exact hv i (by omega)
  · refine wp_some (wp_some ?_)
    obtain rfl : j = a.length := by omega
    congr 1
    apply List.ext_getElem?
    intro i
    by_cases hi : i < a.length
    · rw [hv i hi, tab_get hi]
    · rw [List.getElem?_eq_none (by simp only; omega), List.getElem?_eq_none (by simp; omega)]
theorem laws_heldInt64S_tab {n : Nat} {k : Int} (h0 : 0 ≤ k) (h1 : k ≤ 1073741824) (hn : n ≤ 1073741824) : laws_heldInt64S (tab (fun i => k + (i : Int)) n) k = some (k + n) := by
  refine eq_of_wp ?_
  unfold laws_heldInt64S
  refine wp_loop (fun s : Int × Int => ∃ j : Nat, s.2 = (j : Int) ∧ j ≤ n ∧ s.1 = k + j) (fun s => (n - s.2).toNat) ⟨0, rfl, by omega, by simp⟩ (by simp; omega) ?_
  rintro ⟨k2, i⟩ ⟨j, rfl, hj, rfl⟩
  simp only at hj ⊢
  simp only [tab_length]
  refine wp_ite (fun h => ?_) (fun h => ?_)
  · rw [tab_at (by omega) (by omega), Option.bind_some, Int.toNat_natCast, if_pos rfl, w64_id (n := (j : Int) + 1) (by omega) (by omega), w64_id (by omega) (by omega)]
    exact wp_some ⟨⟨j + 1, by simp, by omega, by simp only; omega⟩, by simp only; omega⟩
  · exact wp_some (wp_some (by omega))
theorem laws_markText_ok {k : Int} (h0 : 0 ≤ k) (h1 : k ≤ 2147483648) : ∃ s, laws_markText k = some s := by
  have : wp (laws_markText k) (fun _ => True) := by
    unfold laws_markText
    refine wp_ite (fun h => ?_) (fun h => ?_)
    · exact wp_some trivial
    · refine wp_loop (fun s : Int × List UInt8 => 0 ≤ s.1 ∧ s.2.length + s.1 ≤ k) (fun s => s.1.toNat) ⟨by simp only; omega, by simp⟩ (by simp only; omega) ?_
      rintro ⟨k2, out⟩ ⟨h2, h3⟩
      simp only at h2 h3 ⊢
      refine wp_ite (fun h => ?_) (fun h => ?_)
      · have hd : k2.tdiv 10 = k2 / 10 := Int.tdiv_eq_ediv_of_nonneg h2
        rw [app_ok (by simp [b2s]; omega), Option.bind_some, hd, w64_id (n := k2 / 10) (by omega) (by omega)]
        exact wp_some ⟨⟨by simp only; omega, by simp [b2s]; omega⟩, by simp only; omega⟩
      · refine wp_some ?_
        show wp ((app? ([109] : List UInt8) out).bind fun s2 => some s2) fun _ => True
        rw [app_ok (by simp; omega), Option.bind_some]
        exact wp_some trivial
  obtain ⟨s, hs, _⟩ := this
  exact ⟨s, hs⟩
theorem laws_markTitleS_ok {a : List GTitle} {k : Int} (h0 : 0 ≤ k) (h1 : k ≤ 1048576) (ha : a.length ≤ 1048576) : ∃ b, laws_markTitleS a k = some (k + a.length * 4, b) := by
  have hh := markS (step := 4) (g := fun x k2 => (laws_markText (w64 (k2 + 1))).bind fun r => some (GTitle.mk k2 r (k2 + 2) (k2 + 3), k2 + 4)) (by omega) (by omega) (fun x k2 h0 h1 => by
      obtain ⟨s, hs⟩ := laws_markText_ok (k := k2 + 1) (by omega) (by omega)
      rw [w64_id (by omega) (by omega), hs]; exact ⟨_, rfl⟩) a h0 h1 ha (body := fun ((a2, k2, i1) : (List GTitle) × Int × Int) =>
 if i1 < (a2.length : Int) then
 ((at? a2 i1).bind fun v1 =>
 (laws_markText (w64 (k2 + 1))).bind fun r1 =>
 (at? (a2.set i1.toNat (GTitle.mk k2 v1.Name v1.Glass v1.Broken)) i1).bind fun v2 =>
 (at? ((a2.set i1.toNat (GTitle.mk k2 v1.Name v1.Glass v1.Broken)).set i1.toNat (GTitle.mk v2.No r1 v2.Glass v2.Broken)) i1).bind fun v3 =>
 (at? (((a2.set i1.toNat (GTitle.mk k2 v1.Name v1.Glass v1.Broken)).set i1.toNat (GTitle.mk v2.No r1 v2.Glass v2.Broken)).set i1.toNat (GTitle.mk v3.No v3.Name (w64 ((w64 (k2 + 1)) + 1)) v3.Broken)) i1).bind fun v4 =>
 some (.next ((((a2.set i1.toNat (GTitle.mk k2 v1.Name v1.Glass v1.Broken)).set i1.toNat (GTitle.mk v2.No r1 v2.Glass v2.Broken)).set i1.toNat (GTitle.mk v3.No v3.Name (w64 ((w64 (k2 + 1)) + 1)) v3.Broken)).set i1.toNat (GTitle.mk v4.No v4.Name v4.Glass (w64 ((w64 ((w64 (k2 + 1)) + 1)) + 1))), w64 ((w64 ((w64 ((w64 (k2 + 1)) + 1)) + 1)) + 1), w64 (i1 + 1))))
 else
 some (.brk (a2, k2))) ?hb ?he
  case hb =>
    intro a2 k2 i hl h0 h1 hi
    have h5 : (i : Int) < (a2.length : Int) := by omega
    obtain ⟨s, hs⟩ := laws_markText_ok (k := k2 + 1) (by omega) (by omega)
    simp only [h5, if_true, at_of hi, Option.bind_some, Int.toNat_natCast]
    rw [w64_id (n := k2 + 1) (by omega) (by omega), hs]
    simp only [Option.bind_some]
    rw [at_of (by simpa using hi)]
    simp only [Option.bind_some, List.getElem_set_self]
    rw [at_of (by simpa using hi)]
    simp only [Option.bind_some, List.getElem_set_self]
    rw [at_of (by simpa using hi)]
    simp only [Option.bind_some, List.getElem_set_self, List.set_set]
    rw [w64_id (n := k2 + 1 + 1) (by omega) (by omega), w64_id (n := k2 + 1 + 1 + 1) (by omega) (by omega), w64_id (n := k2 + 1 + 1 + 1 + 1) (by omega) (by omega), w64_id (n := (i : Int) + 1) (by omega) (by omega)]
    have e1 : k2 + 1 + 1 = k2 + 2 := by omega
    have e2 : k2 + 1 + 1 + 1 = k2 + 3 := by omega
    have e3 : k2 + 1 + 1 + 1 + 1 = k2 + 4 := by omega
    rw [e1] at *
    simp only [show k2 + 2 + 1 = k2 + 3 by omega, show k2 + 3 + 1 = k2 + 4 by omega]
  case he =>
    intro a2 k2 hl
    simp [hl]
  obtain ⟨b, hb, h⟩ := hh
  exact ⟨b, h⟩

def wholeNos (l : List GTitle) (k : Nat) : List Int := ((l.take k).filter (fun x => decide (x.Broken = 0))).map (·.No)
theorem wholeNos_succ {l : List GTitle} {k : Nat} (hk : k < l.length) : wholeNos l (k + 1) = if l[k].Broken = 0 then wholeNos l k ++ [l[k].No] else wholeNos l k := by
  unfold wholeNos
  rw [List.take_add_one, List.getElem?_eq_getElem hk]
  simp only [Option.toList, List.filter_append, List.map_append]
  split
  · rename_i h; simp [h]
  · rename_i h; simp [h]
theorem wholeNos_len (l : List GTitle) (k : Nat) : (wholeNos l k).length ≤ k := by
  unfold wholeNos
  rw [List.length_map]
  exact Nat.le_trans (List.length_filter_le _ _) (by simp; omega)
theorem wholeLoop {l : List GTitle} (hlen : l.length ≤ 20) {kb : List Int → Option (List Int × Int)} {kr : Empty → Option (List Int × Int)} {body : List Int × Int → Option (Step (List Int × Int) (List Int) Empty)} (hb : ∀ (out : List Int) (i : Nat), out.length ≤ 20 → (hi : i < l.length) → body (out, (i : Int)) = some (.next (if l[i].Broken = 0 then out ++ [l[i].No] else out, (i : Int) + 1)))
    (he : ∀ out, body (out, (l.length : Int)) = some (.brk out)) : onL (loop body loopLim ([], 0)) kb kr = kb (wholeNos l l.length) := by
  have := loop_brk (body := body) (fun j => (wholeNos l j, (j : Int))) (b := wholeNos l l.length) l.length (by omega) (fun j hj => by
    have hbd := wholeNos_len l j
    rw [hb _ _ (by omega) hj, wholeNos_succ hj]; rfl) (he _)
  exact (congrArg (fun o => onL o kb kr) this)
theorem impl_WholeTitles_eq {l : List GTitle} (hl : okL GTitle.ok l) (hlen : l.length ≤ 1048576) : impl_WholeTitles l = some (if titlesOk l = true then (wholeNos l l.length, 0) else ([], 1)) := by
  unfold impl_WholeTitles
  rw [impl_ValidTitles_eq hl hlen, Option.bind_some]
  split
  · rename_i h
    have h20 := titlesOk_len h
    refine wholeLoop h20 (fun out i h0 hi => ?_) (fun no => by simp)
    have h5 : (i : Int) < (l.length : Int) := by omega
    simp only [h5, if_true, at_of hi, Option.bind_some]
    rw [w64_id (n := (i : Int) + 1) (by omega) (by omega)]
    split
    · rw [app_ok (by simp; omega), Option.bind_some]
    · rfl
  · rfl
theorem spec_WholeTitles_eq {l : List GTitle} (hl : okL GTitle.ok l) (hlen : l.length ≤ 1048576) : spec_WholeTitles l = some (if titlesOk l = true then (wholeNos l l.length, 0) else ([], 1)) := by
  unfold spec_WholeTitles
  rw [spec_l23Ok_eq hl hlen, Option.bind_some]
  split
  · rename_i h
    have h20 := titlesOk_len h
    refine wholeLoop h20 (fun out i h0 hi => ?_) (fun no => by simp)
    have h5 : (i : Int) < (l.length : Int) := by omega
    simp only [h5, if_true, at_of hi, Option.bind_some]
    rw [w64_id (n := (i : Int) + 1) (by omega) (by omega)]
    split
    · rw [app_ok (by simp; omega), Option.bind_some]
    · rfl
  · rfl
theorem laws_FnExactWholeTitles_true {a : List GTitle} (ha : okL GTitle.ok a) : laws_FnExactWholeTitles a = some true := by
  obtain ⟨r1, h1, h2, h3⟩ := laws_szTitleS_eq ha (left := 1048576) (by omega) (by omega)
  unfold laws_FnExactWholeTitles
  rw [h1, Option.bind_some]
  split
  · rfl
  · have hl : a.length ≤ 1048576 := by omega
    obtain ⟨b, hb⟩ := laws_markTitleS_ok (a := a) (k := 1) (by omega) (by omega) hl
    simp only [laws_toTitleS_eq hl, spec_WholeTitles_eq ha hl, impl_WholeTitles_eq ha hl, laws_eqTitleS_eq hl, Option.bind_some, hb]
    generalize hw : (if titlesOk a = true then (wholeNos a a.length, (0 : Int)) else ([], 1)) = w
    have hwl : w.1.length ≤ 1048576 := by
      rw [← hw]; split
      · exact Nat.le_trans (wholeNos_len _ _) hl
      · simp
    simp only [laws_eqInt64S_eq (a := w.1) (b := w.1) (by omega), Option.bind_some, decide_true, if_true, Bool.not_true, Bool.false_eq_true, if_false]
    rw [if_neg (by omega)]
    simp only [laws_markInt64S_eq (a := w.1) (k := 1) (by omega) (by omega) (by omega), Option.bind_some, laws_heldInt64S_tab (k := 1) (n := w.1.length) (by omega) (by omega) (by omega), Bool.false_eq_true, if_false, if_true]
    rw [if_neg (by omega), if_neg (by omega)]
end Go.Vs.G
