/- Plain facts about the typed functions, up to the law: no program in sight. No conditions. -/
import Derived.Test.YtidikckodadjoaaGreatDoorV5
import Derived.Test.YtidikckodadjoaaGreatDoorDLScripts
import Derived.Lib.ItoaNum
import Derived.Lib.ParseIntB
import Derived.Lib.Strings
import Derived.Lib.SplitLaws
import Derived.Test.YtidikckodadjoaaGreatDoorHLScripts1
namespace Go.Vs.G
open Go Go.Vs

abbrev wSlide : List UInt8 := [115, 108, 105, 100, 101]
abbrev wAt : List UInt8 := [97, 116]
def rowS (s : List UInt8) : List UInt8 := wSlide ++ 32 :: s
def rowA (a : GAct) : List UInt8 := wAt ++ 32 :: (txt a.Tick ++ 32 :: (a.Word ++ 32 :: (a.Slide ++ if a.Word = wTurn then 32 :: txt a.Many else [])))
def cat (rs : List (List UInt8)) : List UInt8 := rs.flatMap fun r => r ++ [10]
theorem cat_app (a b : List (List UInt8)) : cat (a ++ b) = cat a ++ cat b := by unfold cat; rw [List.flatMap_append]
theorem cat_one (r : List UInt8) : cat [r] = r ++ [10] := by simp [cat]
theorem spl_cat : ∀ {rs : List (List UInt8)}, (∀ r, r ∈ rs → (10 : UInt8) ∉ r) → spl 10 (cat rs) = rs ++ [[]]
  | [], _ => rfl
  | r :: rs, h => by
    have : cat (r :: rs) = r ++ 10 :: cat rs := by simp [cat]
    rw [this, spl_app (h r (by simp)), spl_cat fun q hq => h q (by simp [hq])]; rfl
def rws (x : GScript) : List (List UInt8) := x.Slides.map rowS ++ x.Acts.map rowA
def stx (x : GScript) : List UInt8 := cat (rws x)
/- valid scripts have small parts -/
structure AO (x : GScript) (a : GAct) : Prop where
  w : a.Word = wShow ∨ a.Word = wHide ∨ a.Word = wTurn
  s : a.Slide ∈ x.Slides
  t : 0 ≤ a.Tick ∧ a.Tick ≤ 10000
  m : 0 ≤ a.Many ∧ a.Many ≤ 1000
  z : a.Many = 0 ∨ a.Word = wTurn
theorem actC_ao {x : GScript} {a : GAct} (h : actC x a = 0) : AO x a := by
  unfold actC at h
  split at h
  · cases h
  · rename_i g1
    split at h
    · cases h
    · rename_i g2
      split at h
      · cases h
      · rename_i g3
        simp only [Bool.not_eq_false, Bool.or_eq_true, decide_eq_true_eq, Bool.and_eq_true] at g1 g2 g3
        exact ⟨g1, g2, g3.1, g3.2.1, g3.2.2⟩
theorem VS.act {x : GScript} (h : VS x) {i : Nat} (hi : i < x.Acts.length) : AO x (gd x.Acts i) := by
  have := actC_ao (h.2 i hi)
  exact ⟨this.w, this.s, this.t, this.m, this.z⟩
theorem sldC_name {l : List (List UInt8)} {s : List UInt8} (h : sldC l s = 0) : isName s = true := by
  unfold sldC at h
  split at h
  · cases h
  · rename_i g; simpa using g
theorem name_ok {s : List UInt8} (h : isName s = true) : s ≠ [] ∧ s.length ≤ 12 ∧ (32 : UInt8) ∉ s ∧ (10 : UInt8) ∉ s := by
  cases s with
  | nil => simp [isName] at h
  | cons c t =>
    simp only [isName, Bool.and_eq_true, decide_eq_true_eq] at h
    refine ⟨by simp, by simp; omega, fun hm => ?_, fun hm => ?_⟩
    · have := List.all_eq_true.1 h.2 32 hm
      exact absurd this (by decide)
    · have := List.all_eq_true.1 h.2 10 hm
      exact absurd this (by decide)
theorem VS.name {x : GScript} (h : VS x) {s : List UInt8} (hs : s ∈ x.Slides) : s ≠ [] ∧ s.length ≤ 12 ∧ (32 : UInt8) ∉ s ∧ (10 : UInt8) ∉ s := by
  obtain ⟨i, hi, rfl⟩ := List.mem_iff_getElem.1 hs
  have := h.1 i hi
  rw [gd_of hi] at this
  exact name_ok (sldC_name this)
/- the words of the rows -/
theorem no32 (n : Int) : (32 : UInt8) ∉ txt n := fun hm => (txt_mem hm).elim (by decide) (fun h => absurd h.1 (by decide))
theorem no10 (n : Int) : (10 : UInt8) ∉ txt n := fun hm => (txt_mem hm).elim (by decide) (fun h => absurd h.1 (by decide))
theorem word_no {w : List UInt8} (h : w = wShow ∨ w = wHide ∨ w = wTurn) : (32 : UInt8) ∉ w ∧ (10 : UInt8) ∉ w ∧ w ≠ [] ∧ w.length ≤ 4 := by
  rcases h with rfl | rfl | rfl <;> decide
theorem wds_rowS {s : List UInt8} (h : s ≠ [] ∧ s.length ≤ 12 ∧ (32 : UInt8) ∉ s ∧ (10 : UInt8) ∉ s) : wds (rowS s) = [wSlide, s] := by
  unfold wds rowS
  rw [spl_app (by decide), spl_no h.2.2.1]
  simp [h.1]
theorem wds_rowA {x : GScript} {a : GAct} (h : AO x a) (hs : a.Slide ≠ [] ∧ a.Slide.length ≤ 12 ∧ (32 : UInt8) ∉ a.Slide ∧ (10 : UInt8) ∉ a.Slide) : wds (rowA a) = [wAt, txt a.Tick, a.Word, a.Slide] ++ if a.Word = wTurn then [txt a.Many] else [] := by
  obtain ⟨w1, w2, w3, w4⟩ := word_no h.w
  unfold wds rowA
  rw [spl_app (by decide), spl_app (no32 _), spl_app w1]
  by_cases hT : a.Word = wTurn
  · rw [if_pos hT, if_pos hT, spl_app hs.2.2.1, spl_no (no32 _)]
    simp [txt_ne, w3, hs.1]
  · rw [if_neg hT, if_neg hT, List.append_nil, spl_no hs.2.2.1]
    simp [txt_ne, w3, hs.1]
theorem rowS_10 {s : List UInt8} (h : (10 : UInt8) ∉ s) : (10 : UInt8) ∉ rowS s := by
  unfold rowS
  simp [h]
theorem rowA_10 {x : GScript} {a : GAct} (h : AO x a) (hs : (10 : UInt8) ∉ a.Slide) : (10 : UInt8) ∉ rowA a := by
  obtain ⟨w1, w2, w3, w4⟩ := word_no h.w
  unfold rowA
  have n1 := no10 a.Tick
  have n2 := no10 a.Many
  by_cases hT : a.Word = wTurn
  · rw [if_pos hT]; simp [hs, w2, n1, n2]
  · rw [if_neg hT]; simp [hs, w2, n1]
theorem rowF_S {x : GScript} {s : List UInt8} (hs : x.Slides.length ≤ 60) (h : s ≠ [] ∧ s.length ≤ 12 ∧ (32 : UInt8) ∉ s ∧ (10 : UInt8) ∉ s) : rowF x (rowS s) = sldR x s := by
  have hl : (rowS s).length ≤ 1000000 := by unfold rowS; simp; omega
  unfold rowF impl_Script_addRow
  rw [SplitWords_eq hl, wds_rowS h]
  simp [at0, at1, addSlide_eqL hs (show s.length ≤ 1000000 by omega)]
theorem rowA_len {x : GScript} {a : GAct} (h : AO x a) (hs : a.Slide.length ≤ 12) : (rowA a).length ≤ 70 := by
  obtain ⟨w1, w2, w3, w4⟩ := word_no h.w
  obtain ⟨t0, t1⟩ := h.t
  obtain ⟨m0, m1⟩ := h.m
  have l1 := txt_len (n := a.Tick) (by omega) (by omega)
  have l2 := txt_len (n := a.Many) (by omega) (by omega)
  unfold rowA
  split <;> simp <;> omega
theorem rowF_A {x : GScript} {a : GAct} (hs : x.Slides.length ≤ 60) (ha : x.Acts.length ≤ 60) {y : GScript} (h : AO y a) (hn : a.Slide ≠ [] ∧ a.Slide.length ≤ 12 ∧ (32 : UInt8) ∉ a.Slide ∧ (10 : UInt8) ∉ a.Slide) : rowF x (rowA a) = actR x a := by
  have hl := rowA_len h hn.2.1
  obtain ⟨t0, t1⟩ := h.t
  obtain ⟨m0, m1⟩ := h.m
  unfold rowF impl_Script_addRow
  rw [SplitWords_eq (by omega), wds_rowA h hn]
  have r1 := ReadDecimal_txt (n := a.Tick) (by omega) (by omega)
  have r2 := ReadDecimal_txt (n := a.Many) (by omega) (by omega)
  by_cases hT : a.Word = wTurn
  · rw [if_pos hT]
    simp [at0, at1, at2, at3, at4, hT, r1, r2, addAct_eq hs ha]
    rw [← hT]
  · rw [if_neg hT]
    have hz : a.Many = 0 := h.z.resolve_right hT
    simp [at0, at1, at2, at3, hT, r1, addAct_eq hs ha]
    rw [← hz]
/- reading back -/
theorem cat_takeS {x : GScript} {k : Nat} (hk : k < x.Slides.length) : cat ((x.Slides.take (k + 1)).map rowS) = cat ((x.Slides.take k).map rowS) ++ (rowS (gd x.Slides k) ++ [10]) := by
  rw [← take_snoc hk, List.map_append, cat_app, List.map_singleton, cat_one]
theorem cat_takeA {x : GScript} {k : Nat} (hk : k < x.Acts.length) : cat ((x.Acts.take (k + 1)).map rowA) = cat ((x.Acts.take k).map rowA) ++ (rowA (gd x.Acts k) ++ [10]) := by
  rw [← take_snoc hk, List.map_append, cat_app, List.map_singleton, cat_one]
theorem gd_rwsS {x : GScript} {i : Nat} (hi : i < x.Slides.length) : gd (rws x ++ [[]]) i = rowS (gd x.Slides i) := by
  unfold rws
  rw [List.append_assoc, gd_app1 (by simpa using hi), gd_of (by simpa using hi), gd_of hi, List.getElem_map]
theorem gd_rwsA {x : GScript} {i : Nat} (hi : i < x.Acts.length) : gd (rws x ++ [[]]) (x.Slides.length + i) = rowA (gd x.Acts i) := by
  unfold rws
  rw [List.append_assoc, gd_append, if_neg (by simp), List.length_map, show x.Slides.length + i - x.Slides.length = i by omega, gd_app1 (by simpa using hi), gd_of (by simpa using hi), gd_of hi, List.getElem_map]
theorem cat_len {B : Nat} : ∀ {rs : List (List UInt8)}, (∀ r, r ∈ rs → r.length ≤ B) → (cat rs).length ≤ rs.length * (B + 1)
  | [], _ => by simp [cat]
  | r :: rs, h => by
    have h1 := h r (by simp)
    have h2 := cat_len (rs := rs) fun q hq => h q (by simp [hq])
    have : cat (r :: rs) = r ++ 10 :: cat rs := by simp [cat]
    rw [this]
    simp only [List.length_append, List.length_cons]
    rw [Nat.succ_mul]; omega
section
variable {x : GScript} (hx : VS x)
include hx
theorem VS.slide {i : Nat} (hi : i < x.Acts.length) : (gd x.Acts i).Slide ≠ [] ∧ (gd x.Acts i).Slide.length ≤ 12 ∧ (32 : UInt8) ∉ (gd x.Acts i).Slide ∧ (10 : UInt8) ∉ (gd x.Acts i).Slide := hx.name (hx.act hi).s
theorem rws_10 : ∀ r, r ∈ rws x → (10 : UInt8) ∉ r := by
  intro r hr
  unfold rws at hr
  rcases List.mem_append.1 hr with h | h
  · obtain ⟨s, hs, rfl⟩ := List.mem_map.1 h
    exact rowS_10 (hx.name hs).2.2.2
  · obtain ⟨a, ha, rfl⟩ := List.mem_map.1 h
    obtain ⟨i, hi, rfl⟩ := List.mem_iff_getElem.1 ha
    have h1 := hx.act hi
    have h2 := hx.slide hi
    rw [gd_of hi] at h1 h2
    exact rowA_10 h1 h2.2.2.2
theorem rdK_S : ∀ {k : Nat}, k ≤ x.Slides.length → rdK (rws x ++ [[]]) k = (GScript.mk (x.Slides.take k) [], [])
  | 0, _ => rfl
  | k + 1, hk => by
    have h60 := hx.lens.1
    have hm : gd x.Slides k ∈ x.Slides := by rw [gd_of (show k < x.Slides.length by omega)]; exact List.getElem_mem _
    have hc := hx.1 k (by omega)
    simp only [rdK]
    rw [rdK_S (k := k) (by omega), gd_rwsS (by omega), rowF_S (by simp; omega) (hx.name hm)]
    unfold sldR
    simp only [hc, if_true]
    rw [take_snoc (by omega)]
theorem rdK_A : ∀ {k : Nat}, k ≤ x.Acts.length → rdK (rws x ++ [[]]) (x.Slides.length + k) = (GScript.mk x.Slides (x.Acts.take k), [])
  | 0, _ => by
    have := rdK_S hx (k := x.Slides.length) (by omega)
    rw [List.take_length] at this
    exact this
  | k + 1, hk => by
    obtain ⟨h60, ha60⟩ := hx.lens
    have hc := hx.2 k (by omega)
    rw [← Nat.add_assoc]
    simp only [rdK]
    rw [rdK_A (k := k) (by omega), gd_rwsA (by omega), rowF_A (by simp only; omega) (by simp; omega) (hx.act (by omega)) (hx.slide (by omega))]
    unfold actR
    simp only [hc, if_true]
    rw [take_snoc (by omega)]
theorem rdK_all : rdK (rws x ++ [[]]) (rws x ++ [[]]).length = (x, []) := by
  have hl : (rws x ++ [[]]).length = x.Slides.length + x.Acts.length + 1 := by unfold rws; simp; omega
  have h0 : gd (rws x ++ [[]]) (x.Slides.length + x.Acts.length) = [] := by
    have : x.Slides.length + x.Acts.length = (rws x).length := by unfold rws; simp
    rw [this, gd_app2]
  rw [hl]
  simp only [rdK]
  have := rdK_A hx (k := x.Acts.length) (by omega)
  rw [List.take_length] at this
  rw [this, h0]
  have hr : rowF (GScript.mk x.Slides x.Acts) [] = (0, GScript.mk x.Slides x.Acts) := by
    unfold rowF impl_Script_addRow
    rw [SplitWords_eq (by simp)]
    rfl
  simp only [hr, if_true]
theorem stx_back (hl : (stx x).length ≤ 3000) : rsR (stx x) = (x, [], 0) := by
  unfold rsR
  rw [if_pos hl]
  unfold stx
  rw [spl_cat (rws_10 hx), rdK_all hx]
theorem catS_len (k : Nat) : (cat ((x.Slides.take k).map rowS)).length ≤ 1140 := by
  have h60 := hx.lens.1
  have := cat_len (B := 18) (rs := (x.Slides.take k).map rowS) fun r hr => by
    obtain ⟨s, hs, rfl⟩ := List.mem_map.1 hr
    have := (hx.name (List.mem_of_mem_take hs)).2.1
    unfold rowS; simp; omega
  have h2 : ((x.Slides.take k).map rowS).length ≤ 60 := by simp; omega
  have := Nat.mul_le_mul_right (18 + 1) h2
  omega
theorem catA_len (k : Nat) : (cat ((x.Acts.take k).map rowA)).length ≤ 4260 := by
  have h60 := hx.lens.2
  have := cat_len (B := 70) (rs := (x.Acts.take k).map rowA) fun r hr => by
    obtain ⟨a, ha, rfl⟩ := List.mem_map.1 hr
    obtain ⟨i, hi, rfl⟩ := List.mem_iff_getElem.1 (List.mem_of_mem_take ha)
    have h1 := hx.act hi
    have h2 := hx.slide hi
    rw [gd_of hi] at h1 h2
    exact rowA_len h1 h2.2.1
  have h2 : ((x.Acts.take k).map rowA).length ≤ 60 := by simp; omega
  have := Nat.mul_le_mul_right (70 + 1) h2
  omega
theorem stx_len : (stx x).length ≤ 5400 := by
  have h1 := catS_len hx x.Slides.length
  have h2 := catA_len hx x.Acts.length
  rw [List.take_length] at h1 h2
  unfold stx rws
  rw [cat_app, List.length_append]; omega
theorem textS {γ : Type} {kb : List UInt8 → Option γ} {kr : Empty → Option γ} : onL (loop (S := ((List UInt8) × Int)) (B := (List UInt8)) (R := Empty) (fun ((out1, i1) : (List UInt8) × Int) =>
 if i1 < (x.Slides.length : Int) then
 ((at? x.Slides i1).bind fun v1 =>
 (app? ([115, 108, 105, 100, 101, 32] : List UInt8) v1).bind fun s1 =>
 (app? (s1 : List UInt8) [10]).bind fun s2 =>
 (app? (out1 : List UInt8) s2).bind fun s3 =>
 some (.next (s3, w64 (i1 + 1))))
 else
 some (.brk out1)) loopLim ([], 0)) kb kr = kb (cat (x.Slides.map rowS)) := by
  have h60 := hx.lens.1
  have := loop_brk (body := fun ((out1, i1) : (List UInt8) × Int) =>
   if i1 < (x.Slides.length : Int) then
   ((at? x.Slides i1).bind fun v1 =>
   (app? ([115, 108, 105, 100, 101, 32] : List UInt8) v1).bind fun s1 =>
   (app? (s1 : List UInt8) [10]).bind fun s2 =>
   (app? (out1 : List UInt8) s2).bind fun s3 =>
   some (Step.next (R := Empty) (s3, w64 (i1 + 1))))
   else
   some (.brk out1)) (fun k => (cat ((x.Slides.take k).map rowS), (k : Int))) x.Slides.length (by omega) (fun k hk => ?_) (b := cat (x.Slides.map rowS)) ?_
  · rw [show (([] : List UInt8), (0 : Int)) = (cat ((x.Slides.take 0).map rowS), ((0 : Nat) : Int)) from rfl, this]; rfl
  · simp only
    have hm : gd x.Slides k ∈ x.Slides := by rw [gd_of hk]; exact List.getElem_mem _
    have hn := (hx.name hm).2.1
    have hc := catS_len hx k
    rw [if_pos (by omega), at_gd hk, Option.bind_some, app_ok (by simp only [List.length_append, List.length_cons, List.length_nil]; omega), Option.bind_some, app_ok (by simp only [List.length_append, List.length_cons, List.length_nil]; omega), Option.bind_some, app_ok (by simp only [List.length_append, List.length_cons, List.length_nil]; omega), Option.bind_some, w64_id (by omega) (by omega), cat_takeS hk]
    rfl
  · simp only; rw [if_neg (by omega), List.take_length]
theorem textA {dec : Int → Option (List UInt8)} (hd : ∀ n : Int, 0 ≤ n → n ≤ 10000 → dec n = some (txt n)) {γ : Type} {o : List UInt8} (ho : o.length ≤ 2000) {kb : List UInt8 → Option γ} {kr : Empty → Option γ} : onL (loop (S := ((List UInt8) × Int)) (B := (List UInt8)) (R := Empty) (fun ((out3, x3) : (List UInt8) × Int) =>
 if x3 < (x.Acts.length : Int) then
 ((at? x.Acts x3).bind fun v2 =>
 (dec v2.Tick).bind fun r2 =>
 (app? ([97, 116, 32] : List UInt8) r2).bind fun s4 =>
 (app? (s4 : List UInt8) [32]).bind fun s5 =>
 (app? (s5 : List UInt8) v2.Word).bind fun s6 =>
 (app? (s6 : List UInt8) [32]).bind fun s7 =>
 (app? (s7 : List UInt8) v2.Slide).bind fun s8 =>
 (app? (out3 : List UInt8) s8).bind fun s9 =>
 if (v2.Word == [116, 117, 114, 110]) then
 ((dec v2.Many).bind fun r3 =>
 (app? ([32] : List UInt8) r3).bind fun s10 =>
 (app? (s9 : List UInt8) s10).bind fun s11 =>
 (app? (s11 : List UInt8) [10]).bind fun s12 =>
 some (.next (s12, w64 (x3 + 1))))
 else
 (app? (s9 : List UInt8) [10]).bind fun s13 =>
 some (.next (s13, w64 (x3 + 1))))
 else
 some (.brk out3)) loopLim (o, 0)) kb kr = kb (o ++ cat (x.Acts.map rowA)) := by
  have h60 := hx.lens.2
  have := loop_brk (body := fun ((out3, x3) : (List UInt8) × Int) =>
   if x3 < (x.Acts.length : Int) then
   ((at? x.Acts x3).bind fun v2 =>
   (dec v2.Tick).bind fun r2 =>
   (app? ([97, 116, 32] : List UInt8) r2).bind fun s4 =>
   (app? (s4 : List UInt8) [32]).bind fun s5 =>
   (app? (s5 : List UInt8) v2.Word).bind fun s6 =>
   (app? (s6 : List UInt8) [32]).bind fun s7 =>
   (app? (s7 : List UInt8) v2.Slide).bind fun s8 =>
   (app? (out3 : List UInt8) s8).bind fun s9 =>
   if (v2.Word == [116, 117, 114, 110]) then
   ((dec v2.Many).bind fun r3 =>
   (app? ([32] : List UInt8) r3).bind fun s10 =>
   (app? (s9 : List UInt8) s10).bind fun s11 =>
   (app? (s11 : List UInt8) [10]).bind fun s12 =>
   some (Step.next (R := Empty) (s12, w64 (x3 + 1))))
   else
   (app? (s9 : List UInt8) [10]).bind fun s13 =>
   some (.next (s13, w64 (x3 + 1))))
   else
   some (.brk out3)) (fun k => (o ++ cat ((x.Acts.take k).map rowA), (k : Int))) x.Acts.length (by omega) (fun k hk => ?_) (b := o ++ cat (x.Acts.map rowA)) ?_
  · rw [show (o, (0 : Int)) = (o ++ cat ((x.Acts.take 0).map rowA), ((0 : Nat) : Int)) by simp [cat], this]; rfl
  · simp only
    have h1 := hx.act hk
    have h2 := (hx.slide hk).2.1
    obtain ⟨w1, w2, w3, w4⟩ := word_no h1.w
    obtain ⟨t0, t1⟩ := h1.t
    obtain ⟨m0, m1⟩ := h1.m
    have l1 := txt_len (n := (gd x.Acts k).Tick) (by omega) (by omega)
    have l2 := txt_len (n := (gd x.Acts k).Many) (by omega) (by omega)
    have hc := catA_len hx k
    rw [if_pos (by omega), at_gd hk, Option.bind_some, hd _ t0 t1, Option.bind_some, app_ok (by simp only [List.length_append, List.length_cons, List.length_nil]; omega), Option.bind_some, app_ok (by simp only [List.length_append, List.length_cons, List.length_nil]; omega), Option.bind_some, app_ok (by simp only [List.length_append, List.length_cons, List.length_nil]; omega), Option.bind_some, app_ok (by simp only [List.length_append, List.length_cons, List.length_nil]; omega), Option.bind_some, app_ok (by simp only [List.length_append, List.length_cons, List.length_nil]; omega), Option.bind_some, app_ok (by simp only [List.length_append, List.length_cons, List.length_nil]; omega), Option.bind_some, w64_id (by omega) (by omega), cat_takeA hk]
    by_cases hT : (gd x.Acts k).Word = wTurn
    · rw [if_pos (by simpa using hT), hd _ m0 (by omega), Option.bind_some, app_ok (by simp only [List.length_append, List.length_cons, List.length_nil]; omega), Option.bind_some, app_ok (by simp only [List.length_append, List.length_cons, List.length_nil]; omega), Option.bind_some, app_ok (by simp only [List.length_append, List.length_cons, List.length_nil]; omega), Option.bind_some]
      unfold rowA
      rw [if_pos hT]
      simp
    · rw [if_neg (by simpa using hT), app_ok (by simp only [List.length_append, List.length_cons, List.length_nil]; omega), Option.bind_some]
      unfold rowA
      rw [if_neg hT]
      simp
  · simp only; rw [if_neg (by omega), List.take_length]
theorem l18Text_eq : spec_l18Text x = some (stx x) := by
  unfold spec_l18Text
  have hc := catS_len hx x.Slides.length
  rw [List.take_length] at hc
  rw [textS hx]
  simp only
  rw [textA hx (dec := spec_l01Dec) (fun n h0 h1 => l01Dec_eq (by omega) (by omega)) (by omega)]
  unfold stx rws
  rw [cat_app]
end
noncomputable def stR (x : GScript) : List UInt8 := if vsc x then stx x else []
theorem ScriptText_eq {x : GScript} (hs : smallS x) : impl_ScriptText x = some (stR x) := by
  unfold impl_ScriptText stR
  rw [ValidScript_eq hs, Option.bind_some]
  cases hv : vsc x with
  | false => rfl
  | true =>
    have hx := vsc_iff.1 hv
    have hc := catS_len hx x.Slides.length
    rw [List.take_length] at hc
    simp only [if_true]
    rw [textS hx]
    rw [textA hx (dec := impl_Decimal) (fun n h0 h1 => Decimal_eq (by omega) (by omega)) (by omega)]
    unfold stx rws
    rw [cat_app]
theorem specText_eq {x : GScript} (hs : smallS x) : spec_ScriptText x = some (stR x) := by
  unfold spec_ScriptText stR
  rw [l18Ok_eq hs, Option.bind_some]
  cases hv : vsc x with
  | false => rfl
  | true =>
    simp only [if_true]
    rw [l18Text_eq (vsc_iff.1 hv)]; rfl
end Go.Vs.G

namespace Go.Vs.G
open Go Go.Vs

theorem eqLoop {α γ : Type} [DecidableEq α] [Inhabited α] {a b : List α} (hab : a.length = b.length) (ha : a.length ≤ 1000000) {kb : Unit → Option γ} {kr : Bool → Option γ} :
    onL (loop (S := Int) (B := Unit) (R := Bool) (fun (i1 : Int) => if i1 < (a.length : Int) then
      ((at? a i1).bind fun v1 => (at? b i1).bind fun v2 => if v1 = v2 then (some (.next (w64 (i1 + 1)))) else some (.ret false)) else some (.brk ())) loopLim 0) kb kr = if a = b then kb () else kr false := by
  have := scan (s := 0) (n := a.length) (c := fun i => decide (gd a i = gd b i)) (r := false) (kb := kb) (kr := kr) (body := fun (i1 : Int) => if i1 < (a.length : Int) then
      ((at? a i1).bind fun v1 => (at? b i1).bind fun v2 => if v1 = v2 then (some (.next (w64 (i1 + 1)))) else some (.ret false)) else some (.brk ())) (by omega) (by omega) (fun i h1 h2 => by
    rw [if_pos (by omega), at_gd h2, Option.bind_some, at_gd (by omega), Option.bind_some, w64_id (by omega) (by omega)]
    by_cases h : gd a i = gd b i
    · rw [if_pos h, if_pos (by simpa using h)]
    · rw [if_neg h, if_neg (by simpa using h)]) (by rw [if_neg (by omega)])
  rw [show (0 : Int) = ((0 : Nat) : Int) from rfl, this]
  by_cases h : a = b
  · rw [if_pos h, if_pos fun i _ _ => by rw [h]; simp]
  · rw [if_neg h, if_neg fun hc => h (List.ext_getElem hab fun i h1 h2 => by
      have := hc i (by omega) h1
      simp only [decide_eq_true_eq] at this
      rwa [gd_of h1, gd_of h2] at this)]
theorem actEq (v w : GAct) : (v.Tick == w.Tick && (v.Word == w.Word && (v.Slide == w.Slide && (v.Many == w.Many && true)))) = decide (v = w) := by
  rw [Bool.eq_iff_iff]
  simp only [Bool.and_eq_true, beq_iff_eq, decide_eq_true_eq, Bool.and_true]
  exact ⟨fun h => by obtain ⟨v1, v2, v3, v4⟩ := v; obtain ⟨w1, w2, w3, w4⟩ := w; simp only at h; rw [h.1, h.2.1, h.2.2.1, h.2.2.2], fun h => by rw [h]; exact ⟨rfl, rfl, rfl, rfl⟩⟩
theorem SameScript_same {a b : GScript} (h1 : a.Slides.length ≤ 1000) (h2 : a.Acts.length ≤ 1000) : ∃ r, impl_SameScript a b = some r ∧ spec_SameScript a b = some r := by
  refine ⟨decide (a.Slides = b.Slides) && decide (a.Acts = b.Acts), ?_, ?_⟩
  · unfold impl_SameScript
    have e1 : slices_Equal_string_string_998 a.Slides b.Slides = some (decide (a.Slides = b.Slides)) := by
      rw [← eqSp a.Slides b.Slides (by omega)]
      unfold slices_Equal_string_string_998
      simp only [beqd, decide_eq_true_eq]
    have e2 : slices_Equal_impl_Act_impl_Act_999 a.Acts b.Acts = some (decide (a.Acts = b.Acts)) := by
      rw [← eqSp a.Acts b.Acts (by omega)]
      unfold slices_Equal_impl_Act_impl_Act_999
      simp only [actEq, decide_eq_true_eq]
    rw [e1, e2]
    cases decide (a.Slides = b.Slides) <;> rfl
  · unfold spec_SameScript
    by_cases l1 : a.Slides.length = b.Slides.length
    · by_cases l2 : a.Acts.length = b.Acts.length
      · rw [if_pos (by omega), decide_eq_true (by omega)]
        simp only [actEq]
        simp only [Bool.not_true, Option.bind_some, Bool.false_eq_true, if_false, beqd, decide_eq_true_eq]
        rw [eqLoop l1 (by omega), eqLoop l2 (by omega)]
        by_cases h : a.Slides = b.Slides <;> by_cases h' : a.Acts = b.Acts <;> simp [h, h']
      · rw [if_pos (by omega), decide_eq_false (by omega)]
        have : ¬ a.Acts = b.Acts := fun h => l2 (by rw [h])
        simp [this]
    · rw [if_neg (by omega)]
      have : ¬ a.Slides = b.Slides := fun h => l1 (by rw [h])
      simp [this]
/- what is drawn -/
abbrev fiveN : List (List UInt8) := [[99, 97, 115, 116, 108, 101], [109, 111, 111, 110], [114, 97, 116, 45, 50], [115, 104, 105, 112], [115, 116, 111, 114, 109]]
theorem fiveN_ok : ∀ i, i < 5 → sldC (fiveN.take i) (gd fiveN i) = 0 := by decide
theorem fiveN_VS (j : Nat) : VS (GScript.mk (fiveN.take j) []) := ⟨fun i hi => by
  simp only [List.length_take] at hi
  simp only
  rw [List.take_take, Nat.min_eq_left (by omega), gd_take (by omega)]
  exact fiveN_ok i (by have : fiveN.length = 5 := rfl; omega), fun i hi => by simp at hi⟩
theorem l18Draw_VS {B : Int} {s : GL00Src} (h : SrcOk B s) (hB : B ≤ 4611686018427300000) : wp (spec_l18Draw s) fun r => VS r.1 ∧ r.1.Slides.length ≤ 5 ∧ r.1.Acts.length ≤ 11 ∧ SrcOk (B + 1000) r.2 := by
  unfold spec_l18Draw spec_l18Empty
  rw [Option.bind_some]
  refine wp_pick h (by omega) fun n s1 n0 n1 h1 => ?_
  simp only
  refine wp_loop (fun q : List (List UInt8) × Int => 0 ≤ q.2 ∧ q.1.length + q.2.toNat = n.toNat ∧ q.1 = fiveN.take q.1.length) (fun q => q.2.toNat) ⟨n0, by simp, by simp⟩ (by simp only; omega) ?_
  rintro ⟨sl, k⟩ ⟨g1, g2, g3⟩
  simp only at g1 g2 g3 ⊢
  refine wp_ite (fun hk => ?_) (fun hk => wp_some ?_)
  · have hlt : sl.length < 5 := by omega
    rw [at_gd (l := fiveN) (by simpa using hlt), Option.bind_some, w64_id (by omega) (by omega)]
    refine wp_app (by simp; omega) (wp_some ⟨⟨by simp only; omega, by simp only [List.length_append, List.length_singleton]; omega, ?_⟩, by simp only; omega⟩)
    simp only [List.length_append, List.length_singleton]
    rw [← take_snoc (l := fiveN) (by simpa using hlt), ← g3]
  · have hv : VS (GScript.mk sl []) := by rw [g3]; exact fiveN_VS _
    refine wp_pick h1 (by omega) fun m s2 m0 m1 h2 => ?_
    refine wp_loop (fun q : GL00Src × GScript × Int × Int => SrcOk (B + 4 + 10 * (m - q.2.2.2)) q.1 ∧ (q.2.1.Slides = sl ∧ VS q.2.1) ∧ 0 ≤ q.2.2.2 ∧ q.2.2.2 ≤ m ∧ (q.2.1.Acts.length : Int) ≤ m - q.2.2.2) (fun q => q.2.2.2.toNat) ⟨h2.mono (by simp only; omega), ⟨rfl, hv⟩, m0, by simp only; omega, by simp⟩ (by simp only; omega) ?_
    rintro ⟨s3, x, tick, k2⟩ ⟨q1, ⟨q2, qv⟩, q3, q4, q5⟩
    simp only at q1 q2 qv q3 q4 q5 ⊢
    refine wp_seq (P := fun b => b = true → 0 < k2 ∧ 0 < sl.length) (wp_ite (fun hp => wp_some fun hb => ⟨hp, by have := of_decide_eq_true hb; rw [q2] at this; omega⟩) (fun _ => wp_some (by simp))) fun b hb => ?_
    refine wp_bif (fun hbb => ?_) (fun _ => wp_some (wp_some ⟨qv, by simp only; rw [q2]; omega, by simp only; omega, q1.mono (by omega)⟩))
    obtain ⟨p1, p2⟩ := hb hbb
    refine wp_textA q1 (by omega) (by simp) (by simp) fun w s4 hw h4 => wp_pick h4 (by omega) fun u s5 u0 u1 h5 => ?_
    simp only
    rw [q2] at u1 ⊢
    rw [show u = ((u.toNat : Nat) : Int) by omega, at_gd (l := sl) (by omega), Option.bind_some]
    refine wp_seq (P := fun q => SrcOk (B + 4 + 10 * (m - k2) + 6) q.1) (wp_ite (fun _ => wp_pick h5 (by omega) fun v s6 _ _ h6 => wp_some (h6.mono (by omega))) (fun _ => wp_some (h5.mono (by omega)))) ?_
    rintro ⟨s6, a1⟩ h6
    simp only at h6 ⊢
    have hsl : sl.length ≤ 5 := by omega
    rw [l18Act_eq (by rw [q2]; omega) (by omega), Option.bind_some]
    refine wp_pick h6 (by omega) fun v s7 _ _ h7 => ?_
    simp only
    rw [w64_id (n := k2 - 1) (by omega) (by omega)]
    refine wp_some ⟨⟨h7.mono (by simp only; omega), ⟨?_, RowP.vs (.inr (.inr ⟨_, rfl⟩)) qv⟩, by simp only; omega, by simp only; omega, ?_⟩, by simp only; omega⟩
    · unfold actR; simp only; split
      · exact q2
      · exact q2
    · unfold actR; simp only; split
      · simp only [List.length_append, List.length_singleton]; omega
      · omega
abbrev sixteen : List (List UInt8) := [[59, 32, 120, 10], [10], [115, 108, 105, 100, 101, 32, 109, 111, 111, 110, 10], [115, 108, 105, 100, 101, 10], [115, 108, 105, 100, 101, 32, 66, 97, 100, 10], [97, 116, 32, 53, 32, 115, 104, 111, 119, 32, 99, 97, 115, 116, 108, 101, 10], [97, 116, 32, 57, 48, 48, 48, 32, 115, 104, 111, 119, 32, 99, 97, 115, 116, 108, 101, 10], [97, 116, 32, 57, 48, 48, 49, 32, 104, 105, 100, 101, 32, 99, 97, 115, 116, 108, 101, 10], [97, 116, 32, 120, 32, 115, 104, 111, 119, 32, 109, 111, 111, 110, 10], [97, 116, 32, 57, 48, 48, 50, 32, 116, 117, 114, 110, 32, 99, 97, 115, 116, 108, 101, 32, 53, 10], [97, 116, 32, 57, 48, 48, 50, 32, 116, 117, 114, 110, 32, 99, 97, 115, 116, 108, 101, 10], [97, 116, 32, 57, 48, 48, 51, 32, 115, 104, 111, 119, 32, 110, 111, 110, 101, 10], [97, 116, 32, 57, 48, 48, 51, 32, 98, 117, 114, 110, 32, 99, 97, 115, 116, 108, 101, 10], [97, 116, 32, 49, 48, 48, 48, 49, 32, 115, 104, 111, 119, 32, 109, 111, 111, 110, 10], [115, 116, 111, 112, 10], [97, 116, 32, 51, 32, 115, 104, 111, 119, 10]]
theorem sixteen_len : ∀ v, v ∈ sixteen → v.length ≤ 30 := by decide
theorem l18DrawText_ok {B : Int} {s : GL00Src} (h : SrcOk B s) (hB : B ≤ 4611686018427200000) : wp (spec_l18DrawText s) fun r => r.1.length ≤ 1000000 := by
  unfold spec_l18DrawText
  refine wp_seq (l18Draw_VS h (by omega)) fun r hr => ?_
  obtain ⟨hv, _, _, hs⟩ := hr
  rw [l18Text_eq hv, Option.bind_some]
  have hl := stx_len hv
  refine wp_pick hs (by omega) fun n s1 n0 n1 h1 => ?_
  simp only
  refine wp_loop (fun q : GL00Src × List UInt8 × Int => SrcOk (B + 1010 + 2 * (n - q.2.2)) q.1 ∧ (q.2.1.length : Int) ≤ 5400 + 30 * (n - q.2.2) ∧ 0 ≤ q.2.2 ∧ q.2.2 ≤ n) (fun q => q.2.2.toNat) ⟨h1.mono (by simp only; omega), by simp only; omega, n0, by simp only; omega⟩ (by simp only; omega) ?_
  rintro ⟨s2, t, k⟩ ⟨q1, q2, q3, q4⟩
  simp only at q1 q2 q3 q4 ⊢
  refine wp_ite (fun hk => ?_) (fun hk => wp_some ?_)
  · refine wp_textA q1 (by omega) (by simp) (by simp) fun v s3 hv3 h3 => ?_
    have := sixteen_len v hv3
    rw [w64_id (n := k - 1) (by omega) (by omega)]
    exact wp_app (by simp only; omega) (wp_some ⟨⟨h3.mono (by simp only; omega), by simp only [List.length_append]; omega, by simp only; omega, by simp only; omega⟩, by simp only; omega⟩)
  · refine wp_pick q1 (by omega) fun c s3 c0 c1 h3 => ?_
    simp only
    have ht : t.length ≤ 6000 := by omega
    refine wp_ite (fun _ => wp_pick h3 (by omega) fun m s4 m0 m1 h4 => ?_) (fun _ => wp_ite (fun _ => wp_pick h3 (by omega) fun m s4 m0 m1 h4 => ?_) (fun _ => wp_ite (fun _ => wp_pick h3 (by omega) fun m s4 m0 m1 h4 => ?_) (fun _ => wp_some (by simp only; omega))))
    · simp only
      rw [w64_id (n := m + 19) (by omega) (by omega)]
      refine wp_loop (fun q : List UInt8 × Int => (q.1.length : Int) ≤ 6000 + 2 * (m + 19 - q.2) ∧ 0 ≤ q.2) (fun q => q.2.toNat) ⟨by simp only; omega, by simp only; omega⟩ (by simp only; omega) ?_
      rintro ⟨u, j⟩ ⟨j1, j2⟩
      simp only at j1 j2 ⊢
      refine wp_ite (fun hj => ?_) (fun hj => wp_some (wp_some (by simp only; omega)))
      rw [w64_id (n := j - 1) (by omega) (by omega)]
      exact wp_app (by simp; omega) (wp_some ⟨⟨by simp; omega, by simp only; omega⟩, by simp only; omega⟩)
    · simp only
      rw [w64_id (n := 3000 + m) (by omega) (by omega)]
      refine wp_loop (fun q : List UInt8 => q.length ≤ 6000) (fun q => (3000 + m - q.length).toNat) ht (by omega) ?_
      intro u hu
      refine wp_ite (fun hj => ?_) (fun hj => wp_some (wp_some (by simp only; omega)))
      exact wp_app (by simp; omega) (wp_some ⟨by simp; omega, by simp; omega⟩)
    · simp only
      rw [w64_id (n := 60 + m) (by omega) (by omega)]
      refine wp_loop (fun q : List UInt8 × Int => (q.1.length : Int) ≤ 6000 + 40 * (60 + m - q.2) ∧ 0 ≤ q.2 ∧ q.2 ≤ 60 + m) (fun q => q.2.toNat) ⟨by simp only; omega, by simp only; omega, by simp only; omega⟩ (by simp only; omega) ?_
      rintro ⟨u, j⟩ ⟨j1, j2, j3⟩
      simp only at j1 j2 j3 ⊢
      refine wp_ite (fun hj => ?_) (fun hj => wp_some (wp_some (by simp only; omega)))
      have hd := txt_len (n := j) (by omega) (by omega)
      rw [l01Dec_eq (by omega) (by omega), Option.bind_some, app_ok (by simp; omega), Option.bind_some, app_ok (by simp; omega), Option.bind_some, w64_id (n := j - 1) (by omega) (by omega)]
      exact wp_app (by simp; omega) (wp_some ⟨⟨by simp; omega, by simp only; omega, by simp only; omega⟩, by simp only; omega⟩)
section
variable {code : List Int} (hc : okL (okI .u8) code) (hl : code.length ≤ 1000000)
include hc hl
theorem DrawReadScript_ok : wp (spec_DrawReadScript code) fun r => r.length ≤ 1000000 := by
  unfold spec_DrawReadScript
  exact wp_from hc hl fun s hs => wp_seq (l18DrawText_ok hs (by omega)) fun r hr => wp_some hr
theorem DrawScriptText_ok : wp (spec_DrawScriptText code) fun r => smallS r := by
  unfold spec_DrawScriptText
  exact wp_from hc hl fun s hs => wp_seq (l18Bent_ok hs (by omega)) fun r hr => wp_some hr.1
theorem DrawSameScript_ok : wp (spec_DrawSameScript code) fun r => r.1.Slides.length ≤ 1000 ∧ r.1.Acts.length ≤ 1000 := by
  unfold spec_DrawSameScript
  refine wp_from hc hl fun s hs => wp_seq (l18Draw_VS hs (by omega)) fun r hr => ?_
  obtain ⟨_, r1, r2, h1⟩ := hr
  have hq : r.1.Slides.length ≤ 1000 ∧ r.1.Acts.length ≤ 1000 := ⟨by omega, by omega⟩
  unfold spec_l18Own
  rw [app_ok (by simp; omega), Option.bind_some, app_ok (by simp; omega), Option.bind_some, Option.bind_some]
  refine wp_pick h1 (by omega) fun c s2 _ _ h2 => ?_
  simp only [List.nil_append]
  refine wp_ite (fun _ => wp_app (by simp; omega) (wp_some hq)) (fun _ => wp_ite (fun _ => wp_app (by simp; omega) (wp_some hq)) (fun _ => wp_ite (fun _ => wp_ite (fun h => ?_) (fun _ => wp_some hq)) (fun _ => wp_some hq)))
  have h0 : at? r.1.Acts 0 = some (gd r.1.Acts 0) := at_gd (i := 0) (by omega)
  rw [h0, Option.bind_some, Option.bind_some]
  exact wp_some hq
theorem DrawRemarkText_ok : wp (spec_DrawRemarkText code) fun _ => True := by
  unfold spec_DrawRemarkText
  exact wp_from hc hl fun s hs => wp_among hs (by omega) (by simp) (by simp) fun v s2 hv h2 => wp_pick h2 (by omega) fun u s3 _ _ h3 => wp_some trivial
end
theorem laws_FnScripts_true {code : List Int} (hc : okL (okI .u8) code) : laws_FnScripts code = some true := by
  unfold laws_FnScripts laws_f6big
  rw [Option.bind_some]
  by_cases hbig : (code.length : Int) > 4096
  · rw [decide_eq_true hbig]; rfl
  rw [decide_eq_false hbig, if_neg (by simp)]
  have hl : code.length ≤ 1000000 := by omega
  obtain ⟨t, e2, ht⟩ := DrawReadScript_ok hc hl
  obtain ⟨x, e5, hx⟩ := DrawScriptText_ok hc hl
  obtain ⟨bc, e7, hb, hb2⟩ := DrawSameScript_ok hc hl
  obtain ⟨rm, e8, _⟩ := DrawRemarkText_ok hc hl
  obtain ⟨i3, s3⟩ := ReadScript_eq ht
  obtain ⟨b1, b2, b3⟩ := SameScript_same (b := bc.2) hb hb2
  obtain ⟨m1, m2, m3, _⟩ := RemarkText_same rm
  rw [e2, Option.bind_some, i3, Option.bind_some, s3, Option.bind_some, e5, Option.bind_some, ScriptText_eq hx, Option.bind_some, e7, Option.bind_some, e8, Option.bind_some]
  -- the first answers
  have hg : RG (spl 10 t).length ((rsR t).1, (rsR t).2.1) ∧ (t.length ≤ 3000 ∨ (rsR t).2.1 = []) := by
    unfold rsR
    by_cases h : t.length ≤ 3000
    · rw [if_pos h]
      exact ⟨rdK_ok (rows_len h) (k := (spl 10 t).length) (by omega), .inl h⟩
    · rw [if_neg h]
      exact ⟨⟨VS.empty, by simp, fun i hi => by simp at hi, fun i hi => by simp at hi⟩, .inr rfl⟩
  obtain ⟨hg, hsm⟩ := hg
  have hrows := spl_len 10 t
  generalize rsR t = q at hg hsm ⊢
  obtain ⟨y, rem, bad⟩ := q
  simp only at hg hsm ⊢
  obtain ⟨l60, a60⟩ := hg.vs.lens
  simp only at l60 a60
  have hy : smallS y := ⟨by omega, by omega, fun s hs => by have := (hg.vs.name hs).2.1; omega⟩
  have e16 : spec_ValidScript x = some (vsc x) := by unfold spec_ValidScript; rw [l18Ok_eq hx]; rfl
  have e9 : spec_SameScript y y = some true := SameScript_self (by omega) (by omega)
  simp only [if_true, e9, Option.bind_some, specText_eq hx, beq_self_eq_true, b2, b3, m2, m3, ValidScript_eq hx, e16, Bool.not_true, Bool.false_eq_true, if_false]
  -- the remarks
  refine eq_of_wp ?_
  have hrl := hg.l20
  simp only at hrl
  refine wp_cnt (fun k => (k : Int)) rem.length rfl (by omega) (fun k hk => ?_) (b := ()) ?_ ?_
  · obtain ⟨r1, r2, r3, r4⟩ := hg.el k hk
    simp only at r1 r2 r3 r4
    have h3 : t.length ≤ 3000 := hsm.resolve_right fun h => by rw [h] at hk; simp at hk
    have hrm : rmOk (gd rem k) := ⟨⟨r1, by omega⟩, r3, r4⟩
    obtain ⟨mt, n1, _, n2⟩ := RemarkText_same (gd rem k)
    have hne : (mt == []) = false := by simpa using n2 hrm
    rw [if_pos (by omega), at_gd hk]
    simp only [Option.bind_some, beq_self_eq_true, Bool.and_self, if_true, Bool.true_and]
    rw [if_neg (by omega), n1, Option.bind_some, hne]
    by_cases h0 : (k : Int) > 0
    · have := hg.inc (k - 1) (by simp only; omega)
      rw [if_pos h0, w64_id (by omega) (by omega), show (k : Int) - 1 = ((k - 1 : Nat) : Int) by omega, at_gd (by omega), Option.bind_some, if_neg (by simp only at this; rw [show k - 1 + 1 = k by omega] at this; omega), w64_id (by omega) (by omega)]
      rfl
    · rw [if_neg h0, w64_id (by omega) (by omega)]
      rfl
  · rw [if_neg (by omega)]
  -- what is read is valid
  have hv : (if bad = 0 then ((impl_ValidScript y).bind fun r19 => some (!r19)) else some false) = some false := by
    rw [ValidScript_eq hy, vsc_iff.2 hg.vs]
    split <;> rfl
  rw [hv, Option.bind_some]
  simp only [Bool.false_eq_true, if_false]
  -- the text is read back
  unfold stR
  cases hvx : vsc x with
  | false => exact wp_some rfl
  | true =>
    have hX := vsc_iff.1 hvx
    have hlen := stx_len hX
    simp only [if_true]
    cases he : stx x == [] with
    | true => exact wp_some rfl
    | false =>
      simp only [Bool.false_eq_true, if_false, Option.bind_some]
      by_cases h3 : (stx x).length ≤ 3000
      · rw [decide_eq_false (by omega), (ReadScript_eq (t := stx x) (by omega)).1, Option.bind_some, stx_back hX h3]
        simp only [Bool.false_eq_true, if_false, if_true, List.length_nil]
        have := SameScript_self hx.1 hx.2.1
        rw [if_pos (by omega), this]
        exact wp_some rfl
      · rw [decide_eq_true (by omega)]
        exact wp_some rfl
end Go.Vs.G

