/- Plain facts about the typed functions, up to the law: no program in sight. No conditions. -/
import Derived.Test.YtaaoecnfjibfcaaV5
import Derived.Test.YtaaoecnfjibfcaaDLTop
import Derived.Test.YtaaoecnfjibfcaaHLTop1
namespace Go.Vs.G
open Go Go.Vs

theorem at_getJ {l : List Int} {k : Nat} (h : k < l.length) : at? l (k : Int) = some (l.getD k 0) := by
  rw [at_of h, List.getD_eq_getElem?_getD, List.getElem?_eq_getElem h]; rfl
theorem at_ltr {s : List UInt8} {i : Nat} (h : i < s.length) : ∃ c, at? s (i : Int) = some c ∧ c.toNat = ltr s i := by
  refine ⟨s[i], at_of h, ?_⟩
  unfold ltr; rw [List.getD_eq_getElem?_getD, List.getElem?_eq_getElem h]; rfl
theorem idxM {M : List Int} (hl : M.length ≤ 1000) (e : Int) : ∃ r, slices_Index_byte_byte_830 M e = some r ∧ ((r = -1 ∧ e ∉ M) ∨ ∃ k : Nat, r = (k : Int) ∧ k < M.length ∧ M.getD k 0 = e) := by
  have key : wp (slices_Index_byte_byte_830 M e) (fun r => (r = -1 ∧ e ∉ M) ∨ ∃ k : Nat, r = (k : Int) ∧ k < M.length ∧ M.getD k 0 = e) := by
    unfold slices_Index_byte_byte_830
    refine wp_loop (fun t : Int => ∃ k : Nat, t = (k : Int) ∧ k ≤ M.length ∧ ∀ j, j < k → M.getD j 0 ≠ e) (fun t => (M.length - t).toNat) ⟨0, rfl, by omega, fun j hj => by omega⟩ (by omega) ?_
    rintro t ⟨k, rfl, hk, hne⟩
    refine wp_ite (fun h => ?_) (fun h => wp_some (wp_some (.inl ⟨rfl, fun hm => ?_⟩)))
    · rw [at_getJ (by omega), Option.bind_some]
      refine wp_ite (fun h2 => wp_some (wp_some (.inr ⟨k, rfl, by omega, h2.symm⟩))) (fun h2 => ?_)
      rw [w64_id (by omega) (by omega)]
      refine wp_some ⟨⟨k + 1, rfl, by omega, fun j hj => ?_⟩, by omega⟩
      rcases Nat.lt_or_ge j k with h3 | h3
      · exact hne j h3
      · rw [show j = k by omega]; exact fun h4 => h2 h4.symm
    · obtain ⟨j, hj, he⟩ := mem_getD.1 hm
      exact hne j (by omega) he
  exact key
theorem ib_spec (c : UInt8) : ∀ l : List UInt8, (Lib.indexByte l c = -1 ∧ c ∉ l) ∨ ∃ j : Nat, Lib.indexByte l c = (j : Int) ∧ j < l.length ∧ l.getD j 0 = c ∧ ∀ a, a < j → l.getD a 0 ≠ c
  | [] => .inl ⟨rfl, by simp⟩
  | b :: l => by
    rw [Lib.indexByte]
    by_cases hb : b = c
    · subst hb
      exact .inr ⟨0, by simp, by simp, rfl, fun a ha => by omega⟩
    · have hb2 : (b == c) = false := beq_eq_false_iff_ne.2 hb
      rw [hb2]
      simp only [Bool.false_eq_true, if_false]
      rcases ib_spec c l with ⟨h1, h2⟩ | ⟨j, h1, h2, h3, h4⟩
      · rw [h1]
        exact .inl ⟨rfl, by simp [h2, Ne.symm hb]⟩
      · rw [h1]
        have : ((j : Int) == -1) = false := beq_eq_false_iff_ne.2 (by omega)
        rw [this]
        simp only [Bool.false_eq_true, if_false]
        refine .inr ⟨j + 1, by omega, by simp; omega, by simpa using h3, fun a ha => ?_⟩
        cases a with
        | zero => simpa using hb
        | succ a => simpa using h4 a (by omega)
/-- when a letter is shown next -/
def nxt (s : List UInt8) (i : Nat) (w : Int) : Int := Lib.indexByte (s.drop i) (UInt8.ofNat w.toNat)
theorem nxt_occ {s : List UInt8} {i v : Nat} (hv : v < NB) (x : Nat) : occ s i x v = true ↔ 0 ≤ nxt s i (v : Int) ∧ (i : Int) + nxt s i (v : Int) < (x : Int) := by
  rw [NB_eq] at hv
  have hc : (UInt8.ofNat ((v : Int).toNat)).toNat = v := by simp; omega
  have gd : ∀ j, (s.drop i).getD j 0 = s.getD (i + j) 0 := fun j => by rw [List.getD_eq_getElem?_getD, List.getD_eq_getElem?_getD, List.getElem?_drop]
  rw [occ_iff]
  unfold nxt
  rcases ib_spec (UInt8.ofNat ((v : Int).toNat)) (s.drop i) with ⟨h1, h2⟩ | ⟨j, h1, h2, h3, h4⟩
  · rw [h1]
    constructor
    · rintro ⟨j, j1, j2, j3, j4⟩
      refine absurd ?_ h2
      have : s.getD j 0 = UInt8.ofNat ((v : Int).toNat) := UInt8.toNat_inj.1 (by rw [hc]; exact j4)
      rw [← this, List.getD_eq_getElem?_getD, List.getElem?_eq_getElem j3]
      rw [List.mem_iff_getElem]
      exact ⟨j - i, by simp; omega, by simp [show i + (j - i) = j by omega]⟩
    · rintro ⟨h, _⟩; omega
  · rw [h1]
    rw [List.length_drop] at h2
    constructor
    · rintro ⟨a, a1, a2, a3, a4⟩
      have : ¬ a - i < j := fun hlt => h4 (a - i) hlt (by
        rw [gd, show i + (a - i) = a by omega]
        exact UInt8.toNat_inj.1 (by rw [hc]; exact a4))
      omega
    · rintro ⟨_, h5⟩
      refine ⟨i + j, by omega, by omega, by omega, ?_⟩
      rw [gd] at h3
      unfold ltr
      rw [h3, hc]
theorem far_ok {s : List UInt8} {i : Nat} (hi : i ≤ s.length) (hsl : s.length ≤ 1000) {M : List Int} (h1 : 1 ≤ M.length) (h2 : M.length ≤ 1000) (hM : ∀ m, m ∈ M → 0 < m ∧ m < (NB : Int)) {γ : Type} {kb : Int → Option γ} {kr : Empty → Option γ} {Q : γ → Prop}
    (hk : ∀ k : Nat, k < M.length → (∀ x v, occ s i x (M.getD k 0).toNat = true → St M v = true → occ s i x v = true) → wp (kb (k : Int)) Q) :
    wp (onL (loop (S := (Int × Int × Int)) (B := Int) (R := Empty) (fun ((k2, far1, x2) : Int × Int × Int) =>
 if x2 < (M.length : Int) then
 ((at? M x2).bind fun v1 =>
 (sub? s (i : Int) s.length).bind fun s2 =>
 (strings_IndexByte s2 v1).bind fun r3 =>
 if r3 < 0 then
 (some (.brk x2))
 else
 if r3 > far1 then
 (some (.next (x2, r3, w64 (x2 + 1))))
 else
 some (.next (k2, far1, w64 (x2 + 1))))
 else
 some (.brk k2)) loopLim (0, (-1), 0)) kb kr) Q := by
  have hg : ∀ a, a < M.length → 0 < M.getD a 0 ∧ M.getD a 0 < (NB : Int) := fun a ha => hM _ (mem_getD.2 ⟨a, ha, rfl⟩)
  have hcast : ∀ a, a < M.length → (((M.getD a 0).toNat : Nat) : Int) = M.getD a 0 := fun a ha => by have := hg a ha; omega
  refine wp_loop (fun t : Int × Int × Int => ∃ j : Nat, t.2.2 = (j : Int) ∧ j ≤ M.length ∧ (∀ a, a < j → 0 ≤ nxt s i (M.getD a 0) ∧ nxt s i (M.getD a 0) ≤ t.2.1) ∧ ((j = 0 ∧ t.2.1 = -1) ∨ ∃ k : Nat, t.1 = (k : Int) ∧ k < j ∧ t.2.1 = nxt s i (M.getD k 0))) (fun t => (M.length - t.2.2).toNat)
    ⟨0, rfl, by omega, fun a ha => by omega, .inl ⟨rfl, rfl⟩⟩ (by simp only; omega) ?_
  rintro ⟨k2, far, x2⟩ ⟨j, e1, e2, e3, e4⟩
  simp only at e1 e3 e4 ⊢
  subst e1
  refine wp_ite (fun h => ?_) (fun h => ?_)
  · rw [at_getJ (by omega), Option.bind_some, sub_ok (by omega) (by omega) (by omega), Option.bind_some]
    have hd : ((s.take ((s.length : Int)).toNat).drop ((i : Int)).toNat) = s.drop i := by simp
    rw [hd]
    show wp ((some (nxt s i (M.getD j 0))).bind _) _
    rw [Option.bind_some, w64_id (by omega) (by omega)]
    refine wp_ite (fun hneg => wp_some (hk j (by omega) fun x v ho _ => ?_)) (fun hneg => wp_ite (fun hgt => ?_) (fun hgt => ?_))
    · have := (nxt_occ (by have := hg j (by omega); omega) x).1 ho
      rw [hcast j (by omega)] at this
      omega
    · refine wp_some ⟨⟨j + 1, by simp only; omega, by omega, fun a ha => ?_, .inr ⟨j, rfl, by omega, rfl⟩⟩, by simp only; omega⟩
      simp only
      rcases Nat.lt_or_ge a j with h3 | h3
      · have := e3 a h3; omega
      · rw [show a = j by omega]; omega
    · refine wp_some ⟨⟨j + 1, by simp only; omega, by omega, fun a ha => ?_, ?_⟩, by simp only; omega⟩
      · simp only
        rcases Nat.lt_or_ge a j with h3 | h3
        · exact e3 a h3
        · rw [show a = j by omega]; omega
      · simp only
        rcases e4 with ⟨h3, h4⟩ | ⟨k, h3, h4, h5⟩
        · omega
        · exact .inr ⟨k, h3, by omega, h5⟩
  · rcases e4 with ⟨h3, h4⟩ | ⟨k, h3, h4, h5⟩
    · omega
    · subst h3
      refine wp_some (hk k (by omega) fun x v ho hv => ?_)
      obtain ⟨hv0, hvm⟩ := St_iff.1 hv
      obtain ⟨a, ha, he⟩ := mem_getD.1 hvm
      have hb := hM _ hvm
      have h6 := (nxt_occ (by have := hg k (by omega); omega) x).1 ho
      rw [hcast k (by omega)] at h6
      have h7 := e3 a (by omega)
      rw [he] at h7
      exact (nxt_occ (by omega) x).2 (by omega)
theorem run_app {s : List UInt8} {p : Nat} {out : List Int} {k : Int} : ∀ {j : Nat}, j ≤ out.length → run s p (out ++ [k]) j = run s p out j
  | 0, _ => rfl
  | j + 1, hj => by
    simp only [run]
    rw [run_app (j := j) (by omega)]
    congr 2
    rw [List.getD_eq_getElem?_getD, List.getElem?_append, if_pos (by omega), List.getD_eq_getElem?_getD]
theorem getD_last {out : List Int} {k : Int} : (out ++ [k]).getD out.length 0 = k := by
  rw [List.getD_eq_getElem?_getD, List.getElem?_append, if_neg (by omega), Nat.sub_self]; rfl
theorem getD_old {out : List Int} {k : Int} {j : Nat} (h : j < out.length) : (out ++ [k]).getD j 0 = out.getD j 0 := by
  rw [List.getD_eq_getElem?_getD, List.getElem?_append, if_pos h, List.getD_eq_getElem?_getD]
section
variable {s : List UInt8} (hs : ∀ i, i < s.length → 0 < ltr s i) (hsl : s.length ≤ 1000) {p : Nat} (hp : 1 ≤ p ∧ p ≤ 100)
include hs hsl hp
theorem bestLoading_ok : ∃ pl, impl_bestLoading s (p : Int) = some pl ∧ GPlan s p pl := by
  have key : wp (impl_bestLoading s (p : Int)) (fun pl => GPlan s p pl) := by
    unfold impl_bestLoading
    rw [mk_ok (by omega) (by omega), Option.bind_some]
    have hrep : List.replicate ((p : Int)).toNat (0 : Int) = List.replicate p 0 := by rw [Int.toNat_natCast]
    rw [hrep]
    refine wp_loop (fun t : List Int × List Int × Int => ∃ i : Nat, t.2.2 = (i : Int) ∧ i ≤ s.length ∧ t.1.length = i ∧ t.2.1 = run s p t.1 i ∧ MOk t.2.1 ∧ ∀ j, j < i → 0 ≤ t.1.getD j 0 ∧ GK s j (run s p t.1 j) (t.1.getD j 0).toNat) (fun t => (s.length - t.2.2).toNat)
      ⟨0, rfl, by omega, rfl, rfl, ⟨fun m hm => by simp at hm; exact .inl hm.2, fun a b ha hb he hz => by
        exfalso; refine hz ?_
        rw [List.getD_eq_getElem?_getD, List.getElem?_eq_getElem ha]; simp⟩, fun j hj => by omega⟩ (by simp only; omega) ?_
    rintro ⟨out, M, x⟩ ⟨i, rfl, hi, ho, hM, hok, hg⟩
    simp only at hi ho hM hok hg ⊢
    refine wp_ite (fun h => ?_) (fun h => ?_)
    · have hi' : i < s.length := by omega
      obtain ⟨c, hc, hcl⟩ := at_ltr hi'
      have hl := hs i hi'
      have hL := ltr_lt s i
      have hlen : M.length = p := by rw [hM, run_len]
      rw [hc]
      simp only [Option.bind_some, hcl]
      obtain ⟨r1, hr1, hr1'⟩ := idxM (M := M) (by omega) ((ltr s i : Nat) : Int)
      obtain ⟨r2, hr2, hr2'⟩ := idxM (M := M) (by omega) 0
      rw [hr1, Option.bind_some, hr2, Option.bind_some]
      refine wp_seq (P := fun k1 : Int => (k1 < 0 ∧ ((ltr s i : Nat) : Int) ∉ M ∧ (0 : Int) ∉ M) ∨ ∃ k : Nat, k1 = (k : Int) ∧ GK s i M k) ?_ fun k1 hk1 => wp_seq (P := fun k4 : Int => ∃ k : Nat, k4 = (k : Int) ∧ GK s i M k) ?_ fun k4 hk4 => ?_
      · rcases hr1' with ⟨rfl, hno⟩ | ⟨k, rfl, k1, k2⟩
        · rw [if_pos (by omega)]
          rcases hr2' with ⟨rfl, hz⟩ | ⟨k, rfl, k1, k2⟩
          · exact wp_some (.inl ⟨by omega, hno, hz⟩)
          · exact wp_some (.inr ⟨k, rfl, k1, fun hm => absurd hm hno, fun _ => .inl k2⟩)
        · rw [if_neg (by omega)]
          exact wp_some (.inr ⟨k, rfl, k1, fun _ => k2, fun hm => absurd (mem_getD.2 ⟨k, k1, k2⟩) hm⟩)
      · refine wp_ite (fun hneg => ?_) (fun hneg => ?_)
        · rcases hk1 with ⟨_, hno, hz⟩ | ⟨k, rfl, _⟩
          · exact far_ok (by omega) hsl (by omega) (by omega) (fun m hm => (hok.el m hm).resolve_left fun e => hz (by rw [← e]; exact hm)) fun k hk hmax => wp_some ⟨k, rfl, hk, fun hm => absurd hm hno, fun _ => .inr ⟨hz, hmax⟩⟩
          · omega
        · rcases hk1 with ⟨h1, _⟩ | hk1
          · omega
          · exact wp_some hk1
      · obtain ⟨k, rfl, hk⟩ := hk4
        rw [at_getJ hk.1, Option.bind_some, app_ok (by simp; omega), Option.bind_some, Int.toNat_natCast, w64_id (by omega) (by omega)]
        refine wp_some ⟨⟨i + 1, by simp only; omega, by omega, by simp; omega, ?_, hok.set hl hk, fun j hj => ?_⟩, by simp only; omega⟩
        · simp only [run]
          rw [run_app (by omega), ← hM]
          congr 1
          rw [← ho, getD_last]; rfl
        · simp only
          rcases Nat.lt_or_ge j i with h3 | h3
          · rw [getD_old (by omega), run_app (by omega)]; exact hg j h3
          · obtain rfl : j = i := by omega
            rw [run_app (by omega), ← hM]
            have : (out ++ [(k : Int)]).getD j 0 = (k : Int) := by rw [← ho, getD_last]
            rw [this]
            exact ⟨by omega, hk⟩
    · obtain rfl : i = s.length := by omega
      exact wp_some (wp_some ⟨ho, hg⟩)
  exact key
end
end Go.Vs.G

namespace Go.Vs.G
open Go Go.Vs

/-- a showing as it is drawn -/
def shw (s : List UInt8) : Prop := lett s ∧ s.length ≤ 40
theorem shw.pos {s : List UInt8} (h : shw s) : ∀ i, i < s.length → 0 < ltr s i := fun i hi => by
  have := h.1 _ (getD_mem hi)
  unfold ltr; omega
def okp (n p : Nat) (pl : List Int) : Prop := pl.length = n ∧ ∀ i, i < n → 0 ≤ pl.getD i 0 ∧ pl.getD i 0 < (p : Int)
theorem GPlan.ok {s : List UInt8} {p : Nat} {pl : List Int} (h : GPlan s p pl) : okp s.length p pl := ⟨h.1, fun i hi => by
  have := h.2 i hi
  have := this.2.1
  rw [run_len] at this
  omega⟩
theorem ldc_bd (s : List UInt8) (p : Nat) (pl : List Int) : ∀ i, 0 ≤ ldc s p pl i ∧ ldc s p pl i ≤ (i : Int)
  | 0 => by simp [ldc]
  | i + 1 => by
    have := ldc_bd s p pl i
    simp only [ldc]
    split <;> omega
section
variable {s : List UInt8} (h : shw s) {p : Nat} (hp : 1 ≤ p ∧ p ≤ 6)
include h hp
theorem showingCode_eq : impl_showingCode s (p : Int) = some 0 := by
  have : impl_ValidShowing s = some true := by
    unfold impl_ValidShowing
    cases hs : s with
    | nil => rfl
    | cons c t =>
      have := isLetters_ok (l := s) (n := 40) h.1 (by rw [hs]; simp) (by have := h.2; omega) (by have := h.2; omega)
      rw [hs] at this
      rw [this]; rfl
  unfold impl_showingCode
  rw [this, Option.bind_some, if_pos rfl, within_eqR, decide_eq_true (by omega)]
  rfl
theorem l20Code_eq : spec_l20Code s (p : Int) = some 0 := by
  have h2 := h.2
  have : spec_l20Ok s = some true := by
    unfold spec_l20Ok
    refine eq_of_wp ?_
    refine wp_cnt (fun k => (k : Int)) s.length rfl (by omega) (fun k hk => ?_) (b := ()) ?_ ?_
    · have := h.1 _ (getD_mem hk)
      rw [if_pos (by omega), at_getD hk, Option.bind_some, if_neg (by omega), Option.bind_some, decide_eq_false (by omega), Option.bind_some, if_neg (by simp), w64_id (by omega) (by omega)]
      rfl
    · rw [if_neg (by omega)]
    · exact wp_some (decide_eq_true (by omega))
  unfold spec_l20Code
  rw [this, Option.bind_some, if_pos rfl, l00In_eqB, decide_eq_true (by omega)]
  rfl
theorem loadsOf_eq {pl : List Int} (hv : okp s.length p pl) : impl_loadsOf s (p : Int) pl = some (ldc s p pl s.length) := by
  have h2 := h.2
  obtain ⟨v1, v2⟩ := hv
  unfold impl_loadsOf
  rw [mk_ok (by omega) (by omega), Option.bind_some, show List.replicate ((p : Int)).toNat (0 : Int) = run s p pl 0 by rw [Int.toNat_natCast]; rfl]
  refine eq_of_wp ?_
  refine wp_cnt (fun k => (run s p pl k, ldc s p pl k, (k : Int))) s.length rfl (by omega) (fun k hk => ?_) (b := ldc s p pl s.length) ?_ (wp_some rfl)
  · have hb := v2 k hk
    have hl := run_len s p pl k
    have hd := ldc_bd s p pl k
    obtain ⟨c, hc, hcl⟩ := at_ltr hk
    have ha : at? (run s p pl k) (pl.getD k 0) = some ((run s p pl k).getD (pl.getD k 0).toNat 0) := by
      have := at_getJ (l := run s p pl k) (k := (pl.getD k 0).toNat) (by omega)
      rwa [show (((pl.getD k 0).toNat : Nat) : Int) = pl.getD k 0 by omega] at this
    simp only
    rw [if_pos (by omega), at_getJ (by omega), Option.bind_some, ha, hc]
    simp only [Option.bind_some, hcl]
    rw [w64_id (n := ldc s p pl k + 1) (by omega) (by omega), w64_id (n := (k : Int) + 1) (by omega) (by omega)]
    by_cases he : (run s p pl k).getD (pl.getD k 0).toNat 0 = (ltr s k : Int)
    · rw [if_pos he]
      simp only [run, ldc]
      rw [if_pos he, Int.add_zero]
      have : (run s p pl k).set (pl.getD k 0).toNat (ltr s k : Int) = run s p pl k := by
        have hlt : (pl.getD k 0).toNat < (run s p pl k).length := by omega
        generalize (pl.getD k 0).toNat = j at he hlt ⊢
        rw [← he, List.getD_eq_getElem?_getD, List.getElem?_eq_getElem hlt]
        exact List.set_getElem_self _
      rw [this]; rfl
    · rw [if_neg he]
      simp only [run, ldc]
      rw [if_neg he]; rfl
  · simp only; rw [if_neg (by omega)]
theorem l20Of_eq {pl : List Int} (hv : okp s.length p pl) : spec_l20Of s (p : Int) pl = some (ldc s p pl s.length) := by
  have h2 := h.2
  obtain ⟨v1, v2⟩ := hv
  unfold spec_l20Of
  rw [mk_ok (by omega) (by omega), Option.bind_some, show List.replicate ((p : Int)).toNat (0 : Int) = run s p pl 0 by rw [Int.toNat_natCast]; rfl]
  refine eq_of_wp ?_
  refine wp_cnt (fun k => (run s p pl k, ldc s p pl k, (k : Int))) s.length rfl (by omega) (fun k hk => ?_) (b := ldc s p pl s.length) ?_ (wp_some rfl)
  · have hb := v2 k hk
    have hl := run_len s p pl k
    have hd := ldc_bd s p pl k
    obtain ⟨c, hc, hcl⟩ := at_ltr hk
    have ha : at? (run s p pl k) (pl.getD k 0) = some ((run s p pl k).getD (pl.getD k 0).toNat 0) := by
      have := at_getJ (l := run s p pl k) (k := (pl.getD k 0).toNat) (by omega)
      rwa [show (((pl.getD k 0).toNat : Nat) : Int) = pl.getD k 0 by omega] at this
    simp only
    rw [if_pos (by omega), at_getJ (by omega), Option.bind_some, ha, hc]
    simp only [Option.bind_some, hcl]
    rw [w64_id (n := ldc s p pl k + 1) (by omega) (by omega), w64_id (n := (k : Int) + 1) (by omega) (by omega)]
    simp only [run, ldc]
    by_cases he : (run s p pl k).getD (pl.getD k 0).toNat 0 = (ltr s k : Int)
    · rw [if_pos he, if_pos he, Int.add_zero, Option.bind_some, ha]; rfl
    · rw [if_neg he, if_neg he, Option.bind_some, ha]; rfl
  · simp only; rw [if_neg (by omega)]
theorem specLoadsOf_eq {pl : List Int} (hv : okp s.length p pl) : spec_LoadsOf s (p : Int) pl = some (ldc s p pl s.length, 0) := by
  have h2 := h.2
  have v1 := hv.1
  unfold spec_LoadsOf
  rw [l20Code_eq h hp, Option.bind_some, if_pos rfl, if_pos (by omega)]
  refine eq_of_wp ?_
  refine wp_cnt (fun k => (k : Int)) pl.length rfl (by omega) (fun k hk => ?_) (b := ()) ?_ ?_
  · have := hv.2 k (by omega)
    rw [if_pos (by omega), at_getJ hk, Option.bind_some, w64_id (n := (p : Int) - 1) (by omega) (by omega), l00In_eqB, decide_eq_true (by omega), Option.bind_some, if_pos rfl, w64_id (by omega) (by omega)]
    rfl
  · rw [if_neg (by omega)]
  · rw [l20Of_eq h hp hv]
    exact wp_some rfl
theorem LoadsOf_eq {pl : List Int} (hv : okp s.length p pl) : impl_LoadsOf s (p : Int) pl = some (ldc s p pl s.length, 0) := by
  have h2 := h.2
  have v1 := hv.1
  have hcf : slices_ContainsFunc_int64_int64_796 pl (fun a0 => impl_LoadsOf_1 a0 (p : Int)) = some (pl.any fun _ => false) := by
    unfold slices_ContainsFunc_int64_int64_796 slices_IndexFunc_int64_int64_818
    refine contS (fun _ => false) pl (fun x hx => ?_) (by omega) (fun _ => rfl)
    obtain ⟨j, hj, rfl⟩ := mem_getD.1 hx
    have := hv.2 j (by omega)
    unfold impl_LoadsOf_1
    rw [w64_id (n := (p : Int) - 1) (by omega) (by omega), within_eqR, decide_eq_true (by omega)]
    rfl
  have hany : (pl.any fun _ => false) = false := by induction pl <;> simp
  unfold impl_LoadsOf
  rw [showingCode_eq h hp, Option.bind_some, if_pos rfl, if_pos (by omega), hcf, hany]
  simp only [Option.bind_some, Bool.false_eq_true, if_false, if_true]
  rw [loadsOf_eq h hp hv]
  rfl
/-- the best plan, and what it loads -/
theorem best_ok : ∃ pl, GPlan s p pl ∧ impl_BestLoading s (p : Int) = some (pl, 0) ∧ impl_FewestLoads s (p : Int) = some (ldc s p pl s.length, 0) ∧ impl_bestLoading s (p : Int) = some pl := by
  have h2 := h.2
  obtain ⟨pl, h3, h4⟩ := bestLoading_ok h.pos (by omega) (p := p) (by omega)
  refine ⟨pl, h4, ?_, ?_, h3⟩
  · unfold impl_BestLoading
    rw [showingCode_eq h hp, Option.bind_some, if_pos rfl, h3]; rfl
  · unfold impl_FewestLoads
    rw [showingCode_eq h hp, Option.bind_some, if_pos rfl, h3, Option.bind_some, loadsOf_eq h hp h4.ok]; rfl
end
theorem A2Showing_ok {code : List Int} (hc : okL (okI .u8) code) (hl : code.length ≤ 1000000) : wp (spec_A2Showing code) (fun s => lett s ∧ s.length ≤ 19) := by
  unfold spec_A2Showing spec_l20Draw
  refine wp_from hc hl fun s hs => ?_
  rw [Option.bind_assoc]
  refine wp_pick hs (by omega) fun n s1 n0 n1 h1 => ?_
  simp only
  rw [Option.bind_assoc]
  refine wp_pick h1 (by omega) fun m s2 m0 m1 h2 => ?_
  simp only
  rw [w64_id (n := 2 + n) (by omega) (by omega)]
  refine wp_seq (P := fun r : List UInt8 × GL00Src => lett r.1 ∧ r.1.length ≤ 19) ?_ fun r hr => wp_some hr
  refine wp_loop (fun t : GL00Src × List Int × Int => SrcOk (10 + 2 * (m - t.2.2)) t.1 ∧ 0 ≤ t.2.2 ∧ (t.2.1.length : Int) = m - t.2.2 ∧ ∀ x, x ∈ t.2.1 → 97 ≤ x ∧ x ≤ 122) (fun t => t.2.2.toNat)
    ⟨h2.mono (by simp only; omega), m0, by simp, fun x hx => by simp at hx⟩ (by simp only; omega) ?_
  rintro ⟨s3, out, k⟩ ⟨q1, q2, q3, q4⟩
  simp only at q1 q2 q3 q4 ⊢
  refine wp_ite (fun hk => wp_pick q1 (by omega) fun v s4 v0 v1 h4 => ?_) (fun hk => wp_some (wp_some ⟨?_, ?_⟩))
  · simp only
    rw [w64_id (n := 97 + v) (by omega) (by omega), w64_id (n := k - 1) (by omega) (by omega), wu8_small (by omega) (by omega)]
    refine wp_app (by simp; omega) (wp_some ⟨⟨h4.mono (by simp only; omega), by simp only; omega, by simp; omega, fun x hx => ?_⟩, by simp only; omega⟩)
    rcases List.mem_append.1 hx with hx | hx
    · exact q4 x hx
    · rw [List.mem_singleton.1 hx]; omega
  · intro c hc
    unfold b2s at hc
    obtain ⟨x, hx, rfl⟩ := List.mem_map.1 hc
    have := q4 x hx
    rw [ofNat8]; omega
  · simp only [b2s, List.length_map]; omega
  where
  wu8_small {n : Int} (h0 : 0 ≤ n) (h1 : n < 256) : IntKind.wrap .u8 n = n := by rw [w8_def]; omega
theorem A2Plan_ok {code : List Int} (hc : okL (okI .u8) code) (hl : code.length ≤ 1000000) {n p : Nat} (hn : n ≤ 1000) (hp : 1 ≤ p) : wp (spec_A2Plan code (n : Int) (p : Int)) (okp n p) := by
  unfold spec_A2Plan
  refine wp_from hc hl fun s hs => ?_
  refine wp_loop (fun t : GL00Src × List Int × Int => SrcOk (2 * t.2.2) t.1 ∧ 0 ≤ t.2.2 ∧ t.2.2 ≤ n ∧ (t.2.1.length : Int) = t.2.2 ∧ ∀ i, i < t.2.1.length → 0 ≤ t.2.1.getD i 0 ∧ t.2.1.getD i 0 < (p : Int)) (fun t => (n - t.2.2).toNat)
    ⟨hs.mono (by simp only; omega), by simp only; omega, by simp only; omega, by simp, fun i hi => by simp at hi⟩ (by simp only; omega) ?_
  rintro ⟨s3, out, k⟩ ⟨q1, q2, q5, q3, q4⟩
  simp only at q1 q2 q3 q4 q5 ⊢
  refine wp_ite (fun hk => wp_pick q1 (by omega) fun v s4 v0 v1 h4 => ?_) (fun hk => wp_some (wp_some ⟨by omega, fun i hi => q4 i (by omega)⟩))
  simp only
  rw [w64_id (n := k + 1) (by omega) (by omega)]
  refine wp_app (by simp; omega) (wp_some ⟨⟨h4.mono (by simp only; omega), by simp only; omega, by simp only; omega, by simp; omega, fun i hi => ?_⟩, by simp only; omega⟩)
  simp only [List.length_append, List.length_singleton] at hi ⊢
  rcases Nat.lt_or_ge i out.length with h5 | h5
  · rw [getD_old h5]; exact q4 i h5
  · obtain rfl : i = out.length := by omega
    rw [getD_last]; omega
end Go.Vs.G

namespace Go.Vs.G
open Go Go.Vs
theorem FirstOverload_none {l : List GCue} (h : dcues l) {m : Int} (hm : 0 ≤ m) (hm2 : m ≤ 24) (hle : Mh l ≤ m) : impl_FirstOverload l m = some (0, 3) := by
  rw [FirstOverload_eq h hm hm2]
  have : ff (over l m) ((Ecu l).toNat + 1) = none := by
    refine ff_none.2 fun t _ => ?_
    unfold over
    refine decide_eq_false ?_
    have := H_le h t
    unfold Mh at hle
    omega
  rw [this]; rfl
theorem laws_FnTop_true {code more : List Int} (hc : okL (okI .u8) code) (hm : okL (okI .u8) more) : laws_FnTop code more = some true := by
  refine eq_of_wp ?_
  unfold laws_FnTop
  obtain ⟨r, hr, hr2⟩ := a2Long_eq code more
  rw [hr, Option.bind_some]
  refine wp_ite (fun h => wp_some rfl) (fun hf => ?_)
  obtain ⟨l1, l2⟩ := hr2 (by simpa using hf)
  -- the disc
  obtain ⟨mo, hmo, d1, d2, d3⟩ := A2Motion_ok hc l1
  obtain ⟨u, f1, f2, f3, ⟨d, fd⟩, f4⟩ := Fewest_fit d1 d2 (by omega)
  obtain ⟨x, e1, e2, e3, e4⟩ := DiscFor_ok (P := u) d1 d2 (by omega) f2 (by omega) d fd
  have hmot : mot x (mo.length : Int) = mo := by
    unfold mot
    refine List.ext_getElem (by simp) fun k h3 h4 => ?_
    have hk : k < mo.length := h4
    have t1 := tab_get (f := fun k => x.getD (og x.length (mo.length : Int) k) 0) (n := ((mo.length : Int)).toNat) (i := k) (by omega)
    rw [List.getElem?_eq_getElem h3] at t1
    have t2 := Option.some.inj t1
    rw [t2]
    rw [e2, e4 k hk, ← fd k hk, List.getD_eq_getElem?_getD, List.getElem?_eq_getElem hk]; rfl
  have e5 : impl_MotionOf x (mo.length : Int) = some (mo, 0) := by
    rw [MotionOf_eq e3 (by omega) (by omega) (by omega) (by omega), hmot]
  rw [hmo, Option.bind_some, f1, Option.bind_some, e1, Option.bind_some, e5, Option.bind_some]
  simp only [if_true]
  rw [if_neg (by omega), if_neg (by omega), if_pos e2]
  simp only [beq_self_eq_true, Bool.not_true, Option.bind_some, Bool.false_eq_true, if_false]
  refine wp_cnt (fun k => ((k + 1 : Nat) : Int)) (u - 1).toNat rfl (by omega) (fun k hk => ?_) (b := ()) ?_ ?_
  · rw [if_pos (by omega), specDiscFor_none d1 d2 (by omega) (by omega) (by omega) (fun d' hd' => by have := f4 _ (by omega) d' hd'; omega), Option.bind_some, if_pos rfl, w64_id (by omega) (by omega)]
    rfl
  · rw [if_neg (by omega)]
  -- the shifts
  obtain ⟨l, hl, h, h19⟩ := A2Cues_ok hm (by omega)
  obtain ⟨n, hn, n0, n1⟩ := a2At_ok hm l2 (i := 0) (n := 5) (by omega) (by omega)
  obtain ⟨w, hw, w1, w2⟩ := A2Shifts_ok hc (by omega) h
  have hok : okv l w := ⟨w1, w2⟩
  have hdw := shl_d h h19 hok
  obtain ⟨r9, e9, p9⟩ := LeastShifts_ok h h19 (m := n) (by omega)
  have h6 := h.1
  rw [hl, Option.bind_some, hn, Option.bind_some, e9, Option.bind_some, hw, Option.bind_some, specShift_shl h h19 hok, Option.bind_some, specMost_eq hdw, Option.bind_some]
  simp only [if_true]
  -- the loads
  have fin : wp ((spec_A2Showing code).bind fun r18 =>
     (laws_a2At more 1 4).bind fun r19 =>
     (impl_FewestLoads r18 (w64 (1 + r19))).bind fun r20 =>
     (impl_BestLoading r18 (w64 (1 + r19))).bind fun r21 =>
     (impl_LoadsOf r18 (w64 (1 + r19)) r21.1).bind fun r22 =>
     (spec_A2Plan more (r18.length : Int) (w64 (1 + r19))).bind fun r23 =>
     (spec_LoadsOf r18 (w64 (1 + r19)) r23).bind fun r24 =>
     if r20.2 = 0 then
     (if r21.2 = 0 then
     (if r22.2 = 0 then
     (if r22.1 = r20.1 then
     (if r24.2 = 0 then
     (some (decide (r24.1 ≥ r20.1)))
     else
     some false)
     else
     some false)
     else
     some false)
     else
     some false)
     else
     some false) (fun y => y = true) := by
    obtain ⟨s, hs, s1, s2⟩ := A2Showing_ok hc (by omega)
    obtain ⟨q, hq, q0, q1⟩ := a2At_ok hm l2 (i := 1) (n := 4) (by omega) (by omega)
    rw [hs, Option.bind_some, hq, Option.bind_some, w64_id (by omega) (by omega)]
    obtain ⟨p, hp⟩ : ∃ p : Nat, 1 + q = (p : Int) := ⟨(1 + q).toNat, by omega⟩
    rw [hp]
    have hsh : shw s := ⟨s1, by omega⟩
    obtain ⟨pl, b1, b2, b3, _⟩ := best_ok hsh (p := p) (by omega)
    obtain ⟨pl', c1, c2⟩ := A2Plan_ok hm (by omega) (n := s.length) (p := p) (by omega) (by omega)
    have hle := few_le hsh.pos b1 (Nat.le_refl p) c2.2
    rw [b3, Option.bind_some, b2, Option.bind_some, LoadsOf_eq hsh (by omega) b1.ok, Option.bind_some, c1, Option.bind_some, specLoadsOf_eq hsh (by omega) c2, Option.bind_some]
    simp only [if_true]
    exact wp_some (decide_eq_true hle)
  rcases p9 with ⟨rfl, p9⟩ | ⟨t1, t2, t3, t4⟩
  · have hgt := p9 w hok
    simp only [show ¬ (3 : Int) = 0 by omega, if_false, if_true]
    rw [decide_eq_false hgt]
    simp only [Option.bind_some, Bool.false_eq_true, if_false]
    exact fin
  · have hd9 := shl_d h h19 t2
    have hsc : impl_ShiftCues l r9.1 = some (shl l r9.1, 0) := ShiftCues_eq h h19 t2.1 t2.2
    simp only [t1, if_true, Option.bind_some, Bool.false_eq_true, if_false]
    rw [hsc, Option.bind_some, MostHands_Mh hd9, Option.bind_some, FirstOverload_none hd9 n0 (by omega) t3, Option.bind_some]
    simp only [if_true]
    rw [if_neg (by omega)]
    by_cases hle : Mh (shl l w) ≤ n
    · have hsum := t4 w hok hle
      have w1' := hok.1
      have t2' := t2.1
      rw [if_pos hle, a2Sum_sm (by omega) (okv_bd h hok), Option.bind_some, a2Sum_sm (by omega) (okv_bd h t2), Option.bind_some, if_neg (by omega)]
      exact fin
    · rw [if_neg hle]
      exact fin
end Go.Vs.G

