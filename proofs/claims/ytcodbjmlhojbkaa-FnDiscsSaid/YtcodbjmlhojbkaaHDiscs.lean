/- Discs for motions. No conditions. -/
import Derived.Test.YtcodbjmlhojbkaaHDrift
namespace Go.Vs.G
open Go Go.Vs

theorem ofNat8 (n : Nat) : (UInt8.ofNat n).toNat = n % 256 := by simp
def lett (l : List UInt8) : Prop := ∀ c ∈ l, 97 ≤ c.toNat ∧ c.toNat ≤ 122
theorem isLetters_ok {l : List UInt8} {n : Int} (h : lett l) (h1 : 1 ≤ l.length) (h2 : (l.length : Int) ≤ n) (h3 : l.length < 9223372036854775807) : impl_isLetters l n = some true := by
  refine eq_of_wp ?_
  unfold impl_isLetters
  refine wp_loop (fun t : Int => ∃ k : Nat, t = (k : Int) ∧ k ≤ l.length) (fun t => (l.length - t).toNat) ⟨0, rfl, by omega⟩ (by omega) ?_
  rintro i ⟨k, rfl, hk⟩
  refine wp_ite (fun h4 => ?_) (fun h4 => ?_)
  · have hk2 : k < l.length := by omega
    have hc := h _ (List.getElem_mem hk2)
    rw [at_of hk2]
    simp only [Option.bind_some]
    rw [if_neg (by omega)]
    simp only [Option.bind_some]
    rw [if_neg (by simp; omega), w64_succ hk2 h3]
    exact wp_some ⟨⟨k + 1, rfl, by omega⟩, by omega⟩
  · refine wp_some ?_
    rw [if_pos (by omega)]
    exact wp_some (by simp [h2])
theorem ValidMotion_ok {l : List UInt8} (h : lett l) (h1 : 1 ≤ l.length) (h2 : l.length ≤ 24) : impl_ValidMotion l = some true := by
  unfold impl_ValidMotion
  rw [isLetters_ok h h1 (by omega) (by omega)]; rfl

/-- the place that is seen -/
def og (P s : Int) (k : Nat) : Nat := (nst P s k % P).toNat
theorem og_lt {P s : Int} (hP : 1 ≤ P) (k : Nat) : (og P s k : Int) < P := by
  unfold og
  have m0 := Int.emod_nonneg (nst P s k) (b := P) (by omega)
  have m1 := Int.emod_lt_of_pos (nst P s k) (b := P) (by omega)
  omega
theorem og_eq {P s : Int} (hP : 1 ≤ P) (k : Nat) : nst P s k % P = (og P s k : Int) := by
  unfold og
  have m0 := Int.emod_nonneg (nst P s k) (b := P) (by omega)
  omega
theorem og_zero {P s : Int} (hs : 1 ≤ s) : og P s 0 = 0 := by
  unfold og nst
  have : (2 * ((0 : Nat) : Int) * P + s) / (2 * s) = 0 := by
    rw [show (2 * ((0 : Nat) : Int) * P + s) = s by simp]
    exact Int.ediv_eq_zero_of_lt (by omega) (by omega)
  rw [this]; simp
def mot (d : List UInt8) (s : Int) : List UInt8 := tab (fun k => d.getD (og d.length s k) 0) s.toNat
theorem mot_length {d : List UInt8} {s : Int} (hs : 1 ≤ s) : ((mot d s).length : Int) = s := by simp [mot]; omega
theorem mot_get {d : List UInt8} {s : Int} {k : Nat} (hk : (k : Int) < s) : (mot d s).getD k 0 = d.getD (og d.length s k) 0 := by
  unfold mot
  rw [List.getD, tab_get (by omega)]; rfl
theorem getD_mem {d : List UInt8} {i : Nat} (h : i < d.length) : d.getD i 0 ∈ d := by
  rw [List.getD_eq_getElem?_getD, List.getElem?_eq_getElem h]; exact List.getElem_mem h
theorem mot_lett {d : List UInt8} {s : Int} (h : lett d) (h1 : 1 ≤ d.length) : lett (mot d s) := by
  intro c hc
  unfold mot tab at hc
  rw [List.mem_map] at hc
  obtain ⟨k, _, rfl⟩ := hc
  exact h _ (getD_mem (by have := og_lt (P := d.length) (s := s) (by omega) k; omega))
theorem b2s_tab (f : Nat → Int) (n : Nat) : b2s (tab f n) = tab (fun i => UInt8.ofNat (f i).toNat) n := by
  unfold b2s tab; rw [List.map_map]; rfl
theorem b2s_tab8 (f : Nat → UInt8) (n : Nat) : b2s (tab (fun i => ((f i).toNat : Int)) n) = tab f n := by
  rw [b2s_tab]; refine tab_congr fun i _ => ?_
  rw [Int.toNat_natCast]; exact UInt8.ofNat_toNat
theorem at_getD {d : List UInt8} {i : Nat} (h : i < d.length) : at? d (i : Int) = some (d.getD i 0) := by
  rw [at_of h, List.getD_eq_getElem?_getD, List.getElem?_eq_getElem h]; rfl
theorem MotionOf_eq {d : List UInt8} {s : Int} (h : lett d) (h1 : 1 ≤ d.length) (h2 : d.length ≤ 24) (hs : 1 ≤ s) (hs2 : s ≤ 24) : impl_MotionOf d s = some (mot d s, 0) := by
  refine eq_of_wp ?_
  unfold impl_MotionOf
  have hlen := ordr_length (p := (d.length : Int)) hs
  rw [ValidMotion_ok h h1 h2, Option.bind_some, if_pos rfl, within_eqR, Option.bind_some, if_pos (by simp; omega), seenOrder_eq (by omega) (by omega) hs (by omega), Option.bind_some]
  refine wp_loop (fun t : List Int × Int => ∃ k : Nat, t.2 = (k : Int) ∧ (k : Int) ≤ s ∧ t.1 = tab (fun k => ((d.getD (og d.length s k) 0).toNat : Int)) k) (fun t => (s - t.2).toNat) ⟨0, rfl, by omega, rfl⟩ (by simp; omega) ?_
  rintro ⟨a, i⟩ ⟨k, rfl, hk, rfl⟩
  simp only [hlen]
  refine wp_ite (fun h3 => ?_) (fun h3 => ?_)
  · have hog := og_lt (P := d.length) (s := s) (by omega) k
    rw [ordr_at (by omega) h3, Option.bind_some, og_eq (by omega), at_getD (by omega), Option.bind_some, app_ok (by simp; omega), Option.bind_some, w64_id (by omega) (by omega)]
    exact wp_some ⟨⟨k + 1, rfl, by omega, tab_succ.symm⟩, by simp only; omega⟩
  · refine wp_some (wp_some ?_)
    rw [b2s_tab8]
    unfold mot
    rw [show s.toNat = k by omega]

/-- a disc for a motion -/
theorem discFor_ok {m : List UInt8} {P : Int} (hm : lett m) (h1 : 1 ≤ m.length) (h2 : m.length ≤ 24) (hP : 1 ≤ P) (hP2 : P ≤ 24) :
    ∃ x b, impl_discFor m P = some (x, b) ∧ (b = true → (x.length : Int) = P ∧ lett x) ∧ (∀ d : Nat → UInt8, (∀ k, k < m.length → m.getD k 0 = d (og P m.length k)) → b = true ∧ ∀ k, k < m.length → x.getD (og P m.length k) 0 = d (og P m.length k)) := by
  have key : wp (impl_discFor m P) (fun r => (r.2 = true → (r.1.length : Int) = P ∧ lett r.1) ∧ (∀ d : Nat → UInt8, (∀ k, k < m.length → m.getD k 0 = d (og P m.length k)) → r.2 = true ∧ ∀ k, k < m.length → r.1.getD (og P m.length k) 0 = d (og P m.length k))) := by
    unfold impl_discFor
    have hlen := ordr_length (p := P) (s := (m.length : Int)) (by omega)
    rw [mk_ok (by omega) (by omega), Option.bind_some, seenOrder_eq hP (by omega) (by omega) (by omega), Option.bind_some, tab_replicate]
    refine wp_loop (fun t : List Int × Int => ∃ (k : Nat) (f : Nat → Int), t.2 = (k : Int) ∧ k ≤ m.length ∧ t.1 = tab f P.toNat ∧ (∀ i, f i = 0 ∨ (97 ≤ f i ∧ f i ≤ 122)) ∧ (∀ j, j < k → f (og P m.length j) ≠ 0) ∧
      (∀ d : Nat → UInt8, (∀ k, k < m.length → m.getD k 0 = d (og P m.length k)) → ∀ i, f i = 0 ∨ f i = ((d i).toNat : Int))) (fun t => (m.length - t.2).toNat) ⟨0, fun _ => 0, rfl, by omega, rfl, fun _ => Or.inl rfl, fun j hj => by omega, fun d _ i => Or.inl rfl⟩ (by simp; omega) ?_
    rintro ⟨a, i⟩ ⟨k, f, rfl, hk, rfl, hf1, hf2, hf3⟩
    simp only [hlen]
    refine wp_ite (fun h3 => ?_) (fun h3 => ?_)
    · have hk2 : k < m.length := by omega
      have hog := og_lt (P := P) (s := (m.length : Int)) hP k
      have hc := hm _ (getD_mem hk2)
      rw [ordr_at (by omega) h3, Option.bind_some, og_eq hP, tab_at (by omega) (by omega), at_getD hk2, Int.toNat_natCast]
      simp only [Option.bind_some]
      have hx : (if f (og P m.length k) = 0 then some false else some (!decide (f (og P m.length k) = ((m.getD k 0).toNat : Int)))) = some (decide (f (og P m.length k) ≠ 0 ∧ f (og P m.length k) ≠ ((m.getD k 0).toNat : Int))) := by
        split
        · rename_i h; simp [h]
        · rename_i h; simp [h]
      rw [hx, Option.bind_some]
      refine wp_ite (fun h4 => ?_) (fun h4 => ?_)
      · rw [decide_eq_true_eq] at h4
        refine wp_some (wp_some ⟨fun h => by simp at h, fun d hd => ?_⟩)
        exfalso
        have e1 := hd k hk2
        rcases hf3 d hd (og P m.length k) with e | e
        · exact h4.1 e
        · rw [← e1] at e; exact h4.2 e
      · rw [w64_id (by omega) (by omega)]
        refine wp_some ⟨⟨k + 1, fun j => if j = og P m.length k then ((m.getD k 0).toNat : Int) else f j, rfl, by omega, tab_set, fun i => ?_, fun j hj => ?_, fun d hd i => ?_⟩, by simp only; omega⟩
        · simp only; split
          · right; omega
          · exact hf1 i
        · simp only; split
          · omega
          · refine hf2 j ?_
            rcases Nat.lt_or_ge j k with h | h
            · exact h
            · obtain rfl : j = k := by omega
              contradiction
        · simp only; split
          · rename_i e; right; rw [e, hd k hk2]
          · exact hf3 d hd i
    · obtain rfl : k = m.length := by omega
      refine wp_some ?_
      have hf0 : f 0 ≠ 0 := by have := hf2 0 (by omega); rwa [og_zero (by omega)] at this
      refine wp_loop (fun t : List Int × Int => ∃ (k : Nat) (g : Nat → Int), t.2 = (k : Int) ∧ 1 ≤ k ∧ (k : Int) ≤ P ∧ t.1 = tab g P.toNat ∧ (∀ i, g i = 0 ∨ (97 ≤ g i ∧ g i ≤ 122)) ∧ (∀ j, j < k → g j ≠ 0) ∧ (∀ i, f i ≠ 0 → g i = f i)) (fun t => (P - t.2).toNat)
        ⟨1, f, rfl, by omega, by omega, rfl, hf1, fun j hj => by rw [show j = 0 by omega]; exact hf0, fun i _ => rfl⟩ (by simp; omega) ?_
      rintro ⟨a, i⟩ ⟨k, g, rfl, hk1, hk, rfl, hg1, hg2, hg3⟩
      simp only [tab_length]
      refine wp_ite (fun h3 => ?_) (fun h3 => ?_)
      · rw [tab_at (by omega) (by omega), Option.bind_some, Int.toNat_natCast, w64_id (n := (k : Int) - 1) (by omega) (by omega), w64_id (n := (k : Int) + 1) (by omega) (by omega)]
        refine wp_ite (fun h4 => ?_) (fun h4 => ?_)
        · rw [tab_at (by omega) (by omega)]
          simp only [Option.bind_some]
          rw [show ((k : Int) - 1).toNat = k - 1 by omega]
          refine wp_some ⟨⟨k + 1, fun j => if j = k then g (k - 1) else g j, rfl, by omega, by omega, tab_set, fun i => ?_, fun j hj => ?_, fun i hi => ?_⟩, by simp only; omega⟩
          · simp only; split
            · exact hg1 _
            · exact hg1 i
          · simp only; split
            · exact hg2 _ (by omega)
            · exact hg2 j (by omega)
          · simp only; split
            · rename_i e; exfalso; subst e; have := hg3 i hi; omega
            · exact hg3 i hi
        · refine wp_some ⟨⟨k + 1, g, rfl, by omega, by omega, rfl, hg1, fun j hj => ?_, hg3⟩, by simp only; omega⟩
          rcases Nat.lt_or_ge j k with h | h
          · exact hg2 j h
          · rw [show j = k by omega]; exact h4
      · refine wp_some (wp_some ⟨fun _ => ⟨?_, ?_⟩, fun d hd => ⟨rfl, fun j hj => ?_⟩⟩)
        · simp [b2s]; omega
        · simp only
          rw [b2s_tab]
          intro c hc
          unfold tab at hc
          rw [List.mem_map] at hc
          obtain ⟨i, hi, rfl⟩ := hc
          rw [List.mem_range] at hi
          have e1 := hg2 i (by omega)
          have e2 := hg1 i
          rw [ofNat8]
          omega
        · have hog := og_lt (P := P) (s := (m.length : Int)) hP j
          have e1 := hf2 j hj
          have e2 := hg3 _ e1
          have e3 : f (og P m.length j) = ((d (og P m.length j)).toNat : Int) := by
            rcases hf3 d hd (og P m.length j) with e | e
            · exact absurd e e1
            · exact e
          simp only
          rw [b2s_tab, List.getD, tab_get (by omega), e2, e3, Int.toNat_natCast]
          exact UInt8.ofNat_toNat
  obtain ⟨⟨x, b⟩, k1, k2, k3⟩ := key
  exact ⟨x, b, k1, k2, k3⟩

theorem FewestPictures_ok {m : List UInt8} (hm : lett m) (h1 : 1 ≤ m.length) (h2 : m.length ≤ 24) :
    ∃ u, impl_FewestPictures m = some (u, 0) ∧ 1 ≤ u ∧ u ≤ m.length ∧ ∀ (P : Int), 1 ≤ P → ∀ d : Nat → UInt8, (∀ k, k < m.length → m.getD k 0 = d (og P m.length k)) → u ≤ P := by
  have key : wp (impl_FewestPictures m) (fun r => r.2 = 0 ∧ 1 ≤ r.1 ∧ r.1 ≤ m.length ∧ ∀ (P : Int), 1 ≤ P → ∀ d : Nat → UInt8, (∀ k, k < m.length → m.getD k 0 = d (og P m.length k)) → r.1 ≤ P) := by
    unfold impl_FewestPictures
    rw [ValidMotion_ok hm h1 h2, Option.bind_some, if_pos rfl]
    refine wp_loop (fun t : Int => 1 ≤ t ∧ t ≤ m.length ∧ ∀ (P : Int), 1 ≤ P → ∀ d : Nat → UInt8, (∀ k, k < m.length → m.getD k 0 = d (og P m.length k)) → t ≤ P) (fun t => (m.length - t).toNat) ⟨by omega, by omega, fun P hP _ _ => hP⟩ (by omega) ?_
    rintro i ⟨i1, i2, i3⟩
    refine wp_ite (fun h3 => ?_) (fun h3 => ?_)
    · obtain ⟨x, b, e1, e2, e3⟩ := discFor_ok hm h1 h2 i1 (by omega)
      rw [e1, Option.bind_some]
      refine wp_ite (fun h4 => ?_) (fun h4 => ?_)
      · exact wp_some (wp_some ⟨rfl, i1, i2, i3⟩)
      · rw [w64_id (by omega) (by omega)]
        refine wp_some ⟨⟨by omega, by omega, fun P hP d hd => ?_⟩, by omega⟩
        have := i3 P hP d hd
        rcases Int.lt_or_eq_of_le this with h | h
        · omega
        · subst h; exact absurd (e3 d hd).1 h4
    · exact wp_some (wp_some ⟨rfl, i1, i2, i3⟩)
  obtain ⟨⟨u, c⟩, k1, k2, k3, k4, k5⟩ := key
  simp only at k2 k3 k4 k5
  subst k2
  exact ⟨u, k1, k3, k4, k5⟩

theorem DiscFor_ok {m : List UInt8} {P : Int} (hm : lett m) (h1 : 1 ≤ m.length) (h2 : m.length ≤ 24) (hP : 1 ≤ P) (hP2 : P ≤ 24) (d : Nat → UInt8) (hd : ∀ k, k < m.length → m.getD k 0 = d (og P m.length k)) :
    ∃ x, impl_DiscFor m P = some (x, 0) ∧ (x.length : Int) = P ∧ lett x ∧ ∀ k, k < m.length → x.getD (og P m.length k) 0 = d (og P m.length k) := by
  unfold impl_DiscFor
  rw [ValidMotion_ok hm h1 h2, Option.bind_some, if_pos rfl, within_eqR, Option.bind_some, if_pos (by simp; omega)]
  obtain ⟨x, b, e1, e2, e3⟩ := discFor_ok hm h1 h2 hP hP2
  obtain ⟨rfl, e4⟩ := e3 d hd
  rw [e1, Option.bind_some]
  exact ⟨x, rfl, (e2 rfl).1, (e2 rfl).2, e4⟩

/- the reference's -/
theorem l03Seen_eq {p s k : Int} (hp : 1 ≤ p) (hp2 : p ≤ 48) (hs : 1 ≤ s) (hs2 : s ≤ 48) (hk : 0 ≤ k) (hk2 : k ≤ 1000000) : spec_l03Seen p s k = some (nst p s k % p) := by
  have hb := kp_le hk hk2 (p := p) (by omega) hp2
  have h1 := nst_nonneg hs hk (p := p) (by omega)
  have h2 := nst_le hs hk (p := p) (by omega)
  have e2 : 2 * k * p = 2 * (k * p) := Int.mul_assoc ..
  have key : spec_l00Floor (2 * (k * p) + s) (2 * s) = some (nst p s k) := by
    unfold spec_l00Floor
    rw [div_ok (by omega), Option.bind_some, mod_ok (by omega), Option.bind_some, Int.tmod_eq_emod_of_nonneg (by omega), Int.tdiv_eq_ediv_of_nonneg (by omega)]
    have := Int.emod_nonneg (2 * (k * p) + s) (b := 2 * s) (by omega)
    rw [if_neg (by omega)]
    congr 1
    rw [← e2]
    exact w64_id (n := nst p s k) (by omega) (by omega)
  unfold spec_l03Seen spec_l03Near spec_l00Round
  rw [w64_id (n := k * p) (by omega) (by omega), w64_id (n := 2 * (k * p)) (by omega) (by omega), w64_id (n := 2 * (k * p) + s) (by omega) (by omega), w64_id (n := 2 * s) (by omega) (by omega), key]
  simp only [Option.bind_some]
  rw [mod_ok (by omega), Option.bind_some, Int.tmod_eq_emod_of_nonneg h1]
theorem spec_SeenOrder_eq {p s : Int} (hp : 1 ≤ p) (hp2 : p ≤ 48) (hs : 1 ≤ s) (hs2 : s ≤ 48) : spec_SeenOrder p s = some (ordr p s, 0) := by
  refine eq_of_wp ?_
  unfold spec_SeenOrder
  rw [l03Code_ok hp hp2 hs hs2, Option.bind_some, if_pos rfl]
  unfold spec_l03Order
  refine wp_bind (wp_loop (fun t : List Int × Int => ∃ k : Nat, t.2 = (k : Int) ∧ (k : Int) ≤ s ∧ t.1 = tab (fun k => nst p s k % p) k) (fun t => (s - t.2).toNat) ⟨0, rfl, by omega, rfl⟩ (by simp; omega) ?_)
  rintro ⟨a, i⟩ ⟨k, rfl, hk, rfl⟩
  simp only
  refine wp_ite (fun h => ?_) (fun h => ?_)
  · rw [l03Seen_eq hp hp2 hs hs2 (by omega) (by omega), Option.bind_some, app_ok (by simp; omega), Option.bind_some, w64_id (by omega) (by omega)]
    exact wp_some ⟨⟨k + 1, rfl, by omega, tab_succ.symm⟩, by simp only; omega⟩
  · refine wp_some (wp_some (wp_some ?_))
    unfold ordr
    rw [show s.toNat = k by omega]
theorem l06Motion_eq {d : List UInt8} {s : Int} (h1 : 1 ≤ d.length) (h2 : d.length ≤ 24) (hs : 1 ≤ s) (hs2 : s ≤ 24) : spec_l06Motion d s = some (mot d s) := by
  refine eq_of_wp ?_
  unfold spec_l06Motion
  refine wp_loop (fun t : List Int × Int => ∃ k : Nat, t.2 = (k : Int) ∧ (k : Int) ≤ s ∧ t.1 = tab (fun k => ((d.getD (og d.length s k) 0).toNat : Int)) k) (fun t => (s - t.2).toNat) ⟨0, rfl, by omega, rfl⟩ (by simp; omega) ?_
  rintro ⟨a, i⟩ ⟨k, rfl, hk, rfl⟩
  simp only
  refine wp_ite (fun h3 => ?_) (fun h3 => ?_)
  · have hog := og_lt (P := d.length) (s := s) (by omega) k
    rw [l03Seen_eq (by omega) (by omega) hs (by omega) (by omega) (by omega), Option.bind_some, og_eq (by omega), at_getD (by omega), Option.bind_some, app_ok (by simp; omega), Option.bind_some, w64_id (by omega) (by omega)]
    exact wp_some ⟨⟨k + 1, rfl, by omega, tab_succ.symm⟩, by simp only; omega⟩
  · refine wp_some (wp_some ?_)
    rw [b2s_tab8]
    unfold mot
    rw [show s.toNat = k by omega]

theorem A2Motion_ok {code : List Int} (h : okL (okI .u8) code) (hl : code.length ≤ 3000) : ∃ d, spec_A2Motion code = some d ∧ lett d ∧ 1 ≤ d.length ∧ d.length ≤ 12 := by
  have key : wp (spec_l06Draw (GL00Src.mk code 0 0)) (fun r => lett r.1 ∧ 1 ≤ r.1.length ∧ r.1.length ≤ 12) := by
    unfold spec_l06Draw
    obtain ⟨v1, s1, e1, a1, b1, k1⟩ := pick_ok (srcOk_from h (by omega)) (by omega) 6
    rw [e1, Option.bind_some]
    simp only
    rw [w64_id (by omega) (by omega)]
    refine wp_loop (fun t : GL00Src × List Int × Int => ∃ B : Int, SrcOk B t.1 ∧ B + 2 * t.2.2 = 2 + 2 * (1 + v1) ∧ 0 ≤ t.2.2 ∧ t.2.2 ≤ 1 + v1 ∧ ((t.2.1.length : Int) = 1 + v1 - t.2.2) ∧ (∀ c ∈ t.2.1, 97 ≤ c ∧ c ≤ 122)) (fun t => t.2.2.toNat) ⟨2, k1, rfl, by simp only; omega, by simp only; omega, by simp, by simp⟩ (by simp only; omega) ?_
    rintro ⟨s2, a, k⟩ ⟨B, j1, j2, j3, j4, j5, j6⟩
    simp only at j1 j2 j3 j4 j5 j6 ⊢
    refine wp_ite (fun h => ?_) (fun h => ?_)
    · obtain ⟨v2, s3, e2, a2, b2, k2⟩ := pick_ok j1 (by omega) 3
      rw [e2, Option.bind_some]
      simp only
      have hc : ∃ c, at? ([97, 98, 99] : List UInt8) v2 = some c ∧ 97 ≤ (c.toNat : Int) ∧ (c.toNat : Int) ≤ 122 := by
        have : v2 = 0 ∨ v2 = 1 ∨ v2 = 2 := by omega
        rcases this with rfl | rfl | rfl
        · exact ⟨97, rfl, by decide, by decide⟩
        · exact ⟨98, rfl, by decide, by decide⟩
        · exact ⟨99, rfl, by decide, by decide⟩
      obtain ⟨c, hc, c1, c2⟩ := hc
      rw [hc, Option.bind_some, app_ok (by simp; omega), Option.bind_some, w64_id (by omega) (by omega)]
      refine wp_some ⟨⟨B + 2, k2, by simp only; omega, by simp only; omega, by simp only; omega, by simp; omega, ?_⟩, by simp only; omega⟩
      intro x hx
      rw [List.mem_append] at hx
      rcases hx with hx | hx
      · exact j6 x hx
      · simp at hx; subst hx; exact ⟨c1, c2⟩
    · refine wp_some ?_
      simp only
      obtain ⟨v3, s3, e3, a3, b3, k3⟩ := pick_ok j1 (by omega) 4
      rw [e3, Option.bind_some]
      simp only
      have hbl : (b2s a).length = a.length := by simp [b2s]
      have hlet : lett (b2s a) := by
        intro c hc
        unfold b2s at hc
        rw [List.mem_map] at hc
        obtain ⟨n, hn, rfl⟩ := hc
        have := j6 n hn
        rw [ofNat8]; omega
      refine wp_ite (fun h => ?_) (fun h => ?_)
      · rw [app_ok (by omega), Option.bind_some]
        refine wp_some ⟨?_, by simp; omega, by simp; omega⟩
        intro c hc
        rw [List.mem_append] at hc
        rcases hc with hc | hc <;> exact hlet c hc
      · refine wp_ite (fun h => ?_) (fun h => ?_)
        · obtain ⟨v4, s4, e4, a4, b4, k4⟩ := pick_ok k3 (by omega) 12
          rw [e4, Option.bind_some]
          simp only
          rw [w64_id (by omega) (by omega), l06Motion_eq (by omega) (by omega) (by omega) (by omega), Option.bind_some]
          have hml := mot_length (d := b2s a) (s := 1 + v4) (by omega)
          exact wp_some ⟨mot_lett hlet (by omega), by simp only; omega, by simp only; omega⟩
        · exact wp_some ⟨hlet, by simp only; omega, by simp only; omega⟩
  obtain ⟨⟨d, s⟩, h1, h2, h3, h4⟩ := key
  unfold spec_A2Motion
  rw [l00From_eq, Option.bind_some, h1]
  exact ⟨d, rfl, h2, h3, h4⟩

theorem laws_FnDiscs_true {code more : List Int} (h1 : okL (okI .u8) code) (h2 : okL (okI .u8) more) : laws_FnDiscs code more = some true := by
  refine eq_of_wp ?_
  unfold laws_FnDiscs
  obtain ⟨r, hr, hr2⟩ := a2Long_eq code more
  rw [hr, Option.bind_some]
  refine wp_ite (fun h => wp_some rfl) (fun h => ?_)
  obtain ⟨l1, l2⟩ := hr2 (by simpa using h)
  obtain ⟨d, hd, d1, d2, d3⟩ := A2Motion_ok h1 l1
  obtain ⟨q, hq, q1, q2⟩ := a2At_ok h2 l2 (i := 0) (n := 12) (by omega) (by omega)
  rw [hd, Option.bind_some, hq, Option.bind_some, w64_id (by omega) (by omega)]
  generalize hs : 1 + q = s
  have s1 : 1 ≤ s := by omega
  have s2 : s ≤ 12 := by omega
  have hml := mot_length (d := d) (s := s) s1
  have hlet := mot_lett (s := s) d1 d2
  have hcons : ∀ k, k < (mot d s).length → (mot d s).getD k 0 = (fun i => d.getD i 0) (og d.length (mot d s).length k) := by
    intro k hk
    rw [hml]
    exact mot_get (by omega)
  rw [MotionOf_eq d1 d2 (by omega) s1 (by omega), Option.bind_some]
  simp only
  obtain ⟨x, e1, e2, e3, e4⟩ := DiscFor_ok (P := (d.length : Int)) hlet (by omega) (by omega) (by omega) (by omega) (fun i => d.getD i 0) hcons
  obtain ⟨u, f1, f2, f3, f4⟩ := FewestPictures_ok hlet (by omega) (by omega)
  have f5 := f4 _ (by omega) (fun i => d.getD i 0) hcons
  rw [e1, Option.bind_some]
  simp only
  rw [MotionOf_eq e3 (by omega) (by omega) s1 (by omega), Option.bind_some, f1, Option.bind_some]
  have hsame : mot x s = mot d s := by
    unfold mot
    refine tab_congr fun k hk => ?_
    have := e4 k (by omega)
    rw [hml] at this
    rw [e2]; exact this
  simp only [if_true, hml, e2, hsame, beq_self_eq_true]
  rw [if_neg (by omega), if_neg (by omega)]
  simp only [Option.bind_some]
  rw [if_neg (by simp; omega), spec_SeenOrder_eq (by omega) (by omega) s1 (by omega), Option.bind_some]
  have hol := ordr_length (p := (d.length : Int)) s1
  simp only [if_true, hol, decide_true, Bool.not_true, Option.bind_some, Bool.false_eq_true, if_false]
  refine wp_loop (fun t : Int => ∃ k : Nat, t = (k : Int) ∧ (k : Int) ≤ s) (fun t => (s - t).toNat) ⟨0, rfl, by omega⟩ (by omega) ?_
  rintro i ⟨k, rfl, hk⟩
  refine wp_ite (fun h => ?_) (fun h => ?_)
  · have hog := og_lt (P := d.length) (s := s) (by omega) k
    rw [at_getD (by omega), ordr_at (by omega) h, og_eq (by omega)]
    simp only [Option.bind_some]
    rw [at_getD (by omega), at_getD (by omega)]
    simp only [Option.bind_some]
    rw [mot_get h, if_pos rfl]
    have := e4 k (by omega)
    rw [hml] at this
    rw [this]
    simp only [decide_true, Bool.not_true, Option.bind_some, Bool.false_eq_true, if_false]
    rw [w64_id (by omega) (by omega)]
    exact wp_some ⟨⟨k + 1, rfl, by omega⟩, by omega⟩
  · exact wp_some (wp_some rfl)
end Go.Vs.G
