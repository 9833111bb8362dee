/- Plain facts about the typed functions, up to the law: no program in sight. No conditions. -/
import Derived.Test.YtaaoecnfjibfcaaV5
import Derived.Test.YtaaoecnfjibfcaaDLTop
namespace Go.Vs
open Go

section
variable {α β S B R : Type}

theorem w64_succ {i n : Nat} (h : i < n) (hn : n < 9223372036854775807) : w64 ((i : Int) + 1) = (i : Int) + 1 := w64_id (by omega) (by omega)
theorem at_of {l : List α} {i : Nat} (h : i < l.length) : at? l (i : Int) = some l[i] := at_nat h
end
end Go.Vs

namespace Go.Vs.G
open Go Go.Vs

/-- a source that can still be asked; B bounds the place that it has come to -/
structure SrcOk (B : Int) (s : GL00Src) : Prop where
  bytes : ∀ x, x ∈ s.code → 0 ≤ x ∧ x ≤ 255
  len : s.code.length ≤ 1000000
  at0 : 0 ≤ s.at_
  atB : s.at_ ≤ B
theorem SrcOk.mono {B B' : Int} {s : GL00Src} (h : SrcOk B s) (hB : B ≤ B') : SrcOk B' s := ⟨h.bytes, h.len, h.at0, Int.le_trans h.atB hB⟩
theorem l00From_eq (code : List Int) : spec_l00From code = some (GL00Src.mk code 0 0) := rfl
theorem srcOk_from {code : List Int} (h : okL (okI .u8) code) (hl : code.length ≤ 1000000) : SrcOk 0 (GL00Src.mk code 0 0) :=
  ⟨fun x hx => okU8 (h.2 x hx), hl, by simp, by simp⟩
theorem shr40 (n : Int) : shr? .u64 n 40 = some (n.fdiv (2 ^ 40)) := by
  simp [shr?, IntKind.bits]
theorem and255 (n : Int) : 0 ≤ bit_and .u64 n 255 ∧ bit_and .u64 n 255 ≤ 255 := by
  unfold bit_and
  rw [wu64_def]
  have h : (BitVec.ofInt IntKind.u64.bits n &&& BitVec.ofInt IntKind.u64.bits 255).toNat ≤ 255 := by
    rw [BitVec.toNat_and]
    exact Nat.le_trans Nat.and_le_right (by decide)
  omega
theorem next_ok {B : Int} {s : GL00Src} (h : SrcOk B s) (hB : B ≤ 4611686018427387904) : ∃ v s', spec_l00Src_next s = some (v, s') ∧ 0 ≤ v ∧ v ≤ 255 ∧ SrcOk (B + 1) s' := by
  have h1 := h.at0
  have h2 := h.atB
  have h3 := h.len
  have hat : w64 (s.at_ + 1) = s.at_ + 1 := w64_id (by omega) (by omega)
  have hb : ∃ b, (if s.at_ < (s.code.length : Int) then ((at? s.code s.at_).bind fun v1 => some (w64 v1)) else some 0) = some b ∧ 0 ≤ b ∧ b ≤ 255 := by
    split
    · rename_i hlt
      rw [at_ok h1 (by omega), Option.bind_some]
      obtain ⟨g1, g2⟩ := h.bytes s.code[s.at_.toNat] (List.getElem_mem (by omega))
      exact ⟨_, rfl, by rw [w64_id (by omega) (by omega)]; omega, by rw [w64_id (by omega) (by omega)]; omega⟩
    · exact ⟨0, rfl, by omega, by omega⟩
  obtain ⟨b, hb, b0, b1⟩ := hb
  unfold spec_l00Src_next
  rw [hb, Option.bind_some, hat]
  split
  · exact ⟨_, _, rfl, b0, b1, ⟨h.bytes, h.len, by simp only; omega, by simp only; omega⟩⟩
  · rw [shr40, Option.bind_some]
    have := and255 ((IntKind.wrap .u64 ((IntKind.wrap .u64 ((IntKind.wrap .u64 (s.seed * 6364136223846793005)) + (IntKind.wrap .u64 b))) + 1442695040888963407)).fdiv (2 ^ 40))
    exact ⟨_, _, rfl, by rw [w64_id (by omega) (by omega)]; omega, by rw [w64_id (by omega) (by omega)]; omega, ⟨h.bytes, h.len, by simp only; omega, by simp only; omega⟩⟩
theorem pick_ok {B : Int} {s : GL00Src} (h : SrcOk B s) (hB : B ≤ 4611686018427387000) (n : Int) : ∃ v s', spec_l00Src_pick s n = some (v, s') ∧ 0 ≤ v ∧ (v = 0 ∨ v < n) ∧ SrcOk (B + 2) s' := by
  unfold spec_l00Src_pick
  by_cases hn : n ≤ 1
  · rw [if_pos hn]; exact ⟨0, s, rfl, by omega, .inl rfl, h.mono (by omega)⟩
  · rw [if_neg hn]
    obtain ⟨v, s1, e1, v0, v1, k1⟩ := next_ok h (by omega)
    rw [e1, Option.bind_some]
    by_cases h2 : n > 200
    · rw [if_pos h2]
      obtain ⟨u, s2, e2, u0, u1, k2⟩ := next_ok k1 (by omega)
      simp only
      rw [e2, Option.bind_some, mod_ok (by omega), Option.bind_some, w64_id (n := v * 256) (by omega) (by omega), w64_id (by simp only; omega) (by simp only; omega)]
      have e : (v * 256 + u).tmod n = (v * 256 + u) % n := Int.tmod_eq_emod_of_nonneg (by omega)
      refine ⟨_, _, rfl, ?_, ?_, by rw [show B + 2 = B + 1 + 1 by omega]; exact k2⟩
      · simp only [e]; exact Int.emod_nonneg _ (by omega)
      · simp only [e]; right; exact Int.emod_lt_of_pos _ (by omega)
    · rw [if_neg h2, mod_ok (by omega), Option.bind_some]
      simp only
      have e : v.tmod n = v % n := Int.tmod_eq_emod_of_nonneg (by omega)
      refine ⟨_, _, rfl, ?_, ?_, k1.mono (by omega)⟩
      · rw [e]; exact Int.emod_nonneg _ (by omega)
      · rw [e]; right; exact Int.emod_lt_of_pos _ (by omega)
theorem a2Long_eq (a b : List Int) : ∃ r, laws_a2Long a b = some r ∧ (r = false → a.length ≤ 3000 ∧ b.length ≤ 3000) := by
  unfold laws_a2Long
  split
  · exact ⟨true, rfl, by simp⟩
  · exact ⟨_, rfl, by simp; omega⟩
/-- a number off a byte -/
theorem a2At_ok {code : List Int} (h : okL (okI .u8) code) (hl : code.length ≤ 3000) {i n : Int} (hi : 0 ≤ i) (hn : 1 ≤ n) : ∃ v, laws_a2At code i n = some v ∧ 0 ≤ v ∧ v < n := by
  unfold laws_a2At
  by_cases h1 : i ≥ (code.length : Int)
  · rw [if_pos h1]; exact ⟨0, rfl, by omega, by omega⟩
  · rw [if_neg h1, Option.bind_some]
    have h2 : ¬ n < 1 := by omega
    simp only [h2, decide_false, Bool.false_eq_true, if_false]
    rw [at_ok hi (by omega), Option.bind_some, mod_ok (by omega), Option.bind_some]
    obtain ⟨g1, g2⟩ := okU8 (h.2 code[i.toNat] (List.getElem_mem (by omega)))
    rw [w64_id (by omega) (by omega)]
    have e : (code[i.toNat]'(by omega)).tmod n = (code[i.toNat]'(by omega)) % n := Int.tmod_eq_emod_of_nonneg g1
    exact ⟨_, rfl, by rw [e]; exact Int.emod_nonneg _ (by omega), by rw [e]; exact Int.emod_lt_of_pos _ (by omega)⟩
end Go.Vs.G

namespace Go.Vs.G
open Go Go.Vs

/-- a valid fraction -/
def GFraction.valid (f : GFraction) : Prop := 1 ≤ f.Den ∧ f.Den ≤ 1000000 ∧ -1000000 ≤ f.Num ∧ f.Num ≤ 1000000 ∧ Int.gcd f.Num f.Den = 1
/-- a drawn fraction -/
structure Drawn (f : GFraction) : Prop where
  d0 : 1 ≤ f.Den
  d1 : f.Den ≤ 20
  n0 : -15 ≤ f.Num
  n1 : f.Num ≤ 44
  cop : Int.gcd f.Num f.Den = 1
theorem Drawn.valid {f : GFraction} (h : Drawn f) : f.valid := ⟨h.d0, by have := h.d1; omega, by have := h.n0; omega, by have := h.n1; omega, h.cop⟩
end Go.Vs.G

namespace Go.Vs.G
open Go Go.Vs

theorem mul_bd {a b A B : Int} (h1 : -A ≤ a) (h2 : a ≤ A) (h3 : -B ≤ b) (h4 : b ≤ B) : -(A * B) ≤ a * b ∧ a * b ≤ A * B := by
  have ha : a.natAbs ≤ A.natAbs := by omega
  have hb : b.natAbs ≤ B.natAbs := by omega
  have := Nat.mul_le_mul ha hb
  rw [← Int.natAbs_mul, ← Int.natAbs_mul] at this
  have h5 : 0 ≤ A * B := Int.mul_nonneg (by omega) (by omega)
  omega
theorem within_eqR (n a b : Int) : impl_within n a b = some (decide (a ≤ n ∧ n ≤ b)) := by
  unfold impl_within; split <;> simp <;> omega
end Go.Vs.G

namespace Go.Vs.G
open Go Go.Vs

/-- the picture that is nearest -/
def nst (p s k : Int) : Int := (2 * k * p + s) / (2 * s)
theorem nst_lo {p s k : Int} (hs : 1 ≤ s) : 2 * (nst p s k * s - k * p) ≤ s := by
  have h := Int.mul_ediv_self_le (x := 2 * k * p + s) (k := 2 * s) (by omega)
  have e : 2 * s * nst p s k = 2 * (nst p s k * s) := by rw [Int.mul_assoc, Int.mul_comm s]
  have e2 : 2 * k * p = 2 * (k * p) := Int.mul_assoc ..
  unfold nst at e ⊢
  omega
theorem nst_hi {p s k : Int} (hs : 1 ≤ s) : -s < 2 * (nst p s k * s - k * p) := by
  have h := Int.lt_mul_ediv_self_add (x := 2 * k * p + s) (k := 2 * s) (by omega)
  have e : 2 * s * nst p s k = 2 * (nst p s k * s) := by rw [Int.mul_assoc, Int.mul_comm s]
  have e2 : 2 * k * p = 2 * (k * p) := Int.mul_assoc ..
  unfold nst at e ⊢
  omega
theorem nst_nonneg {p s k : Int} (hs : 1 ≤ s) (hk : 0 ≤ k) (hp : 0 ≤ p) : 0 ≤ nst p s k := by
  unfold nst
  have : 0 ≤ 2 * k * p := Int.mul_nonneg (by omega) hp
  exact Int.ediv_nonneg (by omega) (by omega)
theorem nst_le {p s k : Int} (hs : 1 ≤ s) (hk : 0 ≤ k) (hp : 0 ≤ p) : nst p s k ≤ 2 * k * p + s := by
  have : 0 ≤ 2 * k * p := Int.mul_nonneg (by omega) hp
  exact Int.ediv_le_self _ (by omega)
theorem kp_le {k p : Int} (hk : 0 ≤ k) (hk2 : k ≤ 1000000) (hp : 0 ≤ p) (hp2 : p ≤ 48) : 0 ≤ 2 * k * p ∧ 2 * k * p ≤ 96000000 := by
  have := mul_bd (a := 2 * k) (b := p) (A := 2000000) (B := 48) (by omega) (by omega) (by omega) hp2
  exact ⟨Int.mul_nonneg (by omega) hp, by omega⟩
theorem nearest_eq {p s k : Int} (hp : 0 ≤ p) (hp2 : p ≤ 48) (hs : 1 ≤ s) (hs2 : s ≤ 48) (hk : 0 ≤ k) (hk2 : k ≤ 1000000) : impl_nearest p s k = some (nst p s k) := by
  have hb := kp_le hk hk2 hp hp2
  have h1 := nst_nonneg hs hk hp
  have h2 := nst_le hs hk hp
  unfold impl_nearest
  rw [w64_id (n := 2 * k) (by omega) (by omega), w64_id (n := 2 * k * p) (by omega) (by omega), w64_id (n := 2 * k * p + s) (by omega) (by omega), w64_id (n := 2 * s) (by omega) (by omega), div_ok (by omega), Option.bind_some,
    Int.tdiv_eq_ediv_of_nonneg (by omega)]
  congr 1
  exact w64_id (n := nst p s k) (by omega) (by omega)
/-- what is seen in a turn -/
def ordr (p s : Int) : List Int := tab (fun k => nst p s k % p) s.toNat
theorem ordr_length {p s : Int} (hs : 1 ≤ s) : ((ordr p s).length : Int) = s := by simp [ordr]; omega
theorem ordr_at {p s : Int} {k : Int} (hk : 0 ≤ k) (hk2 : k < s) : at? (ordr p s) k = some (nst p s k % p) := by
  unfold ordr
  rw [tab_at hk (by omega)]
  congr 3; omega
theorem seenOrder_eq {p s : Int} (hp : 1 ≤ p) (hp2 : p ≤ 48) (hs : 1 ≤ s) (hs2 : s ≤ 48) : impl_seenOrder p s = some (ordr p s) := by
  refine eq_of_wp ?_
  unfold impl_seenOrder
  refine wp_loop (fun t : List Int × Int => ∃ k : Nat, t.2 = (k : Int) ∧ (k : Int) ≤ s ∧ t.1 = tab (fun k => nst p s k % p) k) (fun t => (s - t.2).toNat) ⟨0, rfl, by omega, rfl⟩ (by simp; omega) ?_
  rintro ⟨a, i⟩ ⟨k, rfl, hk, rfl⟩
  simp only
  refine wp_ite (fun h => ?_) (fun h => ?_)
  · rw [nearest_eq (by omega) hp2 hs hs2 (by omega) (by omega), Option.bind_some, mod_ok (by omega), Option.bind_some, app_ok (by simp; omega), Option.bind_some,
      Int.tmod_eq_emod_of_nonneg (nst_nonneg hs (by omega) (by omega)), w64_id (by omega) (by omega)]
    exact wp_some ⟨⟨k + 1, rfl, by omega, tab_succ.symm⟩, by simp only; omega⟩
  · refine wp_some (wp_some ?_)
    unfold ordr
    congr 1; omega
end Go.Vs.G

namespace Go.Vs.G
open Go Go.Vs

theorem ofNat8 (n : Nat) : (UInt8.ofNat n).toNat = n % 256 := by simp
def lett (l : List UInt8) : Prop := ∀ c ∈ l, 97 ≤ c.toNat ∧ c.toNat ≤ 122
theorem isLetters_ok {l : List UInt8} {n : Int} (h : lett l) (h1 : 1 ≤ l.length) (h2 : (l.length : Int) ≤ n) (h3 : l.length < 9223372036854775807) : impl_isLetters l n = some true := by
  refine eq_of_wp ?_
  unfold impl_isLetters
  refine wp_loop (fun t : Int => ∃ k : Nat, t = (k : Int) ∧ k ≤ l.length) (fun t => (l.length - t).toNat) ⟨0, rfl, by omega⟩ (by omega) ?_
  rintro i ⟨k, rfl, hk⟩
  refine wp_ite (fun h4 => ?_) (fun h4 => ?_)
  · have hk2 : k < l.length := by omega
    have hc := h _ (List.getElem_mem hk2)
    rw [at_of hk2]
    simp only [Option.bind_some]
    rw [if_neg (by omega)]
    simp only [Option.bind_some]
    rw [if_neg (by simp; omega), w64_succ hk2 h3]
    exact wp_some ⟨⟨k + 1, rfl, by omega⟩, by omega⟩
  · refine wp_some ?_
    rw [if_pos (by omega)]
    exact wp_some (by simp [h2])
theorem ValidMotion_ok {l : List UInt8} (h : lett l) (h1 : 1 ≤ l.length) (h2 : l.length ≤ 24) : impl_ValidMotion l = some true := by
  unfold impl_ValidMotion
  rw [isLetters_ok h h1 (by omega) (by omega)]; rfl
/-- the place that is seen -/
def og (P s : Int) (k : Nat) : Nat := (nst P s k % P).toNat
theorem og_lt {P s : Int} (hP : 1 ≤ P) (k : Nat) : (og P s k : Int) < P := by
  unfold og
  have m0 := Int.emod_nonneg (nst P s k) (b := P) (by omega)
  have m1 := Int.emod_lt_of_pos (nst P s k) (b := P) (by omega)
  omega
theorem og_eq {P s : Int} (hP : 1 ≤ P) (k : Nat) : nst P s k % P = (og P s k : Int) := by
  unfold og
  have m0 := Int.emod_nonneg (nst P s k) (b := P) (by omega)
  omega
theorem og_zero {P s : Int} (hs : 1 ≤ s) : og P s 0 = 0 := by
  unfold og nst
  have : (2 * ((0 : Nat) : Int) * P + s) / (2 * s) = 0 := by
    rw [show (2 * ((0 : Nat) : Int) * P + s) = s by simp]
    exact Int.ediv_eq_zero_of_lt (by omega) (by omega)
  rw [this]; simp
def mot (d : List UInt8) (s : Int) : List UInt8 := tab (fun k => d.getD (og d.length s k) 0) s.toNat
theorem mot_length {d : List UInt8} {s : Int} (hs : 1 ≤ s) : ((mot d s).length : Int) = s := by simp [mot]; omega
theorem getD_mem {d : List UInt8} {i : Nat} (h : i < d.length) : d.getD i 0 ∈ d := by
  rw [List.getD_eq_getElem?_getD, List.getElem?_eq_getElem h]; exact List.getElem_mem h
theorem mot_lett {d : List UInt8} {s : Int} (h : lett d) (h1 : 1 ≤ d.length) : lett (mot d s) := by
  intro c hc
  unfold mot tab at hc
  rw [List.mem_map] at hc
  obtain ⟨k, _, rfl⟩ := hc
  exact h _ (getD_mem (by have := og_lt (P := d.length) (s := s) (by omega) k; omega))
theorem b2s_tab (f : Nat → Int) (n : Nat) : b2s (tab f n) = tab (fun i => UInt8.ofNat (f i).toNat) n := by
  unfold b2s tab; rw [List.map_map]; rfl
theorem b2s_tab8 (f : Nat → UInt8) (n : Nat) : b2s (tab (fun i => ((f i).toNat : Int)) n) = tab f n := by
  rw [b2s_tab]; refine tab_congr fun i _ => ?_
  rw [Int.toNat_natCast]; exact UInt8.ofNat_toNat
theorem at_getD {d : List UInt8} {i : Nat} (h : i < d.length) : at? d (i : Int) = some (d.getD i 0) := by
  rw [at_of h, List.getD_eq_getElem?_getD, List.getElem?_eq_getElem h]; rfl
theorem MotionOf_eq {d : List UInt8} {s : Int} (h : lett d) (h1 : 1 ≤ d.length) (h2 : d.length ≤ 24) (hs : 1 ≤ s) (hs2 : s ≤ 24) : impl_MotionOf d s = some (mot d s, 0) := by
  refine eq_of_wp ?_
  unfold impl_MotionOf
  have hlen := ordr_length (p := (d.length : Int)) hs
  rw [ValidMotion_ok h h1 h2, Option.bind_some, if_pos rfl, within_eqR, Option.bind_some, if_pos (by simp; omega), seenOrder_eq (by omega) (by omega) hs (by omega), Option.bind_some]
  refine wp_loop (fun t : List Int × Int => ∃ k : Nat, t.2 = (k : Int) ∧ (k : Int) ≤ s ∧ t.1 = tab (fun k => ((d.getD (og d.length s k) 0).toNat : Int)) k) (fun t => (s - t.2).toNat) ⟨0, rfl, by omega, rfl⟩ (by simp; omega) ?_
  rintro ⟨a, i⟩ ⟨k, rfl, hk, rfl⟩
  simp only [hlen]
  refine wp_ite (fun h3 => ?_) (fun h3 => ?_)
  · have hog := og_lt (P := d.length) (s := s) (by omega) k
    rw [ordr_at (by omega) h3, Option.bind_some, og_eq (by omega), at_getD (by omega), Option.bind_some, app_ok (by simp; omega), Option.bind_some, w64_id (by omega) (by omega)]
    exact wp_some ⟨⟨k + 1, rfl, by omega, tab_succ.symm⟩, by simp only; omega⟩
  · refine wp_some (wp_some ?_)
    rw [b2s_tab8]
    unfold mot
    rw [show s.toNat = k by omega]
/-- a disc for a motion -/
theorem discFor_ok {m : List UInt8} {P : Int} (hm : lett m) (h1 : 1 ≤ m.length) (h2 : m.length ≤ 24) (hP : 1 ≤ P) (hP2 : P ≤ 24) :
    ∃ x b, impl_discFor m P = some (x, b) ∧ (b = true → (x.length : Int) = P ∧ lett x) ∧ (∀ d : Nat → UInt8, (∀ k, k < m.length → m.getD k 0 = d (og P m.length k)) → b = true ∧ ∀ k, k < m.length → x.getD (og P m.length k) 0 = d (og P m.length k)) := by
  have key : wp (impl_discFor m P) (fun r => (r.2 = true → (r.1.length : Int) = P ∧ lett r.1) ∧ (∀ d : Nat → UInt8, (∀ k, k < m.length → m.getD k 0 = d (og P m.length k)) → r.2 = true ∧ ∀ k, k < m.length → r.1.getD (og P m.length k) 0 = d (og P m.length k))) := by
    unfold impl_discFor
    have hlen := ordr_length (p := P) (s := (m.length : Int)) (by omega)
    rw [mk_ok (by omega) (by omega), Option.bind_some, seenOrder_eq hP (by omega) (by omega) (by omega), Option.bind_some, tab_replicate]
    refine wp_loop (fun t : List Int × Int => ∃ (k : Nat) (f : Nat → Int), t.2 = (k : Int) ∧ k ≤ m.length ∧ t.1 = tab f P.toNat ∧ (∀ i, f i = 0 ∨ (97 ≤ f i ∧ f i ≤ 122)) ∧ (∀ j, j < k → f (og P m.length j) ≠ 0) ∧
      (∀ d : Nat → UInt8, (∀ k, k < m.length → m.getD k 0 = d (og P m.length k)) → ∀ i, f i = 0 ∨ f i = ((d i).toNat : Int))) (fun t => (m.length - t.2).toNat) ⟨0, fun _ => 0, rfl, by omega, rfl, fun _ => Or.inl rfl, fun j hj => by omega, fun d _ i => Or.inl rfl⟩ (by simp; omega) ?_
    rintro ⟨a, i⟩ ⟨k, f, rfl, hk, rfl, hf1, hf2, hf3⟩
    simp only [hlen]
    refine wp_ite (fun h3 => ?_) (fun h3 => ?_)
    · have hk2 : k < m.length := by omega
      have hog := og_lt (P := P) (s := (m.length : Int)) hP k
      have hc := hm _ (getD_mem hk2)
      rw [ordr_at (by omega) h3, Option.bind_some, og_eq hP, tab_at (by omega) (by omega), at_getD hk2, Int.toNat_natCast]
      simp only [Option.bind_some]
      have hx : (if f (og P m.length k) = 0 then some false else some (!decide (f (og P m.length k) = ((m.getD k 0).toNat : Int)))) = some (decide (f (og P m.length k) ≠ 0 ∧ f (og P m.length k) ≠ ((m.getD k 0).toNat : Int))) := by
        split
        · rename_i h; simp [h]
        · rename_i h; simp [h]
      rw [hx, Option.bind_some]
      refine wp_ite (fun h4 => ?_) (fun h4 => ?_)
      · rw [decide_eq_true_eq] at h4
        refine wp_some (wp_some ⟨fun h => by simp at h, fun d hd => ?_⟩)
        exfalso
        have e1 := hd k hk2
        rcases hf3 d hd (og P m.length k) with e | e
        · exact h4.1 e
        · rw [← e1] at e; exact h4.2 e
      · rw [w64_id (by omega) (by omega)]
        refine wp_some ⟨⟨k + 1, fun j => if j = og P m.length k then ((m.getD k 0).toNat : Int) else f j, rfl, by omega, tab_set, fun i => ?_, fun j hj => ?_, fun d hd i => ?_⟩, by simp only; omega⟩
        · simp only; split
          · right; omega
          · exact hf1 i
        · simp only; split
          · omega
          · refine hf2 j ?_
            rcases Nat.lt_or_ge j k with h | h
            · exact h
            · obtain rfl : j = k := by omega
              contradiction
        · simp only; split
          · rename_i e; right; rw [e, hd k hk2]
          · exact hf3 d hd i
    · obtain rfl : k = m.length := by omega
      refine wp_some ?_
      have hf0 : f 0 ≠ 0 := by have := hf2 0 (by omega); rwa [og_zero (by omega)] at this
      refine wp_loop (fun t : List Int × Int => ∃ (k : Nat) (g : Nat → Int), t.2 = (k : Int) ∧ 1 ≤ k ∧ (k : Int) ≤ P ∧ t.1 = tab g P.toNat ∧ (∀ i, g i = 0 ∨ (97 ≤ g i ∧ g i ≤ 122)) ∧ (∀ j, j < k → g j ≠ 0) ∧ (∀ i, f i ≠ 0 → g i = f i)) (fun t => (P - t.2).toNat)
        ⟨1, f, rfl, by omega, by omega, rfl, hf1, fun j hj => by rw [show j = 0 by omega]; exact hf0, fun i _ => rfl⟩ (by simp; omega) ?_
      rintro ⟨a, i⟩ ⟨k, g, rfl, hk1, hk, rfl, hg1, hg2, hg3⟩
      simp only [tab_length]
      refine wp_ite (fun h3 => ?_) (fun h3 => ?_)
      · rw [tab_at (by omega) (by omega), Option.bind_some, Int.toNat_natCast, w64_id (n := (k : Int) - 1) (by omega) (by omega), w64_id (n := (k : Int) + 1) (by omega) (by omega)]
        refine wp_ite (fun h4 => ?_) (fun h4 => ?_)
        · rw [tab_at (by omega) (by omega)]
          simp only [Option.bind_some]
          rw [show ((k : Int) - 1).toNat = k - 1 by omega]
          refine wp_some ⟨⟨k + 1, fun j => if j = k then g (k - 1) else g j, rfl, by omega, by omega, tab_set, fun i => ?_, fun j hj => ?_, fun i hi => ?_⟩, by simp only; omega⟩
          · simp only; split
            · exact hg1 _
            · exact hg1 i
          · simp only; split
            · exact hg2 _ (by omega)
            · exact hg2 j (by omega)
          · simp only; split
            · rename_i e; exfalso; subst e; have := hg3 i hi; omega
            · exact hg3 i hi
        · refine wp_some ⟨⟨k + 1, g, rfl, by omega, by omega, rfl, hg1, fun j hj => ?_, hg3⟩, by simp only; omega⟩
          rcases Nat.lt_or_ge j k with h | h
          · exact hg2 j h
          · rw [show j = k by omega]; exact h4
      · refine wp_some (wp_some ⟨fun _ => ⟨?_, ?_⟩, fun d hd => ⟨rfl, fun j hj => ?_⟩⟩)
        · simp [b2s]; omega
        · simp only
          rw [b2s_tab]
          intro c hc
          unfold tab at hc
          rw [List.mem_map] at hc
          obtain ⟨i, hi, rfl⟩ := hc
          rw [List.mem_range] at hi
          have e1 := hg2 i (by omega)
          have e2 := hg1 i
          rw [ofNat8]
          omega
        · have hog := og_lt (P := P) (s := (m.length : Int)) hP j
          have e1 := hf2 j hj
          have e2 := hg3 _ e1
          have e3 : f (og P m.length j) = ((d (og P m.length j)).toNat : Int) := by
            rcases hf3 d hd (og P m.length j) with e | e
            · exact absurd e e1
            · exact e
          simp only
          rw [b2s_tab, List.getD, tab_get (by omega), e2, e3, Int.toNat_natCast]
          exact UInt8.ofNat_toNat
  obtain ⟨⟨x, b⟩, k1, k2, k3⟩ := key
  exact ⟨x, b, k1, k2, k3⟩
theorem FewestPictures_ok {m : List UInt8} (hm : lett m) (h1 : 1 ≤ m.length) (h2 : m.length ≤ 24) :
    ∃ u, impl_FewestPictures m = some (u, 0) ∧ 1 ≤ u ∧ u ≤ m.length ∧ ∀ (P : Int), 1 ≤ P → ∀ d : Nat → UInt8, (∀ k, k < m.length → m.getD k 0 = d (og P m.length k)) → u ≤ P := by
  have key : wp (impl_FewestPictures m) (fun r => r.2 = 0 ∧ 1 ≤ r.1 ∧ r.1 ≤ m.length ∧ ∀ (P : Int), 1 ≤ P → ∀ d : Nat → UInt8, (∀ k, k < m.length → m.getD k 0 = d (og P m.length k)) → r.1 ≤ P) := by
    unfold impl_FewestPictures
    rw [ValidMotion_ok hm h1 h2, Option.bind_some, if_pos rfl]
    refine wp_loop (fun t : Int => 1 ≤ t ∧ t ≤ m.length ∧ ∀ (P : Int), 1 ≤ P → ∀ d : Nat → UInt8, (∀ k, k < m.length → m.getD k 0 = d (og P m.length k)) → t ≤ P) (fun t => (m.length - t).toNat) ⟨by omega, by omega, fun P hP _ _ => hP⟩ (by omega) ?_
    rintro i ⟨i1, i2, i3⟩
    refine wp_ite (fun h3 => ?_) (fun h3 => ?_)
    · obtain ⟨x, b, e1, e2, e3⟩ := discFor_ok hm h1 h2 i1 (by omega)
      rw [e1, Option.bind_some]
      refine wp_ite (fun h4 => ?_) (fun h4 => ?_)
      · exact wp_some (wp_some ⟨rfl, i1, i2, i3⟩)
      · rw [w64_id (by omega) (by omega)]
        refine wp_some ⟨⟨by omega, by omega, fun P hP d hd => ?_⟩, by omega⟩
        have := i3 P hP d hd
        rcases Int.lt_or_eq_of_le this with h | h
        · omega
        · subst h; exact absurd (e3 d hd).1 h4
    · exact wp_some (wp_some ⟨rfl, i1, i2, i3⟩)
  obtain ⟨⟨u, c⟩, k1, k2, k3, k4, k5⟩ := key
  simp only at k2 k3 k4 k5
  subst k2
  exact ⟨u, k1, k3, k4, k5⟩
theorem DiscFor_ok {m : List UInt8} {P : Int} (hm : lett m) (h1 : 1 ≤ m.length) (h2 : m.length ≤ 24) (hP : 1 ≤ P) (hP2 : P ≤ 24) (d : Nat → UInt8) (hd : ∀ k, k < m.length → m.getD k 0 = d (og P m.length k)) :
    ∃ x, impl_DiscFor m P = some (x, 0) ∧ (x.length : Int) = P ∧ lett x ∧ ∀ k, k < m.length → x.getD (og P m.length k) 0 = d (og P m.length k) := by
  unfold impl_DiscFor
  rw [ValidMotion_ok hm h1 h2, Option.bind_some, if_pos rfl, within_eqR, Option.bind_some, if_pos (by simp; omega)]
  obtain ⟨x, b, e1, e2, e3⟩ := discFor_ok hm h1 h2 hP hP2
  obtain ⟨rfl, e4⟩ := e3 d hd
  rw [e1, Option.bind_some]
  exact ⟨x, rfl, (e2 rfl).1, (e2 rfl).2, e4⟩
/- the reference's -/
theorem l03Seen_eq {p s k : Int} (hp : 1 ≤ p) (hp2 : p ≤ 48) (hs : 1 ≤ s) (hs2 : s ≤ 48) (hk : 0 ≤ k) (hk2 : k ≤ 1000000) : spec_l03Seen p s k = some (nst p s k % p) := by
  have hb := kp_le hk hk2 (p := p) (by omega) hp2
  have h1 := nst_nonneg hs hk (p := p) (by omega)
  have h2 := nst_le hs hk (p := p) (by omega)
  have e2 : 2 * k * p = 2 * (k * p) := Int.mul_assoc ..
  have key : spec_l00Floor (2 * (k * p) + s) (2 * s) = some (nst p s k) := by
    unfold spec_l00Floor
    rw [div_ok (by omega), Option.bind_some, mod_ok (by omega), Option.bind_some, Int.tmod_eq_emod_of_nonneg (by omega), Int.tdiv_eq_ediv_of_nonneg (by omega)]
    have := Int.emod_nonneg (2 * (k * p) + s) (b := 2 * s) (by omega)
    rw [if_neg (by omega)]
    congr 1
    rw [← e2]
    exact w64_id (n := nst p s k) (by omega) (by omega)
  unfold spec_l03Seen spec_l03Near spec_l00Round
  rw [w64_id (n := k * p) (by omega) (by omega), w64_id (n := 2 * (k * p)) (by omega) (by omega), w64_id (n := 2 * (k * p) + s) (by omega) (by omega), w64_id (n := 2 * s) (by omega) (by omega), key]
  simp only [Option.bind_some]
  rw [mod_ok (by omega), Option.bind_some, Int.tmod_eq_emod_of_nonneg h1]
theorem l06Motion_eq {d : List UInt8} {s : Int} (h1 : 1 ≤ d.length) (h2 : d.length ≤ 24) (hs : 1 ≤ s) (hs2 : s ≤ 24) : spec_l06Motion d s = some (mot d s) := by
  refine eq_of_wp ?_
  unfold spec_l06Motion
  refine wp_loop (fun t : List Int × Int => ∃ k : Nat, t.2 = (k : Int) ∧ (k : Int) ≤ s ∧ t.1 = tab (fun k => ((d.getD (og d.length s k) 0).toNat : Int)) k) (fun t => (s - t.2).toNat) ⟨0, rfl, by omega, rfl⟩ (by simp; omega) ?_
  rintro ⟨a, i⟩ ⟨k, rfl, hk, rfl⟩
  simp only
  refine wp_ite (fun h3 => ?_) (fun h3 => ?_)
  · have hog := og_lt (P := d.length) (s := s) (by omega) k
    rw [l03Seen_eq (by omega) (by omega) hs (by omega) (by omega) (by omega), Option.bind_some, og_eq (by omega), at_getD (by omega), Option.bind_some, app_ok (by simp; omega), Option.bind_some, w64_id (by omega) (by omega)]
    exact wp_some ⟨⟨k + 1, rfl, by omega, tab_succ.symm⟩, by simp only; omega⟩
  · refine wp_some (wp_some ?_)
    rw [b2s_tab8]
    unfold mot
    rw [show s.toNat = k by omega]
theorem A2Motion_ok {code : List Int} (h : okL (okI .u8) code) (hl : code.length ≤ 3000) : ∃ d, spec_A2Motion code = some d ∧ lett d ∧ 1 ≤ d.length ∧ d.length ≤ 12 := by
  have key : wp (spec_l06Draw (GL00Src.mk code 0 0)) (fun r => lett r.1 ∧ 1 ≤ r.1.length ∧ r.1.length ≤ 12) := by
    unfold spec_l06Draw
    obtain ⟨v1, s1, e1, a1, b1, k1⟩ := pick_ok (srcOk_from h (by omega)) (by omega) 6
    rw [e1, Option.bind_some]
    simp only
    rw [w64_id (by omega) (by omega)]
    refine wp_loop (fun t : GL00Src × List Int × Int => ∃ B : Int, SrcOk B t.1 ∧ B + 2 * t.2.2 = 2 + 2 * (1 + v1) ∧ 0 ≤ t.2.2 ∧ t.2.2 ≤ 1 + v1 ∧ ((t.2.1.length : Int) = 1 + v1 - t.2.2) ∧ (∀ c ∈ t.2.1, 97 ≤ c ∧ c ≤ 122)) (fun t => t.2.2.toNat) ⟨2, k1, rfl, by simp only; omega, by simp only; omega, by simp, by simp⟩ (by simp only; omega) ?_
    rintro ⟨s2, a, k⟩ ⟨B, j1, j2, j3, j4, j5, j6⟩
    simp only at j1 j2 j3 j4 j5 j6 ⊢
    refine wp_ite (fun h => ?_) (fun h => ?_)
    · obtain ⟨v2, s3, e2, a2, b2, k2⟩ := pick_ok j1 (by omega) 3
      rw [e2, Option.bind_some]
      simp only
      have hc : ∃ c, at? ([97, 98, 99] : List UInt8) v2 = some c ∧ 97 ≤ (c.toNat : Int) ∧ (c.toNat : Int) ≤ 122 := by
        have : v2 = 0 ∨ v2 = 1 ∨ v2 = 2 := by omega
        rcases this with rfl | rfl | rfl
        · exact ⟨97, rfl, by decide, by decide⟩
        · exact ⟨98, rfl, by decide, by decide⟩
        · exact ⟨99, rfl, by decide, by decide⟩
      obtain ⟨c, hc, c1, c2⟩ := hc
      rw [hc, Option.bind_some, app_ok (by simp; omega), Option.bind_some, w64_id (by omega) (by omega)]
      refine wp_some ⟨⟨B + 2, k2, by simp only; omega, by simp only; omega, by simp only; omega, by simp; omega, ?_⟩, by simp only; omega⟩
      intro x hx
      rw [List.mem_append] at hx
      rcases hx with hx | hx
      · exact j6 x hx
      · simp at hx; subst hx; exact ⟨c1, c2⟩
    · refine wp_some ?_
      simp only
      obtain ⟨v3, s3, e3, a3, b3, k3⟩ := pick_ok j1 (by omega) 4
      rw [e3, Option.bind_some]
      simp only
      have hbl : (b2s a).length = a.length := by simp [b2s]
      have hlet : lett (b2s a) := by
        intro c hc
        unfold b2s at hc
        rw [List.mem_map] at hc
        obtain ⟨n, hn, rfl⟩ := hc
        have := j6 n hn
        rw [ofNat8]; omega
      refine wp_ite (fun h => ?_) (fun h => ?_)
      · rw [app_ok (by omega), Option.bind_some]
        refine wp_some ⟨?_, by simp; omega, by simp; omega⟩
        intro c hc
        rw [List.mem_append] at hc
        rcases hc with hc | hc <;> exact hlet c hc
      · refine wp_ite (fun h => ?_) (fun h => ?_)
        · obtain ⟨v4, s4, e4, a4, b4, k4⟩ := pick_ok k3 (by omega) 12
          rw [e4, Option.bind_some]
          simp only
          rw [w64_id (by omega) (by omega), l06Motion_eq (by omega) (by omega) (by omega) (by omega), Option.bind_some]
          have hml := mot_length (d := b2s a) (s := 1 + v4) (by omega)
          exact wp_some ⟨mot_lett hlet (by omega), by simp only; omega, by simp only; omega⟩
        · exact wp_some ⟨hlet, by simp only; omega, by simp only; omega⟩
  obtain ⟨⟨d, s⟩, h1, h2, h3, h4⟩ := key
  unfold spec_A2Motion
  rw [l00From_eq, Option.bind_some, h1]
  exact ⟨d, rfl, h2, h3, h4⟩
end Go.Vs.G

namespace Go.Vs.G
open Go Go.Vs

theorem l00In_eqB (n a b : Int) : spec_l00In n a b = some (decide (a ≤ n ∧ n ≤ b)) := by
  unfold spec_l00In; split <;> simp <;> omega
end Go.Vs.G

namespace Go.Vs
open Go

section
variable {α β γ R : Type}

/-- the library's IndexFunc -/
theorem idxFS {f : α → Option Bool} (c : α → Bool) (l : List α) (hf : ∀ x, x ∈ l → f x = some (c x)) (hl : l.length < 9223372036854775807)
    {body : Int → Option (Step Int Unit Int)}
    (hb : ∀ (i : Int), body i = if i < (l.length : Int) then ((at? l i).bind fun v => (f v).bind fun r => if r = true then some (.ret i) else some (.next (w64 (i + 1)))) else some (.brk ())) :
    wp (onL (loop body loopLim 0) (fun (_ : Unit) => some (-1 : Int)) (fun r => some r)) fun r => (r = -1 ∧ l.any c = false) ∨ (∃ k : Nat, r = (k : Int) ∧ ∃ h : k < l.length, c l[k] = true ∧ (∀ j (h2 : j < k), c (l[j]'(by omega)) = false) ∧ l.any c = true) := by
  refine wp_loop (fun t : Int => ∃ k : Nat, t = (k : Int) ∧ k ≤ l.length ∧ ∀ j (h2 : j < k) (h3 : j < l.length), c l[j] = false) (fun t => (l.length - t).toNat) ⟨0, rfl, by omega, fun j hj => by omega⟩ (by omega) ?_
  rintro i ⟨k, rfl, hk, hall⟩
  rw [hb]
  refine wp_ite (fun h => ?_) (fun h => ?_)
  · have hk2 : k < l.length := by omega
    rw [at_of hk2, Option.bind_some, hf _ (List.getElem_mem hk2), Option.bind_some]
    refine wp_ite (fun h3 => ?_) (fun h3 => ?_)
    · exact wp_some (wp_some (.inr ⟨k, rfl, hk2, h3, fun j hj => hall j hj (by omega), List.any_eq_true.2 ⟨_, List.getElem_mem hk2, h3⟩⟩))
    · rw [w64_succ hk2 (by omega)]
      refine wp_some ⟨⟨k + 1, rfl, by omega, fun j hj hj2 => ?_⟩, by omega⟩
      rcases Nat.lt_or_ge j k with h4 | h4
      · exact hall j h4 hj2
      · obtain rfl : j = k := by omega
        simpa using h3
  · obtain rfl : k = l.length := by omega
    refine wp_some (wp_some (.inl ⟨rfl, ?_⟩))
    refine Bool.eq_false_iff.2 fun hc => ?_
    obtain ⟨x, hx, hx2⟩ := List.any_eq_true.1 hc
    obtain ⟨j, hj, rfl⟩ := List.getElem_of_mem hx
    rw [hall j hj hj] at hx2
    cases hx2
/-- the library's ContainsFunc -/
theorem contS {f : α → Option Bool} (c : α → Bool) (l : List α) (hf : ∀ x, x ∈ l → f x = some (c x)) (hl : l.length < 9223372036854775807)
    {body : Int → Option (Step Int Unit Int)}
    (hb : ∀ (i : Int), body i = if i < (l.length : Int) then ((at? l i).bind fun v => (f v).bind fun r => if r = true then some (.ret i) else some (.next (w64 (i + 1)))) else some (.brk ())) :
    ((onL (loop body loopLim 0) (fun (_ : Unit) => some (-1 : Int)) (fun r => some r)).bind fun r => some (decide (r ≥ 0))) = some (l.any c) := by
  obtain ⟨r, h1, h2⟩ := idxFS c l hf hl hb
  rw [h1, Option.bind_some]
  rcases h2 with ⟨rfl, h⟩ | ⟨k, rfl, _, _, _, h⟩
  · rw [h]; rfl
  · rw [h, decide_eq_true (by omega)]
/-- a loop whose state at each round is told -/
theorem wp_cnt {S B : Type} {Q : γ → Prop} {body : S → Option (Step S B R)} {kb : B → Option γ} {kr : R → Option γ} {s0 : S} (st : Nat → S) (n : Nat) (h0 : s0 = st 0) (hn : n < 18446744073709551616)
    (hs : ∀ k, k < n → body (st k) = some (.next (st (k + 1)))) {b : B} (he : body (st n) = some (.brk b)) (hq : wp (kb b) Q) : wp (onL (loop body loopLim s0) kb kr) Q := by
  rw [h0, loop_brk st n hn hs he]; exact hq
/-- the numbers below n that fit -/
def sl (c : Nat → Bool) : Nat → List Int
  | 0 => []
  | k + 1 => if c k = true then sl c k ++ [(k : Int)] else sl c k
theorem sl_len (c : Nat → Bool) : ∀ k, (sl c k).length ≤ k
  | 0 => by simp [sl]
  | k + 1 => by have := sl_len c k; rw [sl]; split <;> simp <;> omega
/-- the greatest -/
def mx (f : Nat → Int) : Nat → Int
  | 0 => 0
  | k + 1 => max (mx f k) (f k)
theorem mx_nonneg (f : Nat → Int) : ∀ k, 0 ≤ mx f k
  | 0 => by simp [mx]
  | k + 1 => by have := mx_nonneg f k; rw [mx]; omega
theorem le_mx {f : Nat → Int} : ∀ {k i : Nat}, i < k → f i ≤ mx f k
  | k + 1, i, h => by
    rw [mx]
    rcases Nat.lt_or_ge i k with h1 | h1
    · have := le_mx (f := f) h1; omega
    · rw [show i = k by omega]; omega
theorem mx_le {f : Nat → Int} {m : Int} (hm : 0 ≤ m) : ∀ {k : Nat}, (∀ i, i < k → f i ≤ m) → mx f k ≤ m
  | 0, _ => by simpa [mx] using hm
  | k + 1, h => by
    have h1 := mx_le (f := f) hm (k := k) fun i hi => h i (by omega)
    have h2 := h k (by omega)
    rw [mx]; omega
end
end Go.Vs

namespace Go.Vs
theorem wp_seq {α β : Type} {A : Option β} {k : β → Option α} {P : β → Prop} {Q : α → Prop} (h : wp A P) (hk : ∀ x, P x → wp (k x) Q) : wp (A.bind k) Q := by
  obtain ⟨x, rfl, hx⟩ := h; exact hk x hx
end Go.Vs
namespace Go.Vs.G
open Go Go.Vs

section
variable {α : Type} {Q : α → Prop} {B : Int} {s : GL00Src}
theorem wp_pick {n : Int} {k : Int × GL00Src → Option α} (h : SrcOk B s) (hB : B ≤ 4611686018427387000) (hk : ∀ v s', 0 ≤ v → (v = 0 ∨ v < n) → SrcOk (B + 2) s' → wp (k (v, s')) Q) : wp ((spec_l00Src_pick s n).bind k) Q := by
  obtain ⟨v, s', e, h0, h1, h2⟩ := pick_ok h hB n
  rw [e]; exact hk v s' h0 h1 h2
theorem wp_from {code : List Int} {k : GL00Src → Option α} (h : okL (okI .u8) code) (hl : code.length ≤ 1000000) (hk : ∀ s, SrcOk 0 s → wp (k s) Q) : wp ((spec_l00From code).bind k) Q := hk _ (srcOk_from h hl)
theorem wp_app {β : Type} {l m : List β} {k : List β → Option α} (h : l.length + m.length ≤ 4294967296) (hk : wp (k (l ++ m)) Q) : wp ((app? l m).bind k) Q := by
  rw [app_ok h]; exact hk
end
end Go.Vs.G

namespace Go.Vs.G
open Go Go.Vs

def fits (m : List UInt8) (P : Int) (d : Nat → UInt8) : Prop := ∀ k, k < m.length → m.getD k 0 = d (og P m.length k)
theorem fits_self {m : List UInt8} (h1 : 1 ≤ m.length) : fits m m.length (fun i => m.getD i 0) := by
  intro k hk
  have hlo := nst_lo (p := (m.length : Int)) (s := (m.length : Int)) (k := (k : Int)) (by omega)
  have hhi := nst_hi (p := (m.length : Int)) (s := (m.length : Int)) (k := (k : Int)) (by omega)
  have hn : nst m.length m.length k = (k : Int) := by
    generalize nst (m.length : Int) (m.length : Int) (k : Int) = n at hlo hhi
    rw [← Int.sub_mul] at hlo hhi
    rcases Int.lt_trichotomy (n - k) 0 with h | h | h
    · have : (n - k) * (m.length : Int) ≤ (-1) * (m.length : Int) := Int.mul_le_mul_of_nonneg_right (by omega) (by omega)
      omega
    · omega
    · have : 1 * (m.length : Int) ≤ (n - k) * (m.length : Int) := Int.mul_le_mul_of_nonneg_right (by omega) (by omega)
      omega
  simp only
  congr 1
  unfold og
  rw [hn, Int.emod_eq_of_lt (by omega) (by omega)]
  omega
/-- the filling of what is not set -/
theorem fillLoop {P : Int} (hP : 1 ≤ P) (hP2 : P ≤ 24) {γ : Type} {f : Nat → Int} {kb : List Int → Option γ} {kr : Empty → Option γ} {Q : γ → Prop} (hk : ∀ l, wp (kb l) Q) : wp (onL (loop (S := ((List Int) × Int)) (B := (List Int)) (R := Empty) (fun ((out3, k1) : (List Int) × Int) =>
 if k1 < (out3.length : Int) then
 ((at? out3 k1).bind fun v5 =>
 if v5 = 0 then
 ((at? out3 (w64 (k1 - 1))).bind fun v6 =>
 (at? out3 k1).bind fun v7 =>
 some (.next (out3.set k1.toNat v6, w64 (k1 + 1))))
 else
 some (.next (out3, w64 (k1 + 1))))
 else
 some (.brk out3)) loopLim (tab f P.toNat, 1)) kb kr) Q := by
  refine wp_loop (fun t : List Int × Int => ∃ (k : Nat) (g : Nat → Int), t.2 = (k : Int) ∧ 1 ≤ k ∧ (k : Int) ≤ P ∧ t.1 = tab g P.toNat) (fun t => (P - t.2).toNat) ⟨1, f, rfl, by omega, by omega, rfl⟩ (by simp; omega) ?_
  rintro ⟨a, i⟩ ⟨k, g, rfl, hk1, hk2, rfl⟩
  simp only [tab_length]
  refine wp_ite (fun h3 => ?_) (fun h3 => wp_some (hk _))
  rw [tab_at (by omega) (by omega), Option.bind_some, Int.toNat_natCast, w64_id (n := (k : Int) - 1) (by omega) (by omega), w64_id (n := (k : Int) + 1) (by omega) (by omega)]
  refine wp_ite (fun h4 => ?_) (fun h4 => wp_some ⟨⟨k + 1, g, rfl, by omega, by omega, rfl⟩, by simp only; omega⟩)
  rw [tab_at (by omega) (by omega)]
  simp only [Option.bind_some]
  exact wp_some ⟨⟨k + 1, _, rfl, by omega, by omega, tab_set⟩, by simp only; omega⟩
theorem setStep {m : List UInt8} {P : Int} (hm : lett m) {f : Nat → Int} {k : Nat} (hk : k < m.length) (hc : ¬ (f (og P m.length k) ≠ 0 ∧ f (og P m.length k) ≠ ((m.getD k 0).toNat : Int))) (hf : ∀ j, j < k → f (og P m.length j) = ((m.getD j 0).toNat : Int)) :
    ∀ j, j < k + 1 → (if og P m.length j = og P m.length k then ((m.getD k 0).toNat : Int) else f (og P m.length j)) = ((m.getD j 0).toNat : Int) := by
  intro j hj
  rcases Nat.lt_or_ge j k with h | h
  · split
    · rename_i e
      have e1 := hf j h
      rw [e] at e1
      have := hm _ (getD_mem (show j < m.length by omega))
      rw [e1] at hc
      refine Classical.byContradiction fun hne => hc ⟨by omega, fun h3 => hne h3.symm⟩
    · exact hf j h
  · obtain rfl : j = k := by omega
    rw [if_pos rfl]
theorem fit_of {m : List UInt8} {P : Int} {f : Nat → Int} (hf : ∀ j, j < m.length → f (og P m.length j) = ((m.getD j 0).toNat : Int)) : ∃ d, fits m P d := ⟨fun i => UInt8.ofNat (f i).toNat, fun k hk => by
  simp only
  rw [hf k hk, Int.toNat_natCast]
  exact UInt8.ofNat_toNat.symm⟩
section
variable {m : List UInt8} {P : Int} (hm : lett m) (h1 : 1 ≤ m.length) (h2 : m.length ≤ 24) (hP : 1 ≤ P) (hP2 : P ≤ 24)
include hm h1 h2 hP hP2
theorem discFor_fit : wp (impl_discFor m P) (fun r => r.2 = true → ∃ d, fits m P d) := by
  unfold impl_discFor
  have hlen := ordr_length (p := P) (s := (m.length : Int)) (by omega)
  rw [mk_ok (by omega) (by omega), Option.bind_some, seenOrder_eq hP (by omega) (by omega) (by omega), Option.bind_some, tab_replicate]
  refine wp_loop (fun t : List Int × Int => ∃ (k : Nat) (f : Nat → Int), t.2 = (k : Int) ∧ k ≤ m.length ∧ t.1 = tab f P.toNat ∧ (∀ j, j < k → f (og P m.length j) = ((m.getD j 0).toNat : Int))) (fun t => (m.length - t.2).toNat) ⟨0, fun _ => 0, rfl, by omega, rfl, fun j hj => by omega⟩ (by simp; omega) ?_
  rintro ⟨a, i⟩ ⟨k, f, rfl, hk, rfl, hf⟩
  simp only [hlen]
  refine wp_ite (fun h3 => ?_) (fun h3 => ?_)
  · have hk2 : k < m.length := by omega
    have hog := og_lt (P := P) (s := (m.length : Int)) hP k
    rw [ordr_at (by omega) h3, Option.bind_some, og_eq hP, tab_at (by omega) (by omega), at_getD hk2, Int.toNat_natCast]
    simp only [Option.bind_some]
    have hx : (if f (og P m.length k) = 0 then some false else some (!decide (f (og P m.length k) = ((m.getD k 0).toNat : Int)))) = some (decide (f (og P m.length k) ≠ 0 ∧ f (og P m.length k) ≠ ((m.getD k 0).toNat : Int))) := by
      split
      · rename_i h; simp [h]
      · rename_i h; simp [h]
    rw [hx, Option.bind_some]
    refine wp_ite (fun h4 => wp_some (wp_some fun h => by simp at h)) (fun h4 => ?_)
    rw [decide_eq_true_eq] at h4
    rw [w64_id (by omega) (by omega)]
    exact wp_some ⟨⟨k + 1, fun j => if j = og P m.length k then ((m.getD k 0).toNat : Int) else f j, rfl, by omega, tab_set, setStep hm hk2 h4 hf⟩, by simp only; omega⟩
  · obtain rfl : k = m.length := by omega
    exact wp_some (fillLoop hP hP2 fun l => wp_some fun _ => fit_of hf)
theorem l06Disc_fit : wp (spec_l06Disc m P) (fun r => r.2 = true → ∃ d, fits m P d) := by
  unfold spec_l06Disc
  rw [mk_ok (by omega) (by omega), Option.bind_some, tab_replicate]
  refine wp_loop (fun t : List Int × Int => ∃ (k : Nat) (f : Nat → Int), t.2 = (k : Int) ∧ k ≤ m.length ∧ t.1 = tab f P.toNat ∧ (∀ j, j < k → f (og P m.length j) = ((m.getD j 0).toNat : Int))) (fun t => (m.length - t.2).toNat) ⟨0, fun _ => 0, rfl, by omega, rfl, fun j hj => by omega⟩ (by simp; omega) ?_
  rintro ⟨a, i⟩ ⟨k, f, rfl, hk, rfl, hf⟩
  simp only
  refine wp_ite (fun h3 => ?_) (fun h3 => ?_)
  · have hk2 : k < m.length := by omega
    have hog := og_lt (P := P) (s := (m.length : Int)) hP k
    rw [l03Seen_eq hP (by omega) (by omega) (by omega) (by omega) (by omega), Option.bind_some, og_eq hP, tab_at (by omega) (by omega), at_getD hk2, Int.toNat_natCast]
    simp only [Option.bind_some]
    have hx : (if f (og P m.length k) = 0 then some false else some (!decide (f (og P m.length k) = ((m.getD k 0).toNat : Int)))) = some (decide (f (og P m.length k) ≠ 0 ∧ f (og P m.length k) ≠ ((m.getD k 0).toNat : Int))) := by
      split
      · rename_i h; simp [h]
      · rename_i h; simp [h]
    rw [hx, Option.bind_some]
    refine wp_ite (fun h4 => wp_some (wp_some fun h => by simp at h)) (fun h4 => ?_)
    rw [decide_eq_true_eq] at h4
    rw [w64_id (by omega) (by omega)]
    exact wp_some ⟨⟨k + 1, fun j => if j = og P m.length k then ((m.getD k 0).toNat : Int) else f j, rfl, by omega, tab_set, setStep hm hk2 h4 hf⟩, by simp only; omega⟩
  · obtain rfl : k = m.length := by omega
    exact wp_some (fillLoop hP hP2 fun l => wp_some fun _ => fit_of hf)
end
section
variable {m : List UInt8} (hm : lett m) (h1 : 1 ≤ m.length) (h2 : m.length ≤ 24)
include hm h1 h2
theorem Fewest_fit : ∃ u, impl_FewestPictures m = some (u, 0) ∧ 1 ≤ u ∧ u ≤ m.length ∧ (∃ d, fits m u d) ∧ ∀ (P : Int), 1 ≤ P → ∀ d, fits m P d → u ≤ P := by
  obtain ⟨u, e1, e2, e3, e4⟩ := FewestPictures_ok hm h1 h2
  refine ⟨u, e1, e2, e3, ?_, e4⟩
  have key : wp (impl_FewestPictures m) (fun r => ∃ d, fits m r.1 d) := by
    unfold impl_FewestPictures
    rw [ValidMotion_ok hm h1 h2, Option.bind_some, if_pos rfl]
    refine wp_loop (fun t : Int => 1 ≤ t ∧ t ≤ m.length) (fun t => (m.length - t).toNat) ⟨by omega, by omega⟩ (by omega) ?_
    rintro i ⟨i1, i2⟩
    refine wp_ite (fun h3 => ?_) (fun h3 => ?_)
    · refine wp_seq (discFor_fit hm h1 h2 i1 (by omega)) fun r hr => wp_ite (fun h4 => wp_some (wp_some (hr h4))) (fun h4 => ?_)
      rw [w64_id (by omega) (by omega)]
      exact wp_some ⟨⟨by omega, by omega⟩, by omega⟩
    · obtain rfl : i = (m.length : Int) := by omega
      exact wp_some (wp_some ⟨_, fits_self h1⟩)
  obtain ⟨r, k1, k2⟩ := key
  rw [e1] at k1
  cases k1
  exact k2
theorem specDiscFor_none {P : Int} (hP : 1 ≤ P) (hP2 : P ≤ 24) (hno : ∀ d, ¬ fits m P d) : spec_DiscFor m P = some ([], 9) := by
  have hok : spec_l06Ok m = some true := by
    unfold spec_l06Ok
    refine eq_of_wp ?_
    refine wp_cnt (fun k => (k : Int)) m.length rfl (by omega) (fun k hk => ?_) (b := ()) ?_ ?_
    · have := hm _ (getD_mem hk)
      rw [if_pos (by omega), at_getD hk, Option.bind_some, if_neg (by omega), Option.bind_some, decide_eq_false (by omega), Option.bind_some, if_neg (by simp), w64_id (by omega) (by omega)]
      rfl
    · rw [if_neg (by omega)]
    · rw [l00In_eqB, decide_eq_true (by omega)]
      exact wp_some rfl
  unfold spec_DiscFor spec_l06Code spec_l06Many
  rw [hok, Option.bind_some, if_pos rfl, l00In_eqB, decide_eq_true (by omega)]
  simp only [Option.bind_some, if_true]
  obtain ⟨r, k1, k2⟩ := l06Disc_fit hm h1 h2 hP hP2
  rw [k1, Option.bind_some]
  cases hr : r.2 with
  | true => obtain ⟨d, hd⟩ := k2 hr; exact absurd hd (hno d)
  | false => rfl
end
end Go.Vs.G

namespace Go.Vs.G
open Go Go.Vs

def small (c : UInt8) : Bool := decide (97 ≤ c.toNat ∧ c.toNat ≤ 122)
def letter (c : UInt8) : Bool := small c || decide (48 ≤ c.toNat ∧ c.toNat ≤ 57) || decide (c.toNat = 45)
end Go.Vs.G

namespace Go.Vs
open Go
end Go.Vs
namespace Go.Vs.G
open Go Go.Vs

/-- numbers that rise, from low to high -/
def rises (l : List Int) (low high : Int) : Prop := ∀ i (h : i < l.length), low ≤ l[i] ∧ l[i] ≤ high ∧ (∀ h2 : 0 < i, l[i - 1] < l[i])
end Go.Vs.G

namespace Go.Vs.G
open Go Go.Vs

/-- a brightness -/
def brt (f : GFraction) : Prop := (0 ≤ f.Num ∧ f.Num ≤ 100000) ∧ f.Den ≤ 100000
instance (f : GFraction) : Decidable (brt f) := by unfold brt; infer_instance
instance (f : GFraction) : Decidable f.valid := by unfold GFraction.valid; infer_instance
/- light behind losses -/
/- the farthest -/
/- draws -/
section
variable {code : List Int} (hc : okL (okI .u8) code) (hl : code.length ≤ 1000000)
include hc hl
end

end Go.Vs.G

namespace Go.Vs
open Go

/-- elements of the numbers that fit, added up -/
def gd (l : List Int) (k : Nat) : Int := l.getD k 0
theorem mem_sl' {c : Nat → Bool} {v : Int} : ∀ {k : Nat}, v ∈ sl c k → ∃ j : Nat, v = (j : Int) ∧ j < k ∧ c j = true
  | 0, h => by simp [sl] at h
  | k + 1, h => by
    rw [sl] at h
    split at h
    · rename_i hc
      simp only [List.mem_append, List.mem_singleton] at h
      rcases h with h | h
      · obtain ⟨j, h1, h2, h3⟩ := mem_sl' h; exact ⟨j, h1, by omega, h3⟩
      · exact ⟨k, h, by omega, hc⟩
    · obtain ⟨j, h1, h2, h3⟩ := mem_sl' h; exact ⟨j, h1, by omega, h3⟩
end Go.Vs

namespace Go.Vs
open Go

/-- numbers that rise -/
def Rise (l : List Int) : Prop := l.Pairwise (· < ·)
theorem rise_eq : ∀ {a b : List Int}, Rise a → Rise b → (∀ x, x ∈ a ↔ x ∈ b) → a = b
  | [], [], _, _, _ => rfl
  | [], y :: b, _, _, h => by have := (h y).2 (by simp); simp at this
  | x :: a, [], _, _, h => by have := (h x).1 (by simp); simp at this
  | x :: a, y :: b, ha, hb, h => by
    unfold Rise at ha hb
    rw [List.pairwise_cons] at ha hb
    have hxy : x = y := by
      have h1 := (h x).1 (by simp)
      have h2 := (h y).2 (by simp)
      simp only [List.mem_cons] at h1 h2
      rcases h1 with h1 | h1
      · exact h1
      · rcases h2 with h2 | h2
        · exact h2.symm
        · have := hb.1 x h1; have := ha.1 y h2; omega
    subst hxy
    rw [rise_eq ha.2 hb.2 fun z => ?_]
    constructor
    · intro hz
      have h1 := (h z).1 (by simp [hz])
      have := ha.1 z hz
      simp only [List.mem_cons] at h1
      rcases h1 with h1 | h1
      · omega
      · exact h1
    · intro hz
      have h1 := (h z).2 (by simp [hz])
      have := hb.1 z hz
      simp only [List.mem_cons] at h1
      rcases h1 with h1 | h1
      · omega
      · exact h1
theorem mem_sl {c : Nat → Bool} {v : Int} : ∀ {k : Nat}, v ∈ sl c k ↔ ∃ j : Nat, v = (j : Int) ∧ j < k ∧ c j = true := by
  intro k
  refine ⟨mem_sl', ?_⟩
  rintro ⟨j, rfl, hj, hc⟩
  induction k with
  | zero => omega
  | succ k ih =>
    rw [sl]
    rcases Nat.lt_or_ge j k with h | h
    · split <;> simp [ih h]
    · obtain rfl : j = k := by omega
      rw [if_pos hc]; simp
theorem rise_sl (c : Nat → Bool) : ∀ k, Rise (sl c k)
  | 0 => by simp [Rise, sl]
  | k + 1 => by
    have ih := rise_sl c k
    rw [sl]
    split
    · unfold Rise at ih ⊢
      rw [List.pairwise_append]
      refine ⟨ih, by simp, fun x hx y hy => ?_⟩
      obtain ⟨j, rfl, hj, _⟩ := mem_sl'  hx
      simp only [List.mem_singleton] at hy
      omega
    · exact ih
theorem rise_mono {l : List Int} : ∀ {n : Nat}, (∀ i (h : i < l.length), (∀ h2 : 0 < i, l[i - 1] < l[i])) → ∀ (i j : Nat) (hij : i < j) (hj : j < l.length), l[i] < l[j] := by
  intro _ h i j hij hj
  induction j with
  | zero => omega
  | succ j ih =>
    have h1 := h (j + 1) hj (by omega)
    simp only [Nat.add_sub_cancel] at h1
    rcases Nat.lt_or_ge i j with h2 | h2
    · have := ih h2 (by omega); omega
    · obtain rfl : i = j := by omega
      exact h1
theorem rise_of {l : List Int} (h : ∀ i (h : i < l.length), (∀ h2 : 0 < i, l[i - 1] < l[i])) : Rise l := by
  unfold Rise
  rw [List.pairwise_iff_getElem]
  intro i j hi hj hij
  exact rise_mono (n := 0) h i j hij hj
/-- numbers as bits -/
def bitsN : List Int → Nat
  | [] => 0
  | v :: l => 2 ^ v.toNat ||| bitsN l
def small20 (l : List Int) : Prop := ∀ v, v ∈ l → 0 ≤ v ∧ v < 20
theorem bitsN_test : ∀ {l : List Int}, (∀ v, v ∈ l → 0 ≤ v) → ∀ i, (bitsN l).testBit i = decide ((i : Int) ∈ l)
  | [], _, i => by simp [bitsN]
  | v :: l, h, i => by
    have h0 := h v (by simp)
    rw [bitsN, Nat.testBit_or, bitsN_test (fun x hx => h x (by simp [hx])), Nat.testBit_two_pow]
    by_cases h1 : v.toNat = i
    · have : (i : Int) = v := by omega
      simp [h1, this]
    · have : ¬ ((i : Int) = v) := by omega
      simp [h1, this]
/-- the set of a rising list -/
theorem sl_bits {l : List Int} {n : Nat} (hr : Rise l) (hl : ∀ v, v ∈ l → 0 ≤ v ∧ v < n) : sl (bitsN l).testBit n = l := by
  refine rise_eq (rise_sl _ _) hr fun x => ?_
  rw [mem_sl]
  constructor
  · rintro ⟨j, rfl, hj, hb⟩
    rw [bitsN_test (fun v hv => (hl v hv).1)] at hb
    exact of_decide_eq_true hb
  · intro hx
    have := hl x hx
    refine ⟨x.toNat, by omega, by omega, ?_⟩
    rw [bitsN_test (fun v hv => (hl v hv).1), show ((x.toNat : Nat) : Int) = x by omega]
    exact decide_eq_true hx
end Go.Vs

namespace Go.Vs
open Go
/-- the first number below n that fits -/
def ff (c : Nat → Bool) : Nat → Option Nat
  | 0 => none
  | n + 1 => match ff c n with
    | some i => some i
    | none => if c n = true then some n else none
theorem ff_none {c : Nat → Bool} : ∀ {n : Nat}, ff c n = none ↔ ∀ i, i < n → c i = false
  | 0 => by simp [ff]
  | n + 1 => by
    have ih := ff_none (c := c) (n := n)
    rw [ff]
    cases h : ff c n with
    | some i =>
      simp only [reduceCtorEq, false_iff]
      intro h2
      have := ih.2 fun j hj => h2 j (by omega)
      rw [h] at this; cases this
    | none =>
      have h1 := ih.1 h
      simp only
      constructor
      · intro h2 i hi
        rcases Nat.lt_or_ge i n with h3 | h3
        · exact h1 i h3
        · obtain rfl : i = n := by omega
          by_cases hc : c i = true
          · rw [if_pos hc] at h2; cases h2
          · simpa using hc
      · intro h2; rw [h2 n (by omega), if_neg (by simp)]
theorem ff_some {c : Nat → Bool} {k : Nat} (h : ff c k = none) (hc : c k = true) : ∀ {n : Nat}, k < n → ff c n = some k
  | n + 1, hk => by
    rw [ff]
    rcases Nat.lt_or_ge k n with h1 | h1
    · rw [ff_some h hc h1]
    · obtain rfl : k = n := by omega
      rw [h]; simp only; rw [if_pos hc]
theorem ff_lt {c : Nat → Bool} : ∀ {n i : Nat}, ff c n = some i → i < n ∧ c i = true
  | n + 1, i, h => by
    rw [ff] at h
    cases h2 : ff c n with
    | some j => rw [h2] at h; cases h; have := ff_lt h2; exact ⟨by omega, this.2⟩
    | none =>
      rw [h2] at h; simp only at h
      by_cases hc : c n = true
      · rw [if_pos hc] at h; cases h; exact ⟨by omega, hc⟩
      · rw [if_neg hc] at h; cases h
end Go.Vs
namespace Go.Vs.G
open Go Go.Vs
/-- a burning -/
def brn (s : List UInt8) : Prop := s.length ≤ 60 ∧ ∀ c, c ∈ s → c = 48 ∨ c = 49
instance (s : List UInt8) : Decidable (brn s) := inferInstanceAs (Decidable (_ ∧ _))
end Go.Vs.G

namespace Go.Vs
open Go
end Go.Vs
namespace Go.Vs.G
open Go Go.Vs
def cq (l : List GCue) (i : Nat) : GCue := l.getD i default
theorem at_cq {l : List GCue} {i : Nat} (h : i < l.length) : at? l (i : Int) = some (cq l i) := by
  unfold cq; rw [at_of h, List.getD_eq_getElem?_getD, List.getElem?_eq_getElem h]; rfl
/-- a cue as it is drawn -/
def dcue (c : GCue) : Prop := (0 ≤ c.At ∧ c.At ≤ 23) ∧ (1 ≤ c.Ticks ∧ c.Ticks ≤ 7) ∧ (1 ≤ c.Hands ∧ c.Hands ≤ 2) ∧ (0 ≤ c.Slack ∧ c.Slack ≤ 4)
def dcues (l : List GCue) : Prop := l.length ≤ 6 ∧ ∀ i, i < l.length → dcue (cq l i)
def act (c : GCue) (t : Int) : Bool := decide (c.At ≤ t ∧ t < c.At + c.Ticks)
/-- the hands at a tick -/
def hnd (l : List GCue) (t : Int) : Nat → Int
  | 0 => 0
  | k + 1 => hnd l t k + if act (cq l k) t = true then (cq l k).Hands else 0
theorem hnd_bd {l : List GCue} (h : dcues l) (t : Int) : ∀ k, k ≤ l.length → 0 ≤ hnd l t k ∧ hnd l t k ≤ 2 * k
  | 0, _ => by simp [hnd]
  | k + 1, hk => by
    have h1 := hnd_bd h t k (by omega)
    have h2 := (h.2 k (by omega)).2.2.1
    rw [hnd]; split <;> omega
abbrev H (l : List GCue) (t : Int) : Int := hnd l t l.length
theorem hnd_zero {l : List GCue} {t : Int} : ∀ k, (∀ i, i < k → act (cq l i) t = false) → hnd l t k = 0
  | 0, _ => rfl
  | k + 1, h => by rw [hnd, hnd_zero k fun i hi => h i (by omega), h k (by omega)]; simp
/-- where no cue begins there are no more hands than before -/
theorem hnd_step {l : List GCue} (h : dcues l) {t : Int} : ∀ k, k ≤ l.length → (∀ i, i < k → (cq l i).At ≠ t) → hnd l t k ≤ hnd l (t - 1) k
  | 0, _, _ => by simp [hnd]
  | k + 1, hk, hn => by
    have h1 := hnd_step h k (by omega) fun i hi => hn i (by omega)
    have h2 := hn k (by omega)
    have h3 := (h.2 k (by omega)).2.2.1
    rw [hnd, hnd]
    by_cases ha : act (cq l k) t = true
    · have hb : act (cq l k) (t - 1) = true := by
        unfold act at ha ⊢
        have := of_decide_eq_true ha
        exact decide_eq_true (by omega)
      rw [if_pos ha, if_pos hb]; omega
    · rw [if_neg ha]; split <;> omega
theorem H_neg {l : List GCue} (h : dcues l) : H l (-1) = 0 := hnd_zero _ fun i hi => by
  have := (h.2 i hi).1
  unfold act; exact decide_eq_false (by omega)
/-- an overload begins where a cue does -/
theorem over_at {l : List GCue} (h : dcues l) {m : Int} (hm : 0 ≤ m) {t : Int} (ht : 0 ≤ t) (ho : H l t > m) (hb : ∀ u : Int, 0 ≤ u → u < t → H l u ≤ m) : ∃ i, i < l.length ∧ (cq l i).At = t := by
  refine Classical.byContradiction fun hn => ?_
  have hs := hnd_step h (t := t) l.length (Nat.le_refl _) fun i hi he => hn ⟨i, hi, he⟩
  by_cases h0 : t = 0
  · subst h0
    have := H_neg h
    simp only [H] at *
    rw [show (0 : Int) - 1 = -1 by omega] at hs
    omega
  · have := hb (t - 1) (by omega) (by omega)
    simp only [H] at *
    omega
/-- no tick needs more hands than the beginnings of cues -/
theorem H_le {l : List GCue} (h : dcues l) : ∀ (t : Nat), H l (t : Int) ≤ mx (fun i => H l (cq l i).At) l.length
  | 0 => by
    by_cases hex : ∃ i, i < l.length ∧ (cq l i).At = ((0 : Nat) : Int)
    · obtain ⟨i, hi, he⟩ := hex
      rw [← he]; exact le_mx (f := fun i => H l (cq l i).At) hi
    · have hs := hnd_step h (t := ((0 : Nat) : Int)) l.length (Nat.le_refl _) fun i hi he => hex ⟨i, hi, he⟩
      have h1 : H l (-1) = 0 := H_neg h
      have h2 := mx_nonneg (fun i => H l (cq l i).At) l.length
      rw [show ((0 : Nat) : Int) - 1 = -1 by omega] at hs
      exact Int.le_trans hs (by rw [show hnd l (-1) l.length = 0 from h1]; exact h2)
  | t + 1 => by
    by_cases hex : ∃ i, i < l.length ∧ (cq l i).At = ((t + 1 : Nat) : Int)
    · obtain ⟨i, hi, he⟩ := hex
      rw [← he]; exact le_mx (f := fun i => H l (cq l i).At) hi
    · have hs := hnd_step h (t := ((t + 1 : Nat) : Int)) l.length (Nat.le_refl _) fun i hi he => hex ⟨i, hi, he⟩
      rw [show ((t + 1 : Nat) : Int) - 1 = (t : Int) by omega] at hs
      exact Int.le_trans hs (H_le h t)
def Ecu (l : List GCue) : Int := mx (fun i => (cq l i).At + (cq l i).Ticks) l.length
theorem Ecu_bd {l : List GCue} (h : dcues l) : 0 ≤ Ecu l ∧ Ecu l ≤ 30 := ⟨mx_nonneg _ _, mx_le (by omega) fun i hi => by have := h.2 i hi; have := this.1; have := (h.2 i hi).2.1; omega⟩
section
variable {l : List GCue} (h : dcues l)
include h
theorem handsAt_eq (t : Int) : impl_handsAt l t = some (H l t) := by
  have h6 := h.1
  unfold impl_handsAt
  refine eq_of_wp ?_
  refine wp_cnt (fun k => (hnd l t k, (k : Int))) l.length rfl (by omega) (fun k hk => ?_) (b := H l t) ?_ (wp_some rfl)
  · have hb := hnd_bd h t k (by omega)
    have hc := h.2 k hk
    obtain ⟨c1, c2, c3, c4⟩ := hc
    simp only
    rw [if_pos (by omega), at_cq hk, Option.bind_some, w64_id (n := (k : Int) + 1) (by omega) (by omega), w64_id (n := (cq l k).At + (cq l k).Ticks) (by omega) (by omega), w64_id (by omega) (by omega)]
    have e : (if (cq l k).At ≤ t then (some (decide (t < (cq l k).At + (cq l k).Ticks))) else some false : Option Bool) = some (act (cq l k) t) := by
      unfold act
      by_cases h1 : (cq l k).At ≤ t
      · rw [if_pos h1]; exact congrArg some (decide_eq_decide.2 (by omega))
      · rw [if_neg h1, decide_eq_false (fun h => h1 h.1)]
    rw [e, Option.bind_some, hnd]
    split
    · rfl
    · rw [Int.add_zero]; rfl
  · simp only; rw [if_neg (by omega)]
theorem ValidCues_true : impl_ValidCues l = some true := by
  have h6 := h.1
  unfold impl_ValidCues
  rw [if_pos (by omega)]
  have hcf : slices_ContainsFunc_impl_Cue_impl_Cue_800 l (fun a0 => impl_ValidCues_1 a0) = some (l.any fun _ => false) := by
    unfold slices_ContainsFunc_impl_Cue_impl_Cue_800 slices_IndexFunc_impl_Cue_impl_Cue_822
    refine contS (fun _ => false) l (fun x hx => ?_) (by omega) (fun _ => rfl)
    obtain ⟨i, hi, rfl⟩ := List.getElem_of_mem hx
    have hc := h.2 i hi
    unfold cq at hc
    rw [List.getD_eq_getElem?_getD, List.getElem?_eq_getElem hi] at hc
    obtain ⟨c1, c2, c3, c4⟩ := hc
    simp only [Option.getD_some] at c1 c2 c3 c4
    have hw : ∀ n a b : Int, a ≤ n ∧ n ≤ b → impl_within n a b = some true := fun n a b hn => by unfold impl_within; rw [if_pos (by omega), decide_eq_true hn.2]
    unfold impl_ValidCues_1
    simp only [hw _ 0 10000 ⟨c1.1, by omega⟩, hw _ 1 1000 ⟨c2.1, by omega⟩, hw _ 1 4 ⟨c3.1, by omega⟩, hw _ 0 6 ⟨c4.1, by omega⟩, Option.bind_some, if_true]
    rfl
  rw [hcf, Option.bind_some]
  have : (l.any fun _ => false) = false := by induction l <;> simp
  rw [this]; rfl
theorem mostHands_eq : impl_mostHands l = some (mx (fun i => H l (cq l i).At) l.length) := by
  have h6 := h.1
  unfold impl_mostHands
  refine eq_of_wp ?_
  refine wp_cnt (fun k => (mx (fun i => H l (cq l i).At) k, (k : Int))) l.length rfl (by omega) (fun k hk => ?_) (b := mx (fun i => H l (cq l i).At) l.length) ?_ (wp_some rfl)
  · simp only
    rw [if_pos (by omega), at_cq hk, Option.bind_some, handsAt_eq h, Option.bind_some, w64_id (n := (k : Int) + 1) (by omega) (by omega), imax_def, mx]
    rfl
  · simp only; rw [if_neg (by omega)]
def over (l : List GCue) (m : Int) (t : Nat) : Bool := decide (H l (t : Int) > m)
def overR (o : Option Nat) : Int × Int := match o with | some t => ((t : Int), 0) | none => (0, 3)
theorem FirstOverload_eq {m : Int} (hm : 0 ≤ m) (hm2 : m ≤ 24) : impl_FirstOverload l m = some (overR (ff (over l m) ((Ecu l).toNat + 1))) := by
  have h6 := h.1
  have hE := Ecu_bd h
  unfold impl_FirstOverload impl_cuesCode
  rw [ValidCues_true h, Option.bind_some, if_pos rfl, show impl_within m 0 24 = some true by unfold impl_within; rw [if_pos (by omega), decide_eq_true (by omega)], Option.bind_some, if_pos rfl, Option.bind_some, if_pos rfl]
  refine eq_of_wp ?_
  refine wp_loop (fun q : Int × Int => ∃ k : Nat, q.2 = (k : Int) ∧ k ≤ l.length ∧ ((q.1 = -1 ∧ ∀ i, i < k → H l (cq l i).At ≤ m) ∨ (∃ i, i < k ∧ q.1 = (cq l i).At ∧ H l (cq l i).At > m ∧ ∀ j, j < k → H l (cq l j).At > m → q.1 ≤ (cq l j).At))) (fun q => (l.length - q.2).toNat) ⟨0, rfl, by omega, .inl ⟨rfl, fun i hi => by omega⟩⟩ (by simp; omega) ?_
  rintro ⟨first, i⟩ ⟨k, rfl, hk, hinv⟩
  simp only at hk hinv ⊢
  refine wp_ite (fun hlt => ?_) (fun hlt => ?_)
  · have hk2 : k < l.length := by omega
    have hck := (h.2 k hk2).1
    rw [at_cq hk2, Option.bind_some, handsAt_eq h, Option.bind_some, w64_id (n := (k : Int) + 1) (by omega) (by omega)]
    by_cases ho : H l (cq l k).At > m
    · rw [if_pos ho]
      have e : (if first < 0 then (some true) else some (decide ((cq l k).At < first)) : Option Bool) = some (decide (first < 0 ∨ (cq l k).At < first)) := by
        by_cases hf : first < 0
        · rw [if_pos hf, decide_eq_true (.inl hf)]
        · rw [if_neg hf]; exact congrArg some (decide_eq_decide.2 ⟨.inr, fun h => h.resolve_left hf⟩)
      rw [e, Option.bind_some]
      by_cases hn : first < 0 ∨ (cq l k).At < first
      · rw [decide_eq_true hn, if_pos rfl]
        refine wp_some ⟨⟨k + 1, rfl, by omega, .inr ⟨k, by omega, rfl, ho, fun j hj hoj => ?_⟩⟩, by simp only; omega⟩
        simp only
        rcases Nat.lt_or_ge j k with h3 | h3
        · rcases hinv with ⟨h4, h5⟩ | ⟨i, h4, h5, h6, h7⟩
          · have := h5 j h3; omega
          · have := h7 j h3 hoj
            have := (h.2 i (by omega)).1
            omega
        · obtain rfl : j = k := by omega
          omega
      · rw [decide_eq_false hn, if_neg (by simp)]
        refine wp_some ⟨⟨k + 1, rfl, by omega, ?_⟩, by simp only; omega⟩
        simp only
        rcases hinv with ⟨h4, h5⟩ | ⟨i, h4, h5, h6, h7⟩
        · exact absurd (.inl (by omega)) hn
        · refine .inr ⟨i, by omega, h5, h6, fun j hj hoj => ?_⟩
          rcases Nat.lt_or_ge j k with h3 | h3
          · exact h7 j h3 hoj
          · obtain rfl : j = k := by omega
            omega
    · rw [if_neg ho, Option.bind_some, if_neg (by simp)]
      refine wp_some ⟨⟨k + 1, rfl, by omega, ?_⟩, by simp only; omega⟩
      simp only
      rcases hinv with ⟨h4, h5⟩ | ⟨i, h4, h5, h6, h7⟩
      · refine .inl ⟨h4, fun j hj => ?_⟩
        rcases Nat.lt_or_ge j k with h3 | h3
        · exact h5 j h3
        · obtain rfl : j = k := by omega
          omega
      · refine .inr ⟨i, by omega, h5, h6, fun j hj hoj => ?_⟩
        rcases Nat.lt_or_ge j k with h3 | h3
        · exact h7 j h3 hoj
        · obtain rfl : j = k := by omega
          exact absurd hoj ho
  · obtain rfl : k = l.length := by omega
    refine wp_some ?_
    show wp (if first < 0 then _ else _) _
    -- the least tick with an overload is the beginning of a cue
    cases hff : ff (over l m) ((Ecu l).toNat + 1) with
    | none =>
      have hall := ff_none.1 hff
      rcases hinv with ⟨h4, h5⟩ | ⟨i, h4, h5, h6, h7⟩
      · rw [if_pos (by omega)]; exact wp_some rfl
      · have h8 := (h.2 i (by omega)).1
        have h9 := le_mx (f := fun i => (cq l i).At + (cq l i).Ticks) (show i < l.length by omega)
        have h10 := (h.2 i (by omega)).2.1
        have := hall (cq l i).At.toNat (by unfold Ecu; omega)
        unfold over at this
        have := of_decide_eq_false this
        rw [show (((cq l i).At.toNat : Nat) : Int) = (cq l i).At by omega] at this
        omega
    | some t =>
      obtain ⟨ht1, ht2⟩ := ff_lt hff
      have hot := of_decide_eq_true (p := H l (t : Int) > m) ht2
      have hless : ∀ u : Nat, u < t → H l (u : Int) ≤ m := fun u hu => by
        refine Classical.byContradiction fun hn => ?_
        have hex : ∃ v, v ≤ u ∧ ff (over l m) v = none ∧ over l m v = true := by
          have : ∀ n : Nat, (∀ v, v < n → over l m v = false) ∨ ∃ v, v < n ∧ ff (over l m) v = none ∧ over l m v = true := by
            intro n
            induction n with
            | zero => exact .inl fun v hv => by omega
            | succ n ih =>
              rcases ih with ih | ⟨v, hv, hr⟩
              · by_cases hv : over l m n = true
                · exact .inr ⟨n, by omega, ff_none.2 ih, hv⟩
                · refine .inl fun v hv2 => ?_
                  rcases Nat.lt_or_ge v n with h3 | h3
                  · exact ih v h3
                  · obtain rfl : v = n := by omega
                    simpa using hv
              · exact .inr ⟨v, by omega, hr⟩
          rcases this (u + 1) with h3 | ⟨v, hv, hr⟩
          · have := h3 u (by omega)
            unfold over at this
            exact absurd (by omega) (of_decide_eq_false this)
          · exact ⟨v, by omega, hr⟩
        obtain ⟨v, hv1, hv2, hv3⟩ := hex
        have := ff_some hv2 hv3 (n := (Ecu l).toNat + 1) (by omega)
        rw [hff] at this
        have := Option.some.inj this
        omega
      obtain ⟨i, hi, hia⟩ := over_at h hm (t := (t : Int)) (by omega) hot fun u hu hut => by
        have := hless u.toNat (by omega)
        rwa [show ((u.toNat : Nat) : Int) = u by omega] at this
      rcases hinv with ⟨h4, h5⟩ | ⟨j, h4, h5, h6, h7⟩
      · have := h5 i hi
        rw [hia] at this; omega
      · have h8 := h7 i hi (by rw [hia]; exact hot)
        have h9 := (h.2 j (by omega)).1
        have h10 : ¬ (cq l j).At < (t : Int) := fun hlt2 => by
          have := hless (cq l j).At.toNat (by omega)
          rw [show (((cq l j).At.toNat : Nat) : Int) = (cq l j).At by omega] at this
          omega
        rw [if_neg (by omega)]
        refine wp_some ?_
        simp only [overR]
        rw [show first = (t : Int) by omega]
end
end Go.Vs.G

namespace Go.Vs.G
open Go Go.Vs

/-- rising numbers from a to b -/
theorem rises.rise {s : List Int} {a b : Int} (h : rises s a b) : Rise s := rise_of fun i hi => (h i hi).2.2
theorem rises.rng {s : List Int} {a b : Int} (h : rises s a b) {v : Int} (hv : v ∈ s) : a ≤ v ∧ v ≤ b := by
  obtain ⟨i, hi, rfl⟩ := List.getElem_of_mem hv; exact ⟨(h i hi).1, (h i hi).2.1⟩
theorem rises.small {s : List Int} {b : Int} (h : rises s 0 b) (hb : b < 20) : small20 s := fun v hv => by have := h.rng hv; omega
theorem rises.len {s : List Int} {b : Int} (h : rises s 0 b) (hb : b < 20) : s.length ≤ 20 := by
  rw [← sl_bits (n := 20) h.rise (fun v hv => by have := h.small hb v hv; omega)]; exact sl_len _ _
end Go.Vs.G

namespace Go.Vs.G
open Go Go.Vs
theorem cq_append {l : List GCue} {c : GCue} {i : Nat} : cq (l ++ [c]) i = if i = l.length then c else cq l i := by
  unfold cq
  rw [List.getD_eq_getElem?_getD, List.getD_eq_getElem?_getD, List.getElem?_append]
  by_cases h : i < l.length
  · rw [if_pos h, if_neg (by omega)]
  · rw [if_neg h]
    by_cases h2 : i = l.length
    · rw [if_pos h2, h2, Nat.sub_self]; rfl
    · rw [if_neg h2, List.getElem?_eq_none (by simp; omega), List.getElem?_eq_none (by omega)]
theorem A2Cues_ok {code : List Int} (hc : okL (okI .u8) code) (hl : code.length ≤ 1000000) : wp (spec_A2Cues code) (fun l => dcues l ∧ ∀ i, i < l.length → (cq l i).At ≤ 19) := by
  unfold spec_A2Cues
  refine wp_from hc hl fun s hs => wp_seq (P := fun r => dcues r.1 ∧ ∀ i, i < r.1.length → (cq r.1 i).At ≤ 19) ?_ fun r hr => wp_some hr
  unfold spec_l17Draw
  refine wp_pick hs (by omega) fun n s1 n0 n1 h1 => ?_
  simp only
  refine wp_loop (fun q : GL00Src × List GCue × Int => SrcOk (2 + 10 * (n - q.2.2)) q.1 ∧ 0 ≤ q.2.2 ∧ q.2.2 ≤ n ∧ (q.2.1.length : Int) = n - q.2.2 ∧ ∀ i, i < q.2.1.length → dcue (cq q.2.1 i) ∧ (cq q.2.1 i).At ≤ 19) (fun q => q.2.2.toNat) ⟨h1.mono (by simp only; omega), n0, by simp only; omega, by simp, by simp⟩ (by simp only; omega) ?_
  rintro ⟨s, out, k⟩ ⟨h2, h3, h4, h5, h6⟩
  simp only at h2 h3 h4 h5 h6 ⊢
  refine wp_ite (fun h => ?_) (fun h => ?_)
  · refine wp_pick h2 (by omega) fun a s2 a0 a1 k1 => wp_pick k1 (by omega) fun b s3 b0 b1 k2 => wp_pick k2 (by omega) fun c s4 c0 c1 k3 => wp_pick k3 (by omega) fun d s5 d0 d1 k4 => wp_app (by simp; omega) ?_
    rw [w64_id (n := 1 + b) (by omega) (by omega), w64_id (n := 1 + c) (by omega) (by omega), w64_id (by omega) (by omega)]
    refine wp_some ⟨⟨k4.mono (by simp only; omega), by simp only; omega, by simp only; omega, by simp; omega, fun i hi => ?_⟩, by simp only; omega⟩
    simp only [List.length_append, List.length_singleton] at hi
    simp only
    rw [cq_append]
    by_cases h7 : i = out.length
    · rw [if_pos h7]; unfold dcue; simp only; omega
    · rw [if_neg h7]; exact h6 i (by omega)
  · exact wp_some (wp_some ⟨⟨by simp only; omega, fun i hi => (h6 i hi).1⟩, fun i hi => (h6 i hi).2⟩)
theorem A2Shifts_ok {code : List Int} (hc : okL (okI .u8) code) (hl : code.length ≤ 1000000) {l : List GCue} (h : dcues l) : wp (spec_A2Shifts code l) (fun r => r.length = l.length ∧ ∀ i, i < l.length → 0 ≤ r.getD i 0 ∧ r.getD i 0 ≤ (cq l i).Slack) := by
  have hlen := h.1
  unfold spec_A2Shifts
  refine wp_from hc hl fun s hs => ?_
  refine wp_loop (fun q : GL00Src × List Int × Int => ∃ k : Nat, q.2.2 = (k : Int) ∧ k ≤ l.length ∧ SrcOk (2 * k) q.1 ∧ q.2.1.length = k ∧ ∀ i, i < k → 0 ≤ q.2.1.getD i 0 ∧ q.2.1.getD i 0 ≤ (cq l i).Slack) (fun q => (l.length - q.2.2).toNat) ⟨0, rfl, by omega, hs.mono (by simp), rfl, by simp⟩ (by simp; omega) ?_
  rintro ⟨s, out, i⟩ ⟨k, rfl, hk, h2, h3, h4⟩
  simp only at hk h2 h3 h4 ⊢
  refine wp_ite (fun hlt => ?_) (fun hlt => ?_)
  · have hk2 : k < l.length := by omega
    have hck := (h.2 k hk2).2.2.2
    rw [at_cq hk2, Option.bind_some, w64_id (n := (cq l k).Slack + 1) (by omega) (by omega)]
    refine wp_pick h2 (by omega) fun v s' v0 v1 h5 => wp_app (by simp; omega) ?_
    rw [w64_id (by omega) (by omega)]
    refine wp_some ⟨⟨k + 1, rfl, by omega, h5.mono (by omega), by simp [h3], fun i hi => ?_⟩, by simp only; omega⟩
    simp only
    rw [List.getD_eq_getElem?_getD, List.getElem?_append]
    by_cases h6 : i < k
    · rw [if_pos (by omega), ← List.getD_eq_getElem?_getD]; exact h4 i h6
    · obtain rfl : i = k := by omega
      rw [if_neg (by omega), show i - out.length = 0 by omega]
      simp only [List.getElem?_cons_zero, Option.getD_some]
      omega
  · obtain rfl : k = l.length := by omega
    exact wp_some (wp_some ⟨h3, h4⟩)
/-- a cue that is shifted -/
def shc (c : GCue) (b : Int) : GCue := GCue.mk (c.At + b) c.Ticks c.Hands (c.Slack - b)
theorem ShiftCues_eq {l : List GCue} (h : dcues l) (ha : ∀ i, i < l.length → (cq l i).At ≤ 19) {r : List Int} (hr : r.length = l.length) (hb : ∀ i, i < l.length → 0 ≤ r.getD i 0 ∧ r.getD i 0 ≤ (cq l i).Slack) :
    impl_ShiftCues l r = some (tab (fun i => shc (cq l i) (r.getD i 0)) l.length, 0) := by
  have hlen := h.1
  have hat : ∀ i, i < l.length → at? r (i : Int) = some (r.getD i 0) := fun i hi => by rw [at_of (by omega), List.getD_eq_getElem?_getD, List.getElem?_eq_getElem (by omega)]; rfl
  unfold impl_ShiftCues
  rw [ValidCues_true h, Option.bind_some, if_pos rfl, if_pos (by omega)]
  refine eq_of_wp ?_
  refine wp_cnt (fun k : Nat => (k : Int)) l.length rfl (by omega) (fun k hk => ?_) (b := ()) ?_ ?_
  · have := hb k hk
    rw [if_pos (by omega), hat k hk, Option.bind_some, at_cq hk, Option.bind_some, show impl_within (r.getD k 0) 0 (cq l k).Slack = some true by unfold impl_within; rw [if_pos (by omega), decide_eq_true (by omega)], Option.bind_some, if_pos rfl, w64_id (by omega) (by omega)]
    rfl
  · rw [if_neg (by omega)]
  · have hsh : impl_shiftCues l r = some (tab (fun i => shc (cq l i) (r.getD i 0)) l.length) := by
      unfold impl_shiftCues cloneL
      rw [if_pos (by omega), Option.bind_some]
      refine eq_of_wp ?_
      have hl0 : l = tab (fun i => cq l i) l.length := by unfold cq; exact eq_tab l default
      refine wp_cnt (fun k => (tab (fun i => if i < k then shc (cq l i) (r.getD i 0) else cq l i) l.length, (k : Int))) l.length ?_ (by omega) (fun k hk => ?_) (b := tab (fun i => shc (cq l i) (r.getD i 0)) l.length) ?_ (wp_some rfl)
      · refine Prod.ext ?_ rfl
        conv => lhs; rw [hl0]
        exact tab_congr fun i _ => by simp
      · have c1 := h.2 k hk
        have c2 := hb k hk
        have c3 := ha k hk
        obtain ⟨d1, d2, d3, d4⟩ := c1
        simp only
        rw [if_pos (by omega), hat k hk, Option.bind_some, tab_at (by omega) (by omega), Option.bind_some, Option.bind_some, Int.toNat_natCast, if_neg (by omega), tab_set, tab_at (by omega) (by omega), Option.bind_some, Option.bind_some, Int.toNat_natCast, if_pos rfl, tab_set, w64_id (n := (k : Int) + 1) (by omega) (by omega), w64_id (n := (cq l k).At + _) (by omega) (by omega)]
        simp only
        rw [w64_id (n := (cq l k).Slack - _) (by omega) (by omega)]
        refine congrArg some (congrArg Step.next (Prod.ext ?_ rfl))
        refine tab_congr fun i hi => ?_
        by_cases h1 : i = k
        · subst h1; rw [if_pos rfl, if_pos (by omega)]; rfl
        · rw [if_neg h1, if_neg h1]
          by_cases h2 : i < k
          · rw [if_pos h2, if_pos (by omega)]
          · rw [if_neg h2, if_neg (by omega)]
      · simp only
        rw [if_neg (by omega)]
        exact congrArg some (congrArg Step.brk (tab_congr fun i hi => by rw [if_pos hi]))
    rw [hsh, Option.bind_some]
    have hd : dcues (tab (fun i => shc (cq l i) (r.getD i 0)) l.length) := by
      refine ⟨by simpa using hlen, fun i hi => ?_⟩
      have hi2 : i < l.length := by simpa using hi
      have c1 := h.2 i hi2
      have c2 := hb i hi2
      have c3 := ha i hi2
      obtain ⟨d1, d2, d3, d4⟩ := c1
      unfold cq
      rw [List.getD_eq_getElem?_getD, tab_get hi2]
      unfold cq at d1 d2 d3 d4 c2 c3
      simp only [Option.getD_some, shc, dcue, cq]
      omega
    rw [ValidCues_true hd, Option.bind_some, if_pos rfl]
    exact wp_some rfl
end Go.Vs.G

namespace Go.Vs.G
open Go Go.Vs

/- sums -/
def smK (l : List Int) : Nat → Int
  | 0 => 0
  | k + 1 => smK l k + l.getD k 0
def sm (l : List Int) : Int := smK l l.length
theorem smK_bd {l : List Int} {B : Int} (hB : 0 ≤ B) : ∀ {k : Nat}, (∀ i, i < k → 0 ≤ l.getD i 0 ∧ l.getD i 0 ≤ B) → 0 ≤ smK l k ∧ smK l k ≤ B * k
  | 0, _ => by simp [smK]
  | k + 1, h => by
    have ih := smK_bd hB (k := k) fun i hi => h i (by omega)
    have := h k (by omega)
    simp only [smK]
    rw [Int.natCast_succ, Int.mul_add, Int.mul_one]; omega
theorem at_getI {l : List Int} {k : Nat} (h : k < l.length) : at? l (k : Int) = some (l.getD k 0) := by
  rw [at_of h, List.getD_eq_getElem?_getD, List.getElem?_eq_getElem h]; rfl
theorem sumOf_sm {l : List Int} (hl : l.length ≤ 1000) (h : ∀ i, i < l.length → 0 ≤ l.getD i 0 ∧ l.getD i 0 ≤ 1000) : impl_sumOf l = some (sm l) := by
  unfold impl_sumOf
  refine eq_of_wp ?_
  refine wp_cnt (fun k => (smK l k, (k : Int))) l.length rfl (by omega) (fun k hk => ?_) (b := sm l) ?_ (wp_some rfl)
  · have h1 := smK_bd (B := 1000) (by omega) (k := k) fun i hi => h i (by omega)
    have h2 := h k hk
    simp only
    rw [if_pos (by omega), at_getI hk, Option.bind_some, w64_id (n := smK l k + _) (by omega) (by omega), w64_id (by omega) (by omega)]; rfl
  · simp only; rw [if_neg (by omega)]; rfl
theorem a2Sum_sm {l : List Int} (hl : l.length ≤ 1000) (h : ∀ i, i < l.length → 0 ≤ l.getD i 0 ∧ l.getD i 0 ≤ 1000) : laws_a2Sum l = some (sm l) := sumOf_sm hl h
/- what is a list of shifts -/
def okv (l : List GCue) (a : List Int) : Prop := a.length = l.length ∧ ∀ i, i < l.length → 0 ≤ a.getD i 0 ∧ a.getD i 0 ≤ (cq l i).Slack
def shl (l : List GCue) (a : List Int) : List GCue := tab (fun i => shc (cq l i) (a.getD i 0)) l.length
/-- all lists of shifts that go on from d -/
def allv (l : List GCue) : Nat → List Int → List (List Int)
  | 0, d => [d]
  | n + 1, d => (List.range ((cq l d.length).Slack.toNat + 1)).flatMap fun b : Nat => allv l n (d ++ [(b : Int)])
theorem getD_app {d : List Int} {x : Int} {i : Nat} : (d ++ [x]).getD i 0 = if i < d.length then d.getD i 0 else if i = d.length then x else 0 := by
  rw [List.getD_eq_getElem?_getD, List.getD_eq_getElem?_getD, List.getElem?_append]
  by_cases h : i < d.length
  · rw [if_pos h, if_pos h]
  · rw [if_neg h, if_neg h]
    by_cases h2 : i = d.length
    · rw [if_pos h2, h2, Nat.sub_self]; rfl
    · rw [if_neg h2, List.getElem?_eq_none (by simp; omega)]; rfl
def prf (l : List GCue) (d : List Int) : Prop := ∀ i, i < d.length → 0 ≤ d.getD i 0 ∧ d.getD i 0 ≤ (cq l i).Slack
theorem prf_nil {l : List GCue} : prf l [] := fun i hi => by simp at hi
theorem allv_mem {l : List GCue} : ∀ {n : Nat} {d a : List Int}, d.length + n = l.length → okv l a → (∀ i, i < d.length → a.getD i 0 = d.getD i 0) → a ∈ allv l n d
  | 0, d, a, hn, ha, hp => by
    simp only [allv, List.mem_singleton]
    refine List.ext_getElem (by rw [ha.1]; omega) fun i h1 h2 => ?_
    have := hp i h2
    rw [List.getD_eq_getElem?_getD, List.getD_eq_getElem?_getD, List.getElem?_eq_getElem h1, List.getElem?_eq_getElem h2] at this
    exact this
  | n + 1, d, a, hn, ha, hp => by
    simp only [allv, List.mem_flatMap, List.mem_range]
    have hb := ha.2 d.length (by omega)
    refine ⟨(a.getD d.length 0).toNat, by omega, allv_mem (n := n) (by simp; omega) ha fun i hi => ?_⟩
    simp only [List.length_append, List.length_singleton] at hi
    rw [getD_app]
    rcases Nat.lt_or_ge i d.length with h1 | h1
    · rw [if_pos h1]; exact hp i h1
    · obtain rfl : i = d.length := by omega
      rw [if_neg (by omega), if_pos rfl]; omega
section
variable {l : List GCue} (h : dcues l)
include h
theorem prf_snoc {d : List Int} (hd : prf l d) (hl : d.length < l.length) {b : Nat} (hb : b ≤ (cq l d.length).Slack.toNat) : prf l (d ++ [(b : Int)]) := by
  intro i hi
  simp only [List.length_append, List.length_singleton] at hi
  rw [getD_app]
  have := (h.2 d.length hl).2.2.2
  rcases Nat.lt_or_ge i d.length with h1 | h1
  · rw [if_pos h1]; exact hd i h1
  · obtain rfl : i = d.length := by omega
    rw [if_neg (by omega), if_pos rfl]; omega
theorem mem_allv : ∀ {n : Nat} {d a : List Int}, d.length + n = l.length → prf l d → a ∈ allv l n d → okv l a
  | 0, d, a, hn, hd, ha => by
    simp only [allv, List.mem_singleton] at ha
    subst ha
    exact ⟨by omega, fun i hi => hd i (by omega)⟩
  | n + 1, d, a, hn, hd, ha => by
    simp only [allv, List.mem_flatMap, List.mem_range] at ha
    obtain ⟨b, hb, ha⟩ := ha
    exact mem_allv (n := n) (by simp; omega) (prf_snoc h hd (by omega) (by omega)) ha
theorem allShifts_fold {τ : Type} {f : List Int → τ → Option τ} {g : List Int → τ → τ} {P : τ → Prop} (hf : ∀ a st, okv l a → P st → f a st = some (g a st) ∧ P (g a st)) :
    ∀ (n : Nat) (d : List Int) (st : τ) (m : Nat), d.length + n = l.length → prf l d → P st → n < m →
      impl_allShifts_n l f m d st = some ((allv l n d).foldl (fun s a => g a s) st) ∧ P ((allv l n d).foldl (fun s a => g a s) st)
  | _, _, _, 0, _, _, _, hm => by omega
  | 0, d, st, m + 1, hn, hd, hP, _ => by
    obtain ⟨h1, h2⟩ := hf d st ⟨by omega, fun i hi => hd i (by omega)⟩ hP
    rw [impl_allShifts_n, if_pos (by omega), h1]
    exact ⟨rfl, h2⟩
  | n + 1, d, st, m + 1, hn, hd, hP, hm => by
    have h6 := h.1
    have hs := (h.2 d.length (by omega)).2.2.2
    have key : ∀ k, k ≤ (cq l d.length).Slack.toNat + 1 → P (((List.range k).flatMap fun b : Nat => allv l n (d ++ [(b : Int)])).foldl (fun s a => g a s) st) := by
      intro k
      induction k with
      | zero => intro _; exact hP
      | succ k ih =>
        intro hk
        rw [List.range_succ, List.flatMap_append, List.foldl_append, List.flatMap_singleton]
        exact (allShifts_fold hf n (d ++ [(k : Int)]) _ m (by simp; omega) (prf_snoc h hd (by omega) (by omega)) (ih (by omega)) (by omega)).2
    refine ⟨?_, key _ (Nat.le_refl _)⟩
    rw [impl_allShifts_n, if_neg (by omega)]
    refine eq_of_wp ?_
    refine wp_cnt (fun k => (((List.range k).flatMap fun b : Nat => allv l n (d ++ [(b : Int)])).foldl (fun s a => g a s) st, (k : Int))) ((cq l d.length).Slack.toNat + 1) rfl (by omega) (fun k hk => ?_) (b := (allv l (n + 1) d).foldl (fun s a => g a s) st) ?_ (wp_some rfl)
    · simp only
      rw [at_cq (by omega), Option.bind_some, if_pos (by omega)]
      unfold cloneL
      rw [if_pos (by omega), Option.bind_some, app_ok (by simp; omega), Option.bind_some,
        (allShifts_fold hf n (d ++ [(k : Int)]) _ m (by simp; omega) (prf_snoc h hd (by omega) (by omega)) (key k (by omega)) (by omega)).1, Option.bind_some, w64_id (by omega) (by omega), List.range_succ, List.flatMap_append, List.foldl_append, List.flatMap_singleton]
      rfl
    · simp only
      rw [at_cq (by omega), Option.bind_some, if_neg (by omega)]
      rfl
theorem allShifts_eq {τ : Type} {f : List Int → τ → Option τ} {g : List Int → τ → τ} {P : τ → Prop} (hf : ∀ a st, okv l a → P st → f a st = some (g a st) ∧ P (g a st)) {st : τ} (hP : P st) :
    impl_allShifts l [] f st = some ((allv l l.length []).foldl (fun s a => g a s) st) := by
  have := h.1
  exact (allShifts_fold h hf l.length [] st 8 (by simp) prf_nil hP (by omega)).1
theorem all_iff {a : List Int} : a ∈ allv l l.length [] ↔ okv l a := ⟨mem_allv h (by simp) prf_nil, fun ha => allv_mem (by simp) ha fun i hi => by simp at hi⟩
/- shifted cues -/
theorem shl_d (ha : ∀ i, i < l.length → (cq l i).At ≤ 19) {a : List Int} (hv : okv l a) : dcues (shl l a) := by
  refine ⟨by unfold shl; simpa using h.1, fun i hi => ?_⟩
  have hi2 : i < l.length := by unfold shl at hi; simpa using hi
  have c1 := h.2 i hi2
  have c2 := hv.2 i hi2
  have c3 := ha i hi2
  obtain ⟨d1, d2, d3, d4⟩ := c1
  unfold shl cq
  rw [List.getD_eq_getElem?_getD, tab_get hi2]
  unfold cq at d1 d2 d3 d4 c2 c3
  simp only [Option.getD_some, shc, dcue, cq]
  omega
theorem shiftCues_shl (ha : ∀ i, i < l.length → (cq l i).At ≤ 19) {a : List Int} (hv : okv l a) : impl_shiftCues l a = some (shl l a) := by
  have h6 := h.1
  obtain ⟨hr, hb⟩ := hv
  have hat : ∀ i, i < l.length → at? a (i : Int) = some (a.getD i 0) := fun i hi => at_getI (by omega)
  unfold impl_shiftCues cloneL shl
  rw [if_pos (by omega), Option.bind_some]
  refine eq_of_wp ?_
  have hl0 : l = tab (fun i => cq l i) l.length := by unfold cq; exact eq_tab l default
  refine wp_cnt (fun k => (tab (fun i => if i < k then shc (cq l i) (a.getD i 0) else cq l i) l.length, (k : Int))) l.length ?_ (by omega) (fun k hk => ?_) (b := tab (fun i => shc (cq l i) (a.getD i 0)) l.length) ?_ (wp_some rfl)
  · refine Prod.ext ?_ rfl
    conv => lhs; rw [hl0]
    exact tab_congr fun i _ => by simp
  · have c1 := h.2 k hk
    have c2 := hb k hk
    have c3 := ha k hk
    obtain ⟨d1, d2, d3, d4⟩ := c1
    simp only
    rw [if_pos (by omega), hat k hk, Option.bind_some, tab_at (by omega) (by omega), Option.bind_some, Option.bind_some, Int.toNat_natCast, if_neg (by omega), tab_set, tab_at (by omega) (by omega), Option.bind_some, Option.bind_some, Int.toNat_natCast, if_pos rfl, tab_set, w64_id (n := (k : Int) + 1) (by omega) (by omega), w64_id (n := (cq l k).At + _) (by omega) (by omega)]
    simp only
    rw [w64_id (n := (cq l k).Slack - _) (by omega) (by omega)]
    refine congrArg some (congrArg Step.next (Prod.ext ?_ rfl))
    refine tab_congr fun i hi => ?_
    by_cases h1 : i = k
    · subst h1; rw [if_pos rfl, if_pos (by omega)]; rfl
    · rw [if_neg h1, if_neg h1]
      by_cases h2 : i < k
      · rw [if_pos h2, if_pos (by omega)]
      · rw [if_neg h2, if_neg (by omega)]
  · simp only
    rw [if_neg (by omega)]
    exact congrArg some (congrArg Step.brk (tab_congr fun i hi => by rw [if_pos hi]))
end
end Go.Vs.G

namespace Go.Vs.G
open Go Go.Vs

/-- the most hands -/
def Mh (l : List GCue) : Int := mx (fun i => H l (cq l i).At) l.length
theorem okv_bd {l : List GCue} (h : dcues l) {a : List Int} (ha : okv l a) : ∀ i, i < a.length → 0 ≤ a.getD i 0 ∧ a.getD i 0 ≤ 1000 := fun i hi => by
  have h1 := ha.2 i (by rw [← ha.1]; exact hi)
  have h2 := (h.2 i (by rw [← ha.1]; exact hi)).2.2.2
  omega
theorem sm_bd {l : List GCue} (h : dcues l) {a : List Int} (ha : okv l a) : 0 ≤ sm a ∧ sm a ≤ 6000 := by
  have := smK_bd (l := a) (B := 1000) (by omega) (k := a.length) (okv_bd h ha)
  have h6 := h.1
  have := ha.1
  unfold sm; omega
/-- the least sum and its shifts, so far -/
def bstS (l : List GCue) (m : Int) (a : List Int) (x : Int × List GCue × Int × List Int) : Int × List GCue × Int × List Int :=
  if (x.1 < 0 ∨ sm a < x.1) ∧ Mh (shl l a) ≤ m then (sm a, x.2.1, x.2.2.1, a) else x
/-- what the best is of what was seen -/
def Bst (l : List GCue) (m : Int) (L : List (List Int)) (x : Int × List GCue × Int × List Int) : Prop :=
  (x.1 = -1 ∧ ∀ a, a ∈ L → ¬ Mh (shl l a) ≤ m) ∨ (0 ≤ x.1 ∧ x.2.2.2 ∈ L ∧ Mh (shl l x.2.2.2) ≤ m ∧ x.1 = sm x.2.2.2 ∧ ∀ a, a ∈ L → Mh (shl l a) ≤ m → x.1 ≤ sm a)
theorem Bst_fold {l : List GCue} (h : dcues l) {m : Int} : ∀ (L S : List (List Int)) (x : Int × List GCue × Int × List Int), (∀ a, a ∈ L → okv l a) → Bst l m S x → Bst l m (S ++ L) (L.foldl (fun s a => bstS l m a s) x)
  | [], S, x, _, hb => by simpa using hb
  | a :: L, S, x, hL, hb => by
    have := Bst_fold h L (S ++ [a]) (bstS l m a x) (fun b hb' => hL b (by simp [hb'])) (by
      have s0 := (sm_bd h (hL a (by simp))).1
      unfold bstS
      split
      · rename_i hc
        refine .inr ⟨s0, by simp, hc.2, rfl, fun b hb2 hm => ?_⟩
        simp only
        rcases List.mem_append.1 hb2 with hb2 | hb2
        · rcases hb with ⟨h1, h2⟩ | ⟨h1, h2, h3, h4, h5⟩
          · exact absurd hm (h2 b hb2)
          · have := h5 b hb2 hm
            rcases hc.1 with h6 | h6 <;> omega
        · rw [List.mem_singleton.1 hb2]; exact Int.le_refl _
      · rename_i hc
        rcases hb with ⟨h1, h2⟩ | ⟨h1, h2, h3, h4, h5⟩
        · refine .inl ⟨h1, fun b hb2 => ?_⟩
          rcases List.mem_append.1 hb2 with hb2 | hb2
          · exact h2 b hb2
          · rw [List.mem_singleton.1 hb2]
            exact fun hm => hc ⟨.inl (by omega), hm⟩
        · refine .inr ⟨h1, by simp [h2], h3, h4, fun b hb2 hm => ?_⟩
          rcases List.mem_append.1 hb2 with hb2 | hb2
          · exact h5 b hb2 hm
          · rw [List.mem_singleton.1 hb2] at hm ⊢
            exact Classical.byContradiction fun hlt => hc ⟨.inr (by omega), hm⟩)
    rw [List.append_assoc] at this
    exact this
section
variable {l : List GCue} (h : dcues l) (h19 : ∀ i, i < l.length → (cq l i).At ≤ 19)
include h h19
theorem bst_eq {m : Int} (a : List Int) (x : Int × List GCue × Int × List Int) (ha : okv l a) (hx : x.2.1 = l ∧ x.2.2.1 = m) : impl_LeastShifts_1 a x.1 x.2.1 x.2.2.1 x.2.2.2 = some (bstS l m a x) ∧ ((bstS l m a x).2.1 = l ∧ (bstS l m a x).2.2.1 = m) := by
  obtain ⟨x1, x2, x3, x4⟩ := x
  obtain ⟨rfl, rfl⟩ := hx
  simp only at h h19 ha ⊢
  have h6 := h.1
  have hd := shl_d h h19 ha
  have hal := ha.1
  refine ⟨?_, ?_⟩
  · unfold impl_LeastShifts_1 bstS
    rw [sumOf_sm (by omega) (okv_bd h ha), Option.bind_some, shiftCues_shl h h19 ha, Option.bind_some, mostHands_eq hd]
    simp only [Option.bind_some]
    change (Option.bind (if x1 < 0 then some (decide (Mh (shl x2 a) ≤ x3)) else if sm a < x1 then some (decide (Mh (shl x2 a) ≤ x3)) else some false) fun x5 => _) = _
    unfold cloneL
    have hcl : a.length ≤ 4294967296 := by omega
    simp only [hcl, if_true]
    by_cases c1 : x1 < 0
    · rw [if_pos c1]
      by_cases c2 : Mh (shl x2 a) ≤ x3
      · rw [decide_eq_true c2, if_pos ⟨.inl c1, c2⟩]; rfl
      · rw [decide_eq_false c2, if_neg (fun hh => c2 hh.2)]; rfl
    · rw [if_neg c1]
      by_cases c3 : sm a < x1
      · rw [if_pos c3]
        by_cases c2 : Mh (shl x2 a) ≤ x3
        · rw [decide_eq_true c2, if_pos ⟨.inr c3, c2⟩]; rfl
        · rw [decide_eq_false c2, if_neg (fun hh => c2 hh.2)]; rfl
      · rw [if_neg c3, if_neg (fun hh => hh.1.elim c1 c3)]; rfl
  · unfold bstS
    split <;> exact ⟨rfl, rfl⟩
/-- the least shifts -/
theorem LeastShifts_ok {m : Int} (hm : 0 ≤ m ∧ m ≤ 24) : ∃ r, impl_LeastShifts l m = some r ∧
    ((r = ([], 3) ∧ ∀ a, okv l a → ¬ Mh (shl l a) ≤ m) ∨ (r.2 = 0 ∧ okv l r.1 ∧ Mh (shl l r.1) ≤ m ∧ ∀ a, okv l a → Mh (shl l a) ≤ m → sm r.1 ≤ sm a)) := by
  have hcc : impl_cuesCode l m = some 0 := by
    unfold impl_cuesCode
    rw [ValidCues_true h, Option.bind_some, if_pos rfl, show impl_within m 0 24 = some true by unfold impl_within; rw [if_pos (by omega), decide_eq_true (by omega)]]
    rfl
  have hf := allShifts_eq h (f := fun a0 (x : Int × (List GCue) × Int × (List Int)) => impl_LeastShifts_1 a0 x.1 x.2.1 x.2.2.1 x.2.2.2) (g := bstS l m) (P := fun x => x.2.1 = l ∧ x.2.2.1 = m) (fun a st h1 h2 => bst_eq h h19 a st h1 h2) (st := (-1, l, m, [])) ⟨rfl, rfl⟩
  have hb := Bst_fold h (m := m) (allv l l.length []) [] (-1, l, m, []) (fun a ha => (all_iff h).1 ha) (.inl ⟨rfl, fun a ha => by simp at ha⟩)
  rw [List.nil_append] at hb
  unfold impl_LeastShifts
  rw [hcc, Option.bind_some, if_pos rfl, hf, Option.bind_some]
  generalize (allv l l.length []).foldl (fun s a => bstS l m a s) (-1, l, m, []) = x at hb ⊢
  rcases hb with ⟨h1, h2⟩ | ⟨h1, h2, h3, h4, h5⟩
  · rw [if_pos (by omega)]
    exact ⟨_, rfl, .inl ⟨rfl, fun a ha => h2 a ((all_iff h).2 ha)⟩⟩
  · rw [if_neg (by omega)]
    exact ⟨_, rfl, .inr ⟨rfl, (all_iff h).1 h2, h3, fun a ha hm2 => by rw [← h4]; exact h5 a ((all_iff h).2 ha) hm2⟩⟩
end
end Go.Vs.G

namespace Go.Vs.G
open Go Go.Vs
section
variable {l : List GCue} (h : dcues l)
include h
theorem l17Ok_true : spec_l17Ok l = some true := by
  have h6 := h.1
  unfold spec_l17Ok
  refine eq_of_wp ?_
  refine wp_cnt (fun k => (k : Int)) l.length rfl (by omega) (fun k hk => ?_) (b := ()) ?_ ?_
  · obtain ⟨d1, d2, d3, d4⟩ := h.2 k hk
    rw [if_pos (by omega), at_cq hk, Option.bind_some, l00In_eqB, l00In_eqB, l00In_eqB, l00In_eqB, decide_eq_true (show 0 ≤ (cq l k).At ∧ (cq l k).At ≤ 10000 by omega), decide_eq_true (show 1 ≤ (cq l k).Ticks ∧ (cq l k).Ticks ≤ 1000 by omega), decide_eq_true (show 1 ≤ (cq l k).Hands ∧ (cq l k).Hands ≤ 4 by omega), decide_eq_true (show 0 ≤ (cq l k).Slack ∧ (cq l k).Slack ≤ 6 by omega), w64_id (by omega) (by omega)]
    rfl
  · rw [if_neg (by omega)]
  · exact wp_some (decide_eq_true (by omega))
theorem l17At_eq (t : Int) : spec_l17At l t = some (H l t) := by
  have h6 := h.1
  unfold spec_l17At
  refine eq_of_wp ?_
  refine wp_cnt (fun k => (hnd l t k, (k : Int))) l.length rfl (by omega) (fun k hk => ?_) (b := H l t) ?_ (wp_some rfl)
  · obtain ⟨d1, d2, d3, d4⟩ := h.2 k hk
    have hb := hnd_bd h t k (by omega)
    simp only
    rw [if_pos (by omega), at_cq hk, Option.bind_some, Option.bind_some, Option.bind_some, w64_id (n := (cq l k).At + (cq l k).Ticks) (by omega) (by omega), w64_id (n := (cq l k).At + (cq l k).Ticks - 1) (by omega) (by omega), l00In_eqB, Option.bind_some, w64_id (n := (k : Int) + 1) (by omega) (by omega)]
    have e : decide ((cq l k).At ≤ t ∧ t ≤ (cq l k).At + (cq l k).Ticks - 1) = act (cq l k) t := by unfold act; exact decide_eq_decide.2 (by omega)
    rw [e]
    simp only [hnd]
    cases hc : act (cq l k) t with
    | true => simp only [if_true, Option.bind_some]; rw [w64_id (by omega) (by omega)]; rfl
    | false => simp only [Bool.false_eq_true, if_false, Int.add_zero]; rfl
  · simp only; rw [if_neg (by omega)]
theorem l17Most_eq : spec_l17Most l = some (Mh l) := by
  have h6 := h.1
  unfold spec_l17Most
  refine eq_of_wp ?_
  refine wp_cnt (fun k => (mx (fun i => H l (cq l i).At) k, (k : Int))) l.length rfl (by omega) (fun k hk => ?_) (b := Mh l) ?_ (wp_some rfl)
  · simp only
    rw [if_pos (by omega), at_cq hk, Option.bind_some, l17At_eq h, Option.bind_some, w64_id (by omega) (by omega)]
    have : spec_l00Max (mx (fun i => H l (cq l i).At) k) (H l (cq l k).At) = some (mx (fun i => H l (cq l i).At) (k + 1)) := by
      unfold spec_l00Max
      rw [mx]
      split <;> congr 1 <;> omega
    rw [this]; rfl
  · simp only; rw [if_neg (by omega)]; rfl
theorem specMost_eq : spec_MostHands l = some (Mh l, 0) := by
  unfold spec_MostHands
  rw [l17Ok_true h, Option.bind_some, if_pos rfl, l17Most_eq h]; rfl
theorem MostHands_Mh : impl_MostHands l = some (Mh l, 0) := by
  unfold impl_MostHands
  rw [ValidCues_true h, Option.bind_some, if_pos rfl, mostHands_eq h]; rfl
theorem specShift_shl (h19 : ∀ i, i < l.length → (cq l i).At ≤ 19) {a : List Int} (ha : okv l a) : spec_ShiftCues l a = some (shl l a, 0) := by
  have h6 := h.1
  have hal := ha.1
  have hd := shl_d h h19 ha
  unfold spec_ShiftCues
  rw [l17Ok_true h, Option.bind_some, if_pos rfl, if_pos (by omega)]
  refine eq_of_wp ?_
  refine wp_cnt (fun k => (tab (fun i => shc (cq l i) (a.getD i 0)) k, (k : Int))) l.length rfl (by omega) (fun k hk => ?_) (b := shl l a) ?_ ?_
  · obtain ⟨d1, d2, d3, d4⟩ := h.2 k hk
    have c2 := ha.2 k hk
    have c3 := h19 k hk
    simp only
    rw [if_pos (by omega), at_getI (by omega), Option.bind_some, at_cq hk, Option.bind_some, l00In_eqB, decide_eq_true c2, Option.bind_some, if_pos rfl, Option.bind_some, Option.bind_some]
    unfold spec_l17Shift
    rw [Option.bind_some, app_ok (by simp; omega), Option.bind_some, w64_id (n := (k : Int) + 1) (by omega) (by omega), w64_id (n := (cq l k).At + _) (by omega) (by omega), w64_id (n := (cq l k).Slack - _) (by omega) (by omega), tab_succ]
    rfl
  · simp only; rw [if_neg (by omega)]; rfl
  · rw [l17Ok_true hd, Option.bind_some, if_pos rfl]
    exact wp_some rfl
end
end Go.Vs.G

namespace Go.Vs.G
open Go Go.Vs

/-- how many numbers below n -/
def cn (P : Nat → Bool) : Nat → Nat
  | 0 => 0
  | n + 1 => cn P n + if P n = true then 1 else 0
theorem cn_le {P Q : Nat → Bool} : ∀ {n : Nat}, (∀ v, v < n → P v = true → Q v = true) → cn P n ≤ cn Q n
  | 0, _ => Nat.le_refl _
  | n + 1, h => by
    have ih := cn_le (P := P) (Q := Q) (n := n) fun v hv => h v (by omega)
    have := h n (by omega)
    simp only [cn]
    cases hp : P n with
    | true => rw [this hp]; simp; omega
    | false => simp only [Bool.false_eq_true, if_false]; omega
theorem cn_congr {P Q : Nat → Bool} : ∀ {n : Nat}, (∀ v, v < n → P v = Q v) → cn P n = cn Q n
  | 0, _ => rfl
  | n + 1, h => by simp only [cn]; rw [cn_congr (P := P) (Q := Q) (n := n) fun v hv => h v (by omega), h n (by omega)]
theorem cn_zero {P : Nat → Bool} : ∀ {n : Nat}, (∀ v, v < n → P v = false) → cn P n = 0
  | 0, _ => rfl
  | n + 1, h => by simp only [cn]; rw [cn_zero (P := P) (n := n) fun v hv => h v (by omega), h n (by omega)]; rfl
theorem cn_add {P Q : Nat → Bool} {a : Nat} : ∀ {n : Nat}, a < n → P a = false → Q a = true → (∀ v, v < n → v ≠ a → Q v = P v) → cn Q n = cn P n + 1
  | n + 1, ha, hP, hQ, h => by
    simp only [cn]
    by_cases he : a = n
    · subst he
      rw [hP, hQ, cn_congr (P := Q) (Q := P) (n := a) fun v hv => h v (by omega) (by omega)]
      simp
    · have := cn_add (P := P) (Q := Q) (n := n) (by omega) hP hQ fun v hv hne => h v (by omega) hne
      rw [this, h n (by omega) (fun h => he h.symm)]; omega
/-- one number may be told apart -/
theorem cn_split {P : Nat → Bool} {a n : Nat} (ha : a < n) : cn P n = cn (fun v => decide (v ≠ a) && P v) n + if P a = true then 1 else 0 := by
  cases hp : P a with
  | true => exact cn_add ha (by simp) hp fun v hv hne => by simp [hne]
  | false =>
    simp only [Bool.false_eq_true, if_false, Nat.add_zero]
    refine cn_congr fun v hv => ?_
    by_cases h : v = a
    · subst h; rw [hp]; simp
    · simp [h]
/-- how many letters there may be -/
@[irreducible] def NB : Nat := 256
theorem NB_eq : NB = 256 := by unfold NB; rfl
/-- a letter's number -/
def ltr (s : List UInt8) (i : Nat) : Nat := (s.getD i 0).toNat
theorem ltr_lt (s : List UInt8) (i : Nat) : ltr s i < NB := by rw [NB_eq]; have := (s.getD i 0).toNat_lt; unfold ltr; omega
open Classical in
/-- v is shown from i on, before x -/
noncomputable def occ (s : List UInt8) (i x v : Nat) : Bool := decide (∃ j, i ≤ j ∧ j < x ∧ j < s.length ∧ ltr s j = v)
theorem occ_iff {s : List UInt8} {i x v : Nat} : occ s i x v = true ↔ ∃ j, i ≤ j ∧ j < x ∧ j < s.length ∧ ltr s j = v := by unfold occ; simp
theorem occ_ne {s : List UInt8} {i x v : Nat} (h : v ≠ (ltr s i)) : occ s (i + 1) x v = occ s i x v := by
  rw [Bool.eq_iff_iff, occ_iff, occ_iff]
  constructor
  · rintro ⟨j, h1, h2⟩; exact ⟨j, by omega, h2⟩
  · rintro ⟨j, h1, h2, h3, h4⟩
    by_cases hj : j = i
    · subst hj; exact absurd h4.symm h
    · exact ⟨j, by omega, h2, h3, h4⟩
theorem occ_self {s : List UInt8} {i x : Nat} (hi : i < s.length) (hx : i < x) : occ s i x (ltr s i) = true := occ_iff.2 ⟨i, Nat.le_refl _, hx, hi, rfl⟩
theorem occ_le {s : List UInt8} {i x v : Nat} (hx : x ≤ i) : occ s i x v = false := by
  rw [Bool.eq_false_iff]
  intro h
  obtain ⟨j, h1, h2, _⟩ := occ_iff.1 h
  omega
/-- how many of a set are shown from i on, before x -/
noncomputable def cc (s : List UInt8) (A : Nat → Bool) (i x : Nat) : Nat := cn (fun v => A v && occ s i x v) NB
noncomputable def dd (s : List UInt8) (A : Nat → Bool) (i x : Nat) : Nat := cn (fun v => decide (v ≠ (ltr s i)) && (A v && occ s i x v)) NB
section
variable {s : List UInt8} {i : Nat}
theorem cc_old (hi : i < s.length) (A : Nat → Bool) (x : Nat) : cc s A i x = dd s A i x + if A (ltr s i) = true ∧ i < x then 1 else 0 := by
  unfold cc dd
  rw [cn_split (a := (ltr s i)) (ltr_lt s i)]
  congr 1
  by_cases hx : i < x
  · rw [occ_self hi hx]; simp [hx]
  · rw [occ_le (by omega)]; simp [hx]
theorem cc_new (A : Nat → Bool) (x : Nat) : cc s A (i + 1) x = dd s A i x + if (A (ltr s i) && occ s (i + 1) x (ltr s i)) = true then 1 else 0 := by
  unfold cc dd
  rw [cn_split (a := (ltr s i)) (ltr_lt s i)]
  congr 1
  refine cn_congr fun v hv => ?_
  by_cases h : v = (ltr s i)
  · simp [h]
  · rw [occ_ne h]
theorem dd_le {A A' : Nat → Bool} (h : ∀ v, v ≠ (ltr s i) → A' v = true → A v = true) (x : Nat) : dd s A' i x ≤ dd s A i x := by
  unfold dd
  refine cn_le fun v _ hv => ?_
  simp only [Bool.and_eq_true, decide_eq_true_eq] at hv ⊢
  exact ⟨hv.1, h v hv.1 hv.2.1, hv.2.2⟩
/-- what the rule does with its set -/
inductive GStep (s : List UInt8) (i p : Nat) (G G' : Nat → Bool) : Bool → Prop where
  | hit : G (ltr s i) = true → (∀ v, G' v = G v) → GStep s i p G G' false
  | room : G (ltr s i) = false → (∀ v, G' v = (G v || v == (ltr s i))) → GStep s i p G G' true
  | out (t : Nat) : G (ltr s i) = false → G t = true → t < NB → cn G NB = p → (∀ v, G' v = ((G v && v != t) || v == (ltr s i))) → (∀ x v, occ s i x t = true → G v = true → occ s i x v = true) → GStep s i p G G' true
def b2i (b : Bool) : Int := if b = true then 1 else 0
theorem dom_step (hi : i < s.length) {p : Nat} {A G A' G' : Nat → Bool} {δ : Int} {la lg : Bool} (hd : ∀ x, (cc s A i x : Int) ≤ cc s G i x + δ)
    (hA1 : ∀ v, A' v = true → A v = true ∨ v = (ltr s i)) (hA2 : A' (ltr s i) = true) (hA3 : cn A' NB ≤ p) (hA4 : la = false → A (ltr s i) = true) (hG : GStep s i p G G' lg) :
    ∀ x, (cc s A' (i + 1) x : Int) ≤ cc s G' (i + 1) x + (δ + b2i la - b2i lg) := by
  intro x
  have he : (ltr s i) < NB := ltr_lt s i
  have h0 : 0 ≤ δ := by
    have := hd 0
    rw [show cc s A i 0 = 0 from cn_zero fun v _ => by rw [occ_le (by omega)]; simp, show cc s G i 0 = 0 from cn_zero fun v _ => by rw [occ_le (by omega)]; simp] at this
    omega
  have hx := hd x
  have hx1 := hd (i + 1)
  have dA : dd s A' i x ≤ dd s A i x := dd_le (fun v hv h => (hA1 v h).resolve_right hv) x
  -- the others of the set
  have cA : dd s A' i x + 1 ≤ p := by
    refine Nat.le_trans ?_ hA3
    rw [cn_split (P := A') (a := (ltr s i)) he, hA2]
    simp only [if_true]
    refine Nat.add_le_add_right (cn_le fun v _ hv => ?_) 1
    simp only [Bool.and_eq_true] at hv ⊢
    exact ⟨hv.1, hv.2.1⟩
  rw [cc_old hi, cc_old hi] at hx hx1
  rw [cc_new, cc_new, hA2]
  simp only [Bool.true_and]
  -- at i + 1 nobody else is shown
  have d0 : ∀ B : Nat → Bool, dd s B i (i + 1) = 0 := fun B => cn_zero fun v _ => by
    by_cases hv : v = (ltr s i)
    · simp [hv]
    · have : occ s i (i + 1) v = false := by
        rw [Bool.eq_false_iff]
        intro h
        obtain ⟨j, h1, h2, h3, h4⟩ := occ_iff.1 h
        obtain rfl : j = i := by omega
        exact hv h4.symm
      rw [this]; simp
  have dx : ∀ B : Nat → Bool, x ≤ i → dd s B i x = 0 := fun B h => cn_zero fun v _ => by rw [occ_le h]; simp
  rw [d0, d0] at hx1
  simp only [show i < i + 1 by omega, and_true] at hx1
  cases hG with
  | hit g1 g2 =>
    have dG : dd s G' i x = dd s G i x := by unfold dd; exact cn_congr fun v _ => by rw [g2]
    rw [dG, g2, g1]
    rw [g1] at hx
    simp only [Bool.true_and, true_and] at hx ⊢
    cases la with
    | true => simp only [b2i, if_true, Bool.false_eq_true, if_false]; split at hx <;> split at hx <;> omega
    | false =>
      rw [hA4 rfl] at hx
      simp only [true_and] at hx
      simp only [b2i, Bool.false_eq_true, if_false]
      omega
  | room g1 g2 =>
    have dG : dd s G' i x = dd s G i x := by
      unfold dd
      refine cn_congr fun v _ => ?_
      by_cases hv : v = (ltr s i)
      · simp [hv]
      · have hb : (v == ltr s i) = false := beq_eq_false_iff_ne.2 hv
        rw [g2, hb]; simp [hv]
    have ge : G' (ltr s i) = true := by rw [g2]; simp
    rw [dG, ge]
    rw [g1] at hx hx1
    simp only [Bool.true_and, Bool.false_eq_true, false_and, if_false] at hx hx1 ⊢
    cases la with
    | true => simp only [b2i, if_true]; split at hx <;> omega
    | false =>
      rw [hA4 rfl] at hx hx1
      simp only [true_and, if_true] at hx hx1
      simp only [b2i, Bool.false_eq_true, if_false, if_true]
      by_cases hix : i < x
      · rw [if_pos hix] at hx; omega
      · have q := dx A (by omega)
        have : occ s (i + 1) x (ltr s i) = false := occ_le (by omega)
        rw [this]
        simp only [Bool.false_eq_true, if_false]
        omega
  | out t g1 gt gl gp g2 gm =>
    have hte : t ≠ (ltr s i) := fun h => by rw [h, g1] at gt; cases gt
    have ge : G' (ltr s i) = true := by rw [g2]; simp
    rw [ge]
    rw [g1] at hx hx1
    simp only [Bool.true_and, Bool.false_eq_true, false_and, if_false] at hx hx1 ⊢
    have hδ : 0 ≤ δ + b2i la - b2i true := by
      cases la with
      | true => simp only [b2i, if_true]; omega
      | false =>
        rw [hA4 rfl] at hx1
        simp only [if_true] at hx1
        simp only [b2i, Bool.false_eq_true, if_false, if_true]; omega
    cases ho : occ s i x t with
    | true =>
      -- all of the rule's set are shown before x
      have dG : dd s G' i x + 1 = p := by
        rw [← gp]
        refine (cn_add (P := fun v => decide (v ≠ (ltr s i)) && (G' v && occ s i x v)) (Q := G) gl ?_ gt fun v _ hv => ?_).symm
        · rw [g2]; simp [hte]
        · by_cases hve : v = (ltr s i)
          · rw [hve, g1]; simp
          · rw [g2]
            cases hgv : G v with
            | true => rw [gm x v ho hgv]; simp [hve, hv]
            | false => simp [hve]
      omega
    | false =>
      have dG : dd s G' i x = dd s G i x := by
        unfold dd
        refine cn_congr fun v _ => ?_
        by_cases hv : v = (ltr s i)
        · simp [hv]
        · by_cases hvt : v = t
          · subst hvt; rw [ho]; simp
          · have hb : (v == ltr s i) = false := beq_eq_false_iff_ne.2 hv
            have hb2 : (v != t) = true := bne_iff_ne.2 hvt
            rw [g2, hb, hb2]; simp [hv]
      rw [dG]
      cases la with
      | true => simp only [b2i, if_true]; split at hx <;> omega
      | false =>
        rw [hA4 rfl] at hx hx1
        simp only [true_and, if_true] at hx hx1
        simp only [b2i, Bool.false_eq_true, if_false, if_true]
        by_cases hix : i < x
        · rw [if_pos hix] at hx; omega
        · have q := dx A (by omega)
          have : occ s (i + 1) x (ltr s i) = false := occ_le (by omega)
          rw [this]
          simp only [Bool.false_eq_true, if_false]
          omega
end
end Go.Vs.G

namespace Go.Vs.G
open Go Go.Vs

/-- the magazine behind i showings by a plan -/
def run (s : List UInt8) (p : Nat) (pl : List Int) : Nat → List Int
  | 0 => List.replicate p 0
  | i + 1 => (run s p pl i).set (pl.getD i 0).toNat (ltr s i : Int)
def ldc (s : List UInt8) (p : Nat) (pl : List Int) : Nat → Int
  | 0 => 0
  | i + 1 => ldc s p pl i + if (run s p pl i).getD (pl.getD i 0).toNat 0 = (ltr s i : Int) then 0 else 1
theorem run_len (s : List UInt8) (p : Nat) (pl : List Int) : ∀ i, (run s p pl i).length = p
  | 0 => by simp [run]
  | i + 1 => by simp [run, run_len s p pl i]
/-- the letters of a magazine -/
def St (M : List Int) (v : Nat) : Bool := decide (0 < v ∧ (v : Int) ∈ M)
theorem St_iff {M : List Int} {v : Nat} : St M v = true ↔ 0 < v ∧ (v : Int) ∈ M := by unfold St; simp
theorem cn_le1 {P Q : Nat → Bool} {a n : Nat} (h : ∀ v, v < n → v ≠ a → Q v = true → P v = true) : cn Q n ≤ cn P n + 1 := by
  by_cases ha : a < n
  · rw [cn_split (P := Q) ha]
    have := cn_le (P := fun v => decide (v ≠ a) && Q v) (Q := P) (n := n) fun v hv hq => by
      simp only [Bool.and_eq_true, decide_eq_true_eq] at hq
      exact h v hv hq.1 hq.2
    split <;> omega
  · have := cn_le (P := Q) (Q := P) (n := n) fun v hv hq => h v hv (by omega) hq
    omega
theorem card_le : ∀ M : List Int, cn (St M) NB ≤ M.length
  | [] => by rw [cn_zero fun v _ => by simp [St]]; exact Nat.zero_le _
  | m :: M => by
    have ih := card_le M
    have := cn_le1 (P := St M) (Q := St (m :: M)) (a := m.toNat) (n := NB) fun v _ hne hq => by
      rw [St_iff] at hq ⊢
      refine ⟨hq.1, (List.mem_cons.1 hq.2).resolve_left fun h => hne (by omega)⟩
    simp only [List.length_cons]; omega
theorem card_eq : ∀ M : List Int, (∀ m, m ∈ M → 0 < m ∧ m < (NB : Int)) → M.Pairwise (· ≠ ·) → cn (St M) NB = M.length
  | [], _, _ => cn_zero fun v _ => by simp [St]
  | m :: M, h, hp => by
    obtain ⟨p1, p2⟩ := List.pairwise_cons.1 hp
    have ih := card_eq M (fun q hq => h q (by simp [hq])) p2
    have hm := h m (by simp)
    have := cn_add (P := St M) (Q := St (m :: M)) (a := m.toNat) (n := NB) (by omega) (by
        rw [Bool.eq_false_iff]
        intro hq
        obtain ⟨_, hq⟩ := St_iff.1 hq
        exact p1 _ hq (by omega)) (St_iff.2 ⟨by omega, List.mem_cons.2 (.inl (by omega))⟩) fun v _ hne => by
      rw [Bool.eq_iff_iff, St_iff, St_iff]
      exact ⟨fun hq => ⟨hq.1, (List.mem_cons.1 hq.2).resolve_left fun h => hne (by omega)⟩, fun hq => ⟨hq.1, List.mem_cons_of_mem _ hq.2⟩⟩
    rw [this, ih]; rfl
theorem mem_set_iff {M : List Int} {k : Nat} {e v : Int} (hk : k < M.length) : v ∈ M.set k e ↔ v = e ∨ ∃ j, j < M.length ∧ j ≠ k ∧ M.getD j 0 = v := by
  constructor
  · intro h
    obtain ⟨j, hj, he⟩ := List.mem_iff_getElem.1 h
    rw [List.length_set] at hj
    rw [List.getElem_set] at he
    split at he
    · exact .inl he.symm
    · rename_i hne
      exact .inr ⟨j, hj, fun h => hne h.symm, by rw [List.getD_eq_getElem?_getD, List.getElem?_eq_getElem hj]; exact he⟩
  · rintro (rfl | ⟨j, hj, hne, he⟩)
    · exact List.mem_iff_getElem.2 ⟨k, by simpa using hk, by simp⟩
    · refine List.mem_iff_getElem.2 ⟨j, by simpa using hj, ?_⟩
      rw [List.getElem_set, if_neg (fun h => hne h.symm)]
      rw [List.getD_eq_getElem?_getD, List.getElem?_eq_getElem hj] at he
      exact he
theorem mem_getD {M : List Int} {v : Int} : v ∈ M ↔ ∃ j, j < M.length ∧ M.getD j 0 = v := by
  rw [List.mem_iff_getElem]
  constructor
  · rintro ⟨j, hj, he⟩; exact ⟨j, hj, by rw [List.getD_eq_getElem?_getD, List.getElem?_eq_getElem hj]; exact he⟩
  · rintro ⟨j, hj, he⟩; rw [List.getD_eq_getElem?_getD, List.getElem?_eq_getElem hj] at he; exact ⟨j, hj, he⟩
/-- a place that the rule may choose -/
def GK (s : List UInt8) (i : Nat) (M : List Int) (k : Nat) : Prop :=
  k < M.length ∧ ((ltr s i : Int) ∈ M → M.getD k 0 = (ltr s i : Int)) ∧ ((ltr s i : Int) ∉ M → M.getD k 0 = 0 ∨ ((0 : Int) ∉ M ∧ ∀ x v, occ s i x (M.getD k 0).toNat = true → St M v = true → occ s i x v = true))
/-- letters are not in the magazine twice -/
structure MOk (M : List Int) : Prop where
  el : ∀ m, m ∈ M → m = 0 ∨ (0 < m ∧ m < (NB : Int))
  nd : ∀ a b, a < M.length → b < M.length → M.getD a 0 = M.getD b 0 → M.getD a 0 ≠ 0 → a = b
theorem MOk.pair {M : List Int} (h : MOk M) (h0 : (0 : Int) ∉ M) : M.Pairwise (· ≠ ·) := by
  rw [List.pairwise_iff_getElem]
  intro a b ha hb hab he
  have e1 : M.getD a 0 = M[a] := by rw [List.getD_eq_getElem?_getD, List.getElem?_eq_getElem ha]; rfl
  have e2 : M.getD b 0 = M[b] := by rw [List.getD_eq_getElem?_getD, List.getElem?_eq_getElem hb]; rfl
  have := h.nd a b ha hb (by rw [e1, e2, he]) (by rw [e1]; intro hz; exact h0 (by rw [← hz]; exact List.getElem_mem ha))
  omega
section
variable {s : List UInt8} {i : Nat} {M : List Int} {k : Nat}
theorem MOk.set (h : MOk M) (hl : 0 < ltr s i) (hk : GK s i M k) : MOk (M.set k (ltr s i : Int)) := by
  obtain ⟨k1, k2, k3⟩ := hk
  have hL := ltr_lt s i
  refine ⟨fun m hm => ?_, fun a b ha hb he hz => ?_⟩
  · rcases (mem_set_iff k1).1 hm with rfl | ⟨j, hj, _, rfl⟩
    · right; omega
    · exact h.el _ (mem_getD.2 ⟨j, hj, rfl⟩)
  · rw [List.length_set] at ha hb
    have gs : ∀ j, j < M.length → (M.set k (ltr s i : Int)).getD j 0 = if k = j then (ltr s i : Int) else M.getD j 0 := fun j hj => by
      rw [List.getD_eq_getElem?_getD, List.getElem?_set]
      by_cases hkj : k = j
      · rw [if_pos hkj, if_pos hkj, if_pos k1]; rfl
      · rw [if_neg hkj, if_neg hkj, List.getD_eq_getElem?_getD]
    rw [gs a ha] at he hz
    rw [gs b hb] at he
    by_cases hin : (ltr s i : Int) ∈ M
    · -- nothing changes
      have hkv := k2 hin
      have ea : (if k = a then (ltr s i : Int) else M.getD a 0) = M.getD a 0 := by
        by_cases e : k = a
        · rw [if_pos e, ← e, hkv]
        · rw [if_neg e]
      have eb : (if k = b then (ltr s i : Int) else M.getD b 0) = M.getD b 0 := by
        by_cases e : k = b
        · rw [if_pos e, ← e, hkv]
        · rw [if_neg e]
      rw [ea, eb] at he
      rw [ea] at hz
      exact h.nd a b ha hb he hz
    · split at he
      · rename_i e1
        split at he
        · rename_i e2; omega
        · exact absurd (mem_getD.2 ⟨b, hb, he.symm⟩) hin
      · rename_i e1
        split at he
        · exact absurd (mem_getD.2 ⟨a, ha, he⟩) hin
        · rw [if_neg e1] at hz
          exact h.nd a b ha hb he hz
theorem gstep (h : MOk M) (hl : 0 < ltr s i) (hk : GK s i M k) : GStep s i M.length (St M) (St (M.set k (ltr s i : Int))) (decide (M.getD k 0 ≠ (ltr s i : Int))) := by
  obtain ⟨k1, k2, k3⟩ := hk
  have hL := ltr_lt s i
  by_cases hin : (ltr s i : Int) ∈ M
  · have hkv := k2 hin
    rw [decide_eq_false (by simp only [ne_eq, Decidable.not_not]; exact hkv)]
    refine .hit (St_iff.2 ⟨hl, hin⟩) fun v => ?_
    rw [Bool.eq_iff_iff, St_iff, St_iff, mem_set_iff k1]
    refine and_congr_right fun hv => ⟨?_, fun hm => ?_⟩
    · rintro (he | ⟨j, hj, _, he⟩)
      · rw [he]; exact hin
      · exact mem_getD.2 ⟨j, hj, he⟩
    · obtain ⟨j, hj, he⟩ := mem_getD.1 hm
      by_cases hjk : j = k
      · left; rw [← he, hjk, hkv]
      · exact .inr ⟨j, hj, hjk, he⟩
  · have hne : M.getD k 0 ≠ (ltr s i : Int) := fun he => hin (mem_getD.2 ⟨k, k1, he⟩)
    rw [decide_eq_true hne]
    have hno : St M (ltr s i) = false := by rw [Bool.eq_false_iff]; exact fun hq => hin (St_iff.1 hq).2
    by_cases hz : M.getD k 0 = 0
    · refine .room hno fun v => ?_
      rw [Bool.eq_iff_iff, Bool.or_eq_true, beq_iff_eq, St_iff, St_iff, mem_set_iff k1]
      constructor
      · rintro ⟨hv, he | ⟨j, hj, _, he⟩⟩
        · right; omega
        · exact .inl ⟨hv, mem_getD.2 ⟨j, hj, he⟩⟩
      · rintro (⟨hv, hm⟩ | rfl)
        · obtain ⟨j, hj, he⟩ := mem_getD.1 hm
          refine ⟨hv, .inr ⟨j, hj, fun hjk => ?_, he⟩⟩
          rw [hjk, hz] at he; omega
        · exact ⟨hl, .inl rfl⟩
    · obtain ⟨h0, hmax⟩ := (k3 hin).resolve_left hz
      have hmk : M.getD k 0 ∈ M := mem_getD.2 ⟨k, k1, rfl⟩
      have hb := (h.el _ hmk).resolve_left hz
      refine .out (M.getD k 0).toNat hno (St_iff.2 ⟨by omega, by rw [show (((M.getD k 0).toNat : Nat) : Int) = M.getD k 0 by omega]; exact hmk⟩) (by omega) (card_eq M (fun m hm => (h.el m hm).resolve_left fun e => h0 (by rw [← e]; exact hm)) (h.pair h0)) (fun v => ?_) hmax
      rw [Bool.eq_iff_iff, Bool.or_eq_true, Bool.and_eq_true, beq_iff_eq, bne_iff_ne, St_iff, St_iff, mem_set_iff k1]
      constructor
      · rintro ⟨hv, he | ⟨j, hj, hjk, he⟩⟩
        · right; omega
        · refine .inl ⟨⟨hv, mem_getD.2 ⟨j, hj, he⟩⟩, fun hvt => hjk (h.nd j k hj k1 (by omega) (by omega))⟩
      · rintro (⟨⟨hv, hm⟩, hvt⟩ | rfl)
        · obtain ⟨j, hj, he⟩ := mem_getD.1 hm
          exact ⟨hv, .inr ⟨j, hj, fun hjk => hvt (by rw [hjk] at he; omega), he⟩⟩
        · exact ⟨hl, .inl rfl⟩
end
/-- a plan by the rule -/
def GPlan (s : List UInt8) (p : Nat) (pl : List Int) : Prop := pl.length = s.length ∧ ∀ i, i < s.length → 0 ≤ pl.getD i 0 ∧ GK s i (run s p pl i) (pl.getD i 0).toNat
section
variable {s : List UInt8} (hs : ∀ i, i < s.length → 0 < ltr s i) {p : Nat} {pl : List Int} (hg : GPlan s p pl)
include hs hg
theorem run_ok : ∀ {i : Nat}, i ≤ s.length → MOk (run s p pl i)
  | 0, _ => ⟨fun m hm => by simp [run] at hm; exact .inl hm.2, fun a b ha hb he hz => by
      exfalso; refine hz ?_
      simp only [run] at ha ⊢
      rw [List.getD_eq_getElem?_getD, List.getElem?_eq_getElem ha]; simp⟩
  | i + 1, hi => (run_ok (i := i) (by omega)).set (hs i (by omega)) (hg.2 i (by omega)).2
/-- no plan for as many places or fewer loads fewer -/
theorem dom {q : Nat} (hq : q ≤ p) {pl' : List Int} (hv : ∀ i, i < s.length → 0 ≤ pl'.getD i 0 ∧ pl'.getD i 0 < (q : Int)) :
    ∀ {i : Nat}, i ≤ s.length → ∀ x, (cc s (St (run s q pl' i)) i x : Int) ≤ cc s (St (run s p pl i)) i x + (ldc s q pl' i - ldc s p pl i)
  | 0, _, x => by
    have : ∀ n, cc s (St (run s n pl' 0)) 0 x = 0 := fun n => cn_zero fun v _ => by
      have : St (run s n pl' 0) v = false := by
        rw [Bool.eq_false_iff]
        intro hq
        obtain ⟨h1, h2⟩ := St_iff.1 hq
        simp only [run, List.mem_replicate] at h2
        omega
      rw [this]; rfl
    rw [this q]
    simp only [ldc]; omega
  | i + 1, hi, x => by
    have hi' : i < s.length := by omega
    have ih := dom hq hv (i := i) (by omega)
    have hM := run_ok hs hg (i := i) (by omega)
    have hl := hs i hi'
    have hL := ltr_lt s i
    have hb := hv i hi'
    have hkl : (pl'.getD i 0).toNat < (run s q pl' i).length := by rw [run_len]; omega
    have gs := gstep hM hl (hg.2 i hi').2
    rw [run_len] at gs
    have := dom_step (A' := St (run s q pl' (i + 1))) (la := decide ((run s q pl' i).getD (pl'.getD i 0).toNat 0 ≠ (ltr s i : Int))) hi' ih (fun v hv2 => by
        rw [St_iff] at hv2 ⊢
        simp only [run] at hv2
        rcases (mem_set_iff hkl).1 hv2.2 with he | ⟨j, hj, _, he⟩
        · right; omega
        · exact .inl ⟨hv2.1, mem_getD.2 ⟨j, hj, he⟩⟩) (St_iff.2 ⟨hl, (mem_set_iff hkl).2 (.inl rfl)⟩) (by
        have := card_le (run s q pl' (i + 1))
        rw [run_len] at this; omega) (fun hf => by
        have hf2 := of_decide_eq_false hf
        simp only [ne_eq, Decidable.not_not] at hf2
        exact St_iff.2 ⟨hl, mem_getD.2 ⟨_, hkl, hf2⟩⟩) gs x
    have e1 : ∀ (n : Nat) (l : List Int), ldc s n l (i + 1) = ldc s n l i + b2i (decide ((run s n l i).getD (l.getD i 0).toNat 0 ≠ (ltr s i : Int))) := fun n l => by
      simp only [ldc, b2i]
      by_cases he : (run s n l i).getD (l.getD i 0).toNat 0 = (ltr s i : Int)
      · rw [if_pos he, decide_eq_false (by simp only [ne_eq, Decidable.not_not]; exact he)]; rfl
      · rw [if_neg he, decide_eq_true he]; rfl
    rw [e1 q pl', e1 p pl]
    simp only [run] at this ⊢
    omega
theorem few_le {q : Nat} (hq : q ≤ p) {pl' : List Int} (hv : ∀ i, i < s.length → 0 ≤ pl'.getD i 0 ∧ pl'.getD i 0 < (q : Int)) : ldc s p pl s.length ≤ ldc s q pl' s.length := by
  have := dom hs hg hq hv (Nat.le_refl _) 0
  rw [show ∀ A, cc s A s.length 0 = 0 from fun A => cn_zero fun v _ => by rw [occ_le (by omega)]; simp, show ∀ A, cc s A s.length 0 = 0 from fun A => cn_zero fun v _ => by rw [occ_le (by omega)]; simp] at this
  omega
end
end Go.Vs.G

