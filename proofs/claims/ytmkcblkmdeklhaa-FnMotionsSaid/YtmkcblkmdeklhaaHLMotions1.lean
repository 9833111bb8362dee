/- Plain facts about the typed functions, up to the law: no program in sight. No conditions. -/
import Derived.Test.YtmkcblkmdeklhaaV5
import Derived.Test.YtmkcblkmdeklhaaDLMotions
namespace Go.Vs
open Go

section
variable {α β S B R : Type}

theorem w64_succ {i n : Nat} (h : i < n) (hn : n < 9223372036854775807) : w64 ((i : Int) + 1) = (i : Int) + 1 := w64_id (by omega) (by omega)
theorem at_of {l : List α} {i : Nat} (h : i < l.length) : at? l (i : Int) = some l[i] := at_nat h
end
end Go.Vs

namespace Go.Vs.G
open Go Go.Vs

/-- a source that can still be asked; B bounds the place that it has come to -/
structure SrcOk (B : Int) (s : GL00Src) : Prop where
  bytes : ∀ x, x ∈ s.code → 0 ≤ x ∧ x ≤ 255
  len : s.code.length ≤ 1000000
  at0 : 0 ≤ s.at_
  atB : s.at_ ≤ B
theorem SrcOk.mono {B B' : Int} {s : GL00Src} (h : SrcOk B s) (hB : B ≤ B') : SrcOk B' s := ⟨h.bytes, h.len, h.at0, Int.le_trans h.atB hB⟩
theorem l00From_eq (code : List Int) : spec_l00From code = some (GL00Src.mk code 0 0) := rfl
theorem srcOk_from {code : List Int} (h : okL (okI .u8) code) (hl : code.length ≤ 1000000) : SrcOk 0 (GL00Src.mk code 0 0) :=
  ⟨fun x hx => okU8 (h.2 x hx), hl, by simp, by simp⟩
theorem shr40 (n : Int) : shr? .u64 n 40 = some (n.fdiv (2 ^ 40)) := by
  simp [shr?, IntKind.bits]
theorem and255 (n : Int) : 0 ≤ bit_and .u64 n 255 ∧ bit_and .u64 n 255 ≤ 255 := by
  unfold bit_and
  rw [wu64_def]
  have h : (BitVec.ofInt IntKind.u64.bits n &&& BitVec.ofInt IntKind.u64.bits 255).toNat ≤ 255 := by
    rw [BitVec.toNat_and]
    exact Nat.le_trans Nat.and_le_right (by decide)
  omega
theorem next_ok {B : Int} {s : GL00Src} (h : SrcOk B s) (hB : B ≤ 4611686018427387904) : ∃ v s', spec_l00Src_next s = some (v, s') ∧ 0 ≤ v ∧ v ≤ 255 ∧ SrcOk (B + 1) s' := by
  have h1 := h.at0
  have h2 := h.atB
  have h3 := h.len
  have hat : w64 (s.at_ + 1) = s.at_ + 1 := w64_id (by omega) (by omega)
  have hb : ∃ b, (if s.at_ < (s.code.length : Int) then ((at? s.code s.at_).bind fun v1 => some (w64 v1)) else some 0) = some b ∧ 0 ≤ b ∧ b ≤ 255 := by
    split
    · rename_i hlt
      rw [at_ok h1 (by omega), Option.bind_some]
      obtain ⟨g1, g2⟩ := h.bytes s.code[s.at_.toNat] (List.getElem_mem (by omega))
      exact ⟨_, rfl, by rw [w64_id (by omega) (by omega)]; omega, by rw [w64_id (by omega) (by omega)]; omega⟩
    · exact ⟨0, rfl, by omega, by omega⟩
  obtain ⟨b, hb, b0, b1⟩ := hb
  unfold spec_l00Src_next
  rw [hb, Option.bind_some, hat]
  split
  · exact ⟨_, _, rfl, b0, b1, ⟨h.bytes, h.len, by simp only; omega, by simp only; omega⟩⟩
  · rw [shr40, Option.bind_some]
    have := and255 ((IntKind.wrap .u64 ((IntKind.wrap .u64 ((IntKind.wrap .u64 (s.seed * 6364136223846793005)) + (IntKind.wrap .u64 b))) + 1442695040888963407)).fdiv (2 ^ 40))
    exact ⟨_, _, rfl, by rw [w64_id (by omega) (by omega)]; omega, by rw [w64_id (by omega) (by omega)]; omega, ⟨h.bytes, h.len, by simp only; omega, by simp only; omega⟩⟩
theorem pick_ok {B : Int} {s : GL00Src} (h : SrcOk B s) (hB : B ≤ 4611686018427387000) (n : Int) : ∃ v s', spec_l00Src_pick s n = some (v, s') ∧ 0 ≤ v ∧ (v = 0 ∨ v < n) ∧ SrcOk (B + 2) s' := by
  unfold spec_l00Src_pick
  by_cases hn : n ≤ 1
  · rw [if_pos hn]; exact ⟨0, s, rfl, by omega, .inl rfl, h.mono (by omega)⟩
  · rw [if_neg hn]
    obtain ⟨v, s1, e1, v0, v1, k1⟩ := next_ok h (by omega)
    rw [e1, Option.bind_some]
    by_cases h2 : n > 200
    · rw [if_pos h2]
      obtain ⟨u, s2, e2, u0, u1, k2⟩ := next_ok k1 (by omega)
      simp only
      rw [e2, Option.bind_some, mod_ok (by omega), Option.bind_some, w64_id (n := v * 256) (by omega) (by omega), w64_id (by simp only; omega) (by simp only; omega)]
      have e : (v * 256 + u).tmod n = (v * 256 + u) % n := Int.tmod_eq_emod_of_nonneg (by omega)
      refine ⟨_, _, rfl, ?_, ?_, by rw [show B + 2 = B + 1 + 1 by omega]; exact k2⟩
      · simp only [e]; exact Int.emod_nonneg _ (by omega)
      · simp only [e]; right; exact Int.emod_lt_of_pos _ (by omega)
    · rw [if_neg h2, mod_ok (by omega), Option.bind_some]
      simp only
      have e : v.tmod n = v % n := Int.tmod_eq_emod_of_nonneg (by omega)
      refine ⟨_, _, rfl, ?_, ?_, k1.mono (by omega)⟩
      · rw [e]; exact Int.emod_nonneg _ (by omega)
      · rw [e]; right; exact Int.emod_lt_of_pos _ (by omega)
theorem a2Long_eq (a b : List Int) : ∃ r, laws_a2Long a b = some r ∧ (r = false → a.length ≤ 3000 ∧ b.length ≤ 3000) := by
  unfold laws_a2Long
  split
  · exact ⟨true, rfl, by simp⟩
  · exact ⟨_, rfl, by simp; omega⟩
/-- a number off a byte -/
theorem a2At_ok {code : List Int} (h : okL (okI .u8) code) (hl : code.length ≤ 3000) {i n : Int} (hi : 0 ≤ i) (hn : 1 ≤ n) : ∃ v, laws_a2At code i n = some v ∧ 0 ≤ v ∧ v < n := by
  unfold laws_a2At
  by_cases h1 : i ≥ (code.length : Int)
  · rw [if_pos h1]; exact ⟨0, rfl, by omega, by omega⟩
  · rw [if_neg h1, Option.bind_some]
    have h2 : ¬ n < 1 := by omega
    simp only [h2, decide_false, Bool.false_eq_true, if_false]
    rw [at_ok hi (by omega), Option.bind_some, mod_ok (by omega), Option.bind_some]
    obtain ⟨g1, g2⟩ := okU8 (h.2 code[i.toNat] (List.getElem_mem (by omega)))
    rw [w64_id (by omega) (by omega)]
    have e : (code[i.toNat]'(by omega)).tmod n = (code[i.toNat]'(by omega)) % n := Int.tmod_eq_emod_of_nonneg g1
    exact ⟨_, rfl, by rw [e]; exact Int.emod_nonneg _ (by omega), by rw [e]; exact Int.emod_lt_of_pos _ (by omega)⟩
end Go.Vs.G

namespace Go.Vs.G
open Go Go.Vs

theorem mul_bd {a b A B : Int} (h1 : -A ≤ a) (h2 : a ≤ A) (h3 : -B ≤ b) (h4 : b ≤ B) : -(A * B) ≤ a * b ∧ a * b ≤ A * B := by
  have ha : a.natAbs ≤ A.natAbs := by omega
  have hb : b.natAbs ≤ B.natAbs := by omega
  have := Nat.mul_le_mul ha hb
  rw [← Int.natAbs_mul, ← Int.natAbs_mul] at this
  have h5 : 0 ≤ A * B := Int.mul_nonneg (by omega) (by omega)
  omega
end Go.Vs.G

namespace Go.Vs.G
open Go Go.Vs

/-- the picture that is nearest -/
def nst (p s k : Int) : Int := (2 * k * p + s) / (2 * s)
theorem nst_nonneg {p s k : Int} (hs : 1 ≤ s) (hk : 0 ≤ k) (hp : 0 ≤ p) : 0 ≤ nst p s k := by
  unfold nst
  have : 0 ≤ 2 * k * p := Int.mul_nonneg (by omega) hp
  exact Int.ediv_nonneg (by omega) (by omega)
theorem nst_le {p s k : Int} (hs : 1 ≤ s) (hk : 0 ≤ k) (hp : 0 ≤ p) : nst p s k ≤ 2 * k * p + s := by
  have : 0 ≤ 2 * k * p := Int.mul_nonneg (by omega) hp
  exact Int.ediv_le_self _ (by omega)
theorem kp_le {k p : Int} (hk : 0 ≤ k) (hk2 : k ≤ 1000000) (hp : 0 ≤ p) (hp2 : p ≤ 48) : 0 ≤ 2 * k * p ∧ 2 * k * p ≤ 96000000 := by
  have := mul_bd (a := 2 * k) (b := p) (A := 2000000) (B := 48) (by omega) (by omega) (by omega) hp2
  exact ⟨Int.mul_nonneg (by omega) hp, by omega⟩
end Go.Vs.G

namespace Go.Vs.G
open Go Go.Vs

theorem ofNat8 (n : Nat) : (UInt8.ofNat n).toNat = n % 256 := by simp
def lett (l : List UInt8) : Prop := ∀ c ∈ l, 97 ≤ c.toNat ∧ c.toNat ≤ 122
theorem isLetters_ok {l : List UInt8} {n : Int} (h : lett l) (h1 : 1 ≤ l.length) (h2 : (l.length : Int) ≤ n) (h3 : l.length < 9223372036854775807) : impl_isLetters l n = some true := by
  refine eq_of_wp ?_
  unfold impl_isLetters
  refine wp_loop (fun t : Int => ∃ k : Nat, t = (k : Int) ∧ k ≤ l.length) (fun t => (l.length - t).toNat) ⟨0, rfl, by omega⟩ (by omega) ?_
  rintro i ⟨k, rfl, hk⟩
  refine wp_ite (fun h4 => ?_) (fun h4 => ?_)
  · have hk2 : k < l.length := by omega
    have hc := h _ (List.getElem_mem hk2)
    rw [at_of hk2]
    simp only [Option.bind_some]
    rw [if_neg (by omega)]
    simp only [Option.bind_some]
    rw [if_neg (by simp; omega), w64_succ hk2 h3]
    exact wp_some ⟨⟨k + 1, rfl, by omega⟩, by omega⟩
  · refine wp_some ?_
    rw [if_pos (by omega)]
    exact wp_some (by simp [h2])
theorem ValidMotion_ok {l : List UInt8} (h : lett l) (h1 : 1 ≤ l.length) (h2 : l.length ≤ 24) : impl_ValidMotion l = some true := by
  unfold impl_ValidMotion
  rw [isLetters_ok h h1 (by omega) (by omega)]; rfl
/-- the place that is seen -/
def og (P s : Int) (k : Nat) : Nat := (nst P s k % P).toNat
theorem og_lt {P s : Int} (hP : 1 ≤ P) (k : Nat) : (og P s k : Int) < P := by
  unfold og
  have m0 := Int.emod_nonneg (nst P s k) (b := P) (by omega)
  have m1 := Int.emod_lt_of_pos (nst P s k) (b := P) (by omega)
  omega
theorem og_eq {P s : Int} (hP : 1 ≤ P) (k : Nat) : nst P s k % P = (og P s k : Int) := by
  unfold og
  have m0 := Int.emod_nonneg (nst P s k) (b := P) (by omega)
  omega
def mot (d : List UInt8) (s : Int) : List UInt8 := tab (fun k => d.getD (og d.length s k) 0) s.toNat
theorem mot_length {d : List UInt8} {s : Int} (hs : 1 ≤ s) : ((mot d s).length : Int) = s := by simp [mot]; omega
theorem getD_mem {d : List UInt8} {i : Nat} (h : i < d.length) : d.getD i 0 ∈ d := by
  rw [List.getD_eq_getElem?_getD, List.getElem?_eq_getElem h]; exact List.getElem_mem h
theorem mot_lett {d : List UInt8} {s : Int} (h : lett d) (h1 : 1 ≤ d.length) : lett (mot d s) := by
  intro c hc
  unfold mot tab at hc
  rw [List.mem_map] at hc
  obtain ⟨k, _, rfl⟩ := hc
  exact h _ (getD_mem (by have := og_lt (P := d.length) (s := s) (by omega) k; omega))
theorem b2s_tab (f : Nat → Int) (n : Nat) : b2s (tab f n) = tab (fun i => UInt8.ofNat (f i).toNat) n := by
  unfold b2s tab; rw [List.map_map]; rfl
theorem b2s_tab8 (f : Nat → UInt8) (n : Nat) : b2s (tab (fun i => ((f i).toNat : Int)) n) = tab f n := by
  rw [b2s_tab]; refine tab_congr fun i _ => ?_
  rw [Int.toNat_natCast]; exact UInt8.ofNat_toNat
theorem at_getD {d : List UInt8} {i : Nat} (h : i < d.length) : at? d (i : Int) = some (d.getD i 0) := by
  rw [at_of h, List.getD_eq_getElem?_getD, List.getElem?_eq_getElem h]; rfl
/- the reference's -/
theorem l03Seen_eq {p s k : Int} (hp : 1 ≤ p) (hp2 : p ≤ 48) (hs : 1 ≤ s) (hs2 : s ≤ 48) (hk : 0 ≤ k) (hk2 : k ≤ 1000000) : spec_l03Seen p s k = some (nst p s k % p) := by
  have hb := kp_le hk hk2 (p := p) (by omega) hp2
  have h1 := nst_nonneg hs hk (p := p) (by omega)
  have h2 := nst_le hs hk (p := p) (by omega)
  have e2 : 2 * k * p = 2 * (k * p) := Int.mul_assoc ..
  have key : spec_l00Floor (2 * (k * p) + s) (2 * s) = some (nst p s k) := by
    unfold spec_l00Floor
    rw [div_ok (by omega), Option.bind_some, mod_ok (by omega), Option.bind_some, Int.tmod_eq_emod_of_nonneg (by omega), Int.tdiv_eq_ediv_of_nonneg (by omega)]
    have := Int.emod_nonneg (2 * (k * p) + s) (b := 2 * s) (by omega)
    rw [if_neg (by omega)]
    congr 1
    rw [← e2]
    exact w64_id (n := nst p s k) (by omega) (by omega)
  unfold spec_l03Seen spec_l03Near spec_l00Round
  rw [w64_id (n := k * p) (by omega) (by omega), w64_id (n := 2 * (k * p)) (by omega) (by omega), w64_id (n := 2 * (k * p) + s) (by omega) (by omega), w64_id (n := 2 * s) (by omega) (by omega), key]
  simp only [Option.bind_some]
  rw [mod_ok (by omega), Option.bind_some, Int.tmod_eq_emod_of_nonneg h1]
theorem l06Motion_eq {d : List UInt8} {s : Int} (h1 : 1 ≤ d.length) (h2 : d.length ≤ 24) (hs : 1 ≤ s) (hs2 : s ≤ 24) : spec_l06Motion d s = some (mot d s) := by
  refine eq_of_wp ?_
  unfold spec_l06Motion
  refine wp_loop (fun t : List Int × Int => ∃ k : Nat, t.2 = (k : Int) ∧ (k : Int) ≤ s ∧ t.1 = tab (fun k => ((d.getD (og d.length s k) 0).toNat : Int)) k) (fun t => (s - t.2).toNat) ⟨0, rfl, by omega, rfl⟩ (by simp; omega) ?_
  rintro ⟨a, i⟩ ⟨k, rfl, hk, rfl⟩
  simp only
  refine wp_ite (fun h3 => ?_) (fun h3 => ?_)
  · have hog := og_lt (P := d.length) (s := s) (by omega) k
    rw [l03Seen_eq (by omega) (by omega) hs (by omega) (by omega) (by omega), Option.bind_some, og_eq (by omega), at_getD (by omega), Option.bind_some, app_ok (by simp; omega), Option.bind_some, w64_id (by omega) (by omega)]
    exact wp_some ⟨⟨k + 1, rfl, by omega, tab_succ.symm⟩, by simp only; omega⟩
  · refine wp_some (wp_some ?_)
    rw [b2s_tab8]
    unfold mot
    rw [show s.toNat = k by omega]
theorem A2Motion_ok {code : List Int} (h : okL (okI .u8) code) (hl : code.length ≤ 3000) : ∃ d, spec_A2Motion code = some d ∧ lett d ∧ 1 ≤ d.length ∧ d.length ≤ 12 := by
  have key : wp (spec_l06Draw (GL00Src.mk code 0 0)) (fun r => lett r.1 ∧ 1 ≤ r.1.length ∧ r.1.length ≤ 12) := by
    unfold spec_l06Draw
    obtain ⟨v1, s1, e1, a1, b1, k1⟩ := pick_ok (srcOk_from h (by omega)) (by omega) 6
    rw [e1, Option.bind_some]
    simp only
    rw [w64_id (by omega) (by omega)]
    refine wp_loop (fun t : GL00Src × List Int × Int => ∃ B : Int, SrcOk B t.1 ∧ B + 2 * t.2.2 = 2 + 2 * (1 + v1) ∧ 0 ≤ t.2.2 ∧ t.2.2 ≤ 1 + v1 ∧ ((t.2.1.length : Int) = 1 + v1 - t.2.2) ∧ (∀ c ∈ t.2.1, 97 ≤ c ∧ c ≤ 122)) (fun t => t.2.2.toNat) ⟨2, k1, rfl, by simp only; omega, by simp only; omega, by simp, by simp⟩ (by simp only; omega) ?_
    rintro ⟨s2, a, k⟩ ⟨B, j1, j2, j3, j4, j5, j6⟩
    simp only at j1 j2 j3 j4 j5 j6 ⊢
    refine wp_ite (fun h => ?_) (fun h => ?_)
    · obtain ⟨v2, s3, e2, a2, b2, k2⟩ := pick_ok j1 (by omega) 3
      rw [e2, Option.bind_some]
      simp only
      have hc : ∃ c, at? ([97, 98, 99] : List UInt8) v2 = some c ∧ 97 ≤ (c.toNat : Int) ∧ (c.toNat : Int) ≤ 122 := by
        have : v2 = 0 ∨ v2 = 1 ∨ v2 = 2 := by omega
        rcases this with rfl | rfl | rfl
        · exact ⟨97, rfl, by decide, by decide⟩
        · exact ⟨98, rfl, by decide, by decide⟩
        · exact ⟨99, rfl, by decide, by decide⟩
      obtain ⟨c, hc, c1, c2⟩ := hc
      rw [hc, Option.bind_some, app_ok (by simp; omega), Option.bind_some, w64_id (by omega) (by omega)]
      refine wp_some ⟨⟨B + 2, k2, by simp only; omega, by simp only; omega, by simp only; omega, by simp; omega, ?_⟩, by simp only; omega⟩
      intro x hx
      rw [List.mem_append] at hx
      rcases hx with hx | hx
      · exact j6 x hx
      · simp at hx; subst hx; exact ⟨c1, c2⟩
    · refine wp_some ?_
      simp only
      obtain ⟨v3, s3, e3, a3, b3, k3⟩ := pick_ok j1 (by omega) 4
      rw [e3, Option.bind_some]
      simp only
      have hbl : (b2s a).length = a.length := by simp [b2s]
      have hlet : lett (b2s a) := by
        intro c hc
        unfold b2s at hc
        rw [List.mem_map] at hc
        obtain ⟨n, hn, rfl⟩ := hc
        have := j6 n hn
        rw [ofNat8]; omega
      refine wp_ite (fun h => ?_) (fun h => ?_)
      · rw [app_ok (by omega), Option.bind_some]
        refine wp_some ⟨?_, by simp; omega, by simp; omega⟩
        intro c hc
        rw [List.mem_append] at hc
        rcases hc with hc | hc <;> exact hlet c hc
      · refine wp_ite (fun h => ?_) (fun h => ?_)
        · obtain ⟨v4, s4, e4, a4, b4, k4⟩ := pick_ok k3 (by omega) 12
          rw [e4, Option.bind_some]
          simp only
          rw [w64_id (by omega) (by omega), l06Motion_eq (by omega) (by omega) (by omega) (by omega), Option.bind_some]
          have hml := mot_length (d := b2s a) (s := 1 + v4) (by omega)
          exact wp_some ⟨mot_lett hlet (by omega), by simp only; omega, by simp only; omega⟩
        · exact wp_some ⟨hlet, by simp only; omega, by simp only; omega⟩
  obtain ⟨⟨d, s⟩, h1, h2, h3, h4⟩ := key
  unfold spec_A2Motion
  rw [l00From_eq, Option.bind_some, h1]
  exact ⟨d, rfl, h2, h3, h4⟩
end Go.Vs.G

namespace Go.Vs.G
open Go Go.Vs

/- the order of texts -/
theorem bl_irr : ∀ a : List UInt8, Op.bytesLess a a = false
  | [] => rfl
  | c :: a => by simp [Op.bytesLess, bl_irr a]
theorem bl_trans : ∀ {a b c : List UInt8}, Op.bytesLess a b = true → Op.bytesLess b c = true → Op.bytesLess a c = true
  | _, [], _, h, _ => by simp [Op.bytesLess] at h
  | _, _ :: _, [], _, h => by simp [Op.bytesLess] at h
  | [], _ :: _, _ :: _, _, _ => rfl
  | x :: a, y :: b, z :: c, h1, h2 => by
    simp only [Op.bytesLess, Bool.or_eq_true, Bool.and_eq_true, decide_eq_true_eq, beq_iff_eq] at h1 h2 ⊢
    rcases h1 with h1 | ⟨rfl, h1⟩
    · rcases h2 with h2 | ⟨rfl, h2⟩
      · exact .inl (UInt8.lt_trans h1 h2)
      · exact .inl h1
    · rcases h2 with h2 | ⟨rfl, h2⟩
      · exact .inl h2
      · exact .inr ⟨rfl, bl_trans h1 h2⟩
theorem bl_total : ∀ a b : List UInt8, Op.bytesLess a b = true ∨ a = b ∨ Op.bytesLess b a = true
  | [], [] => .inr (.inl rfl)
  | [], _ :: _ => .inl rfl
  | _ :: _, [] => .inr (.inr rfl)
  | x :: a, y :: b => by
    simp only [Op.bytesLess, Bool.or_eq_true, Bool.and_eq_true, decide_eq_true_eq, beq_iff_eq, List.cons.injEq]
    by_cases h : x = y
    · subst h
      rcases bl_total a b with h | h | h
      · exact .inl (.inr ⟨rfl, h⟩)
      · exact .inr (.inl ⟨rfl, h⟩)
      · exact .inr (.inr (.inr ⟨rfl, h⟩))
    · have : x.toNat ≠ y.toNat := fun e => h (UInt8.toNat_inj.1 e)
      rcases Nat.lt_or_ge x.toNat y.toNat with h2 | h2
      · exact .inl (.inl (UInt8.lt_iff_toNat_lt.2 h2))
      · exact .inr (.inr (.inl (UInt8.lt_iff_toNat_lt.2 (by omega))))
def ble (a b : List UInt8) : Prop := Op.bytesLess a b = true ∨ a = b
theorem ble_refl (a : List UInt8) : ble a a := .inr rfl
theorem ble_trans {a b c : List UInt8} (h1 : ble a b) (h2 : ble b c) : ble a c := by
  rcases h1 with h1 | rfl
  · rcases h2 with h2 | rfl
    · exact .inl (bl_trans h1 h2)
    · exact .inl h1
  · exact h2
theorem ble_anti {a b : List UInt8} (h1 : ble a b) (h2 : ble b a) : a = b := by
  rcases h1 with h1 | rfl
  · rcases h2 with h2 | rfl
    · have := bl_trans h1 h2; rw [bl_irr] at this; cases this
    · rfl
  · rfl
theorem ble_b {a b : List UInt8} : (Op.bytesLess a b || a == b) = true ↔ ble a b := by simp [ble]
theorem smin_or (a b : List UInt8) : smin a b = a ∨ smin a b = b := by unfold smin; split <;> simp
theorem smin_l (a b : List UInt8) : ble (smin a b) a := by
  unfold smin; split
  · exact ble_refl a
  · rename_i h
    rcases bl_total a b with h2 | h2 | h2
    · exact absurd (ble_b.2 (.inl h2)) h
    · exact absurd (ble_b.2 (.inr h2)) h
    · exact .inl h2
theorem smin_r (a b : List UInt8) : ble (smin a b) b := by
  unfold smin; split
  · rename_i h; exact ble_b.1 h
  · exact ble_refl b
/- turned texts -/
def rot (l : List UInt8) (k : Nat) : List UInt8 := l.drop k ++ l.take k
theorem rot_len {l : List UInt8} {k : Nat} : (rot l k).length = l.length := by simp [rot]; omega
theorem rot_get {l : List UInt8} {k i : Nat} (hi : i < l.length) (hk : k < l.length) : (rot l k)[i]? = l[(i + k) % l.length]? := by
  unfold rot
  rw [List.getElem?_append]
  simp only [List.length_drop]
  split
  · rw [List.getElem?_drop, Nat.mod_eq_of_lt (by omega), Nat.add_comm]
  · rw [List.getElem?_take]
    have e : (i + k) % l.length = i - (l.length - k) := by
      rw [Nat.mod_eq_sub_mod (by omega), Nat.mod_eq_of_lt (by omega)]; omega
    rw [e, if_pos (by omega)]
theorem rot_zero (l : List UInt8) : rot l 0 = l := by simp [rot]
theorem rot_rot {l : List UInt8} {a b : Nat} (ha : a < l.length) (hb : b < l.length) : rot (rot l a) b = rot l ((a + b) % l.length) := by
  have hm : (a + b) % l.length < l.length := Nat.mod_lt _ (by omega)
  apply List.ext_getElem?
  intro i
  by_cases hi : i < l.length
  · rw [rot_get (by rw [rot_len]; exact hi) (by rw [rot_len]; exact hb), rot_len, rot_get (Nat.mod_lt _ (by omega)) ha, rot_get hi hm]
    congr 1
    simp only [Nat.add_mod_mod, Nat.mod_add_mod]
    congr 1; omega
  · rw [List.getElem?_eq_none (by rw [rot_len, rot_len]; omega), List.getElem?_eq_none (by rw [rot_len]; omega)]
theorem rot_lett {l : List UInt8} (h : lett l) (k : Nat) : lett (rot l k) := by
  intro c hc
  unfold rot at hc
  rcases List.mem_append.1 hc with hc | hc
  · exact h c (List.mem_of_mem_drop hc)
  · exact h c (List.mem_of_mem_take hc)
theorem turned_eq {l : List UInt8} {k : Nat} (hk : k ≤ l.length) (hl : l.length ≤ 1000) : impl_turned l (k : Int) = some (rot l k) := by
  unfold impl_turned
  rw [sub_ok (by omega) (by omega) (by omega), Option.bind_some, sub_ok (by omega) (by omega) (by omega), Option.bind_some, app_ok (by simp; omega)]
  simp [rot]
theorem l06Turned_eq {l : List UInt8} {k : Nat} (hk : k ≤ l.length) (hl : l.length ≤ 1000) : spec_l06Turned l (k : Int) = some (rot l k) := by
  unfold spec_l06Turned
  rw [sub_ok (by omega) (by omega) (by omega), Option.bind_some, sub_ok (by omega) (by omega) (by omega), Option.bind_some, app_ok (by simp; omega)]
  simp [rot]
theorem nxt_ok {l : List UInt8} (h : lett l) {k : Nat} (hk : k < l.length) : nxt? l k = some ((l[k].toNat : Int)) := by
  have := (h _ (List.getElem_mem hk)).2
  unfold nxt?
  rw [List.getElem?_eq_getElem hk, Option.bind_some, if_pos (by omega)]
theorem PeriodOf_ok {l : List UInt8} (h : lett l) (h1 : 1 ≤ l.length) (h2 : l.length ≤ 24) :
    ∃ p : Nat, impl_PeriodOf l = some ((p : Int), 0) ∧ 1 ≤ p ∧ p ≤ l.length ∧ l.length % p = 0 ∧ rot l (p % l.length) = l ∧ ∀ m, 1 ≤ m → m < p → l.length % m = 0 → rot l m ≠ l := by
  have key : wp (impl_PeriodOf l) (fun r => ∃ p : Nat, r = ((p : Int), 0) ∧ 1 ≤ p ∧ p ≤ l.length ∧ l.length % p = 0 ∧ rot l (p % l.length) = l ∧ ∀ m, 1 ≤ m → m < p → l.length % m = 0 → rot l m ≠ l) := by
    unfold impl_PeriodOf
    rw [ValidMotion_ok h h1 h2, Option.bind_some, if_pos rfl]
    refine wp_loop (fun t : Int => ∃ k : Nat, t = (k : Int) ∧ 1 ≤ k ∧ k ≤ l.length ∧ ∀ m, 1 ≤ m → m < k → l.length % m = 0 → rot l m ≠ l) (fun t => (l.length - t).toNat) ⟨1, rfl, by omega, h1, fun m h3 h4 => by omega⟩ (by omega) ?_
    rintro i ⟨k, rfl, k1, k2, k3⟩
    rw [mod_ok (by omega), Option.bind_some, mod_ok (by omega), Option.bind_some]
    have e1 : (l.length : Int).tmod (k : Int) = ((l.length % k : Nat) : Int) := by rw [Int.tmod_eq_emod_of_nonneg (by omega)]; omega
    have e2 : (k : Int).tmod (l.length : Int) = ((k % l.length : Nat) : Int) := by rw [Int.tmod_eq_emod_of_nonneg (by omega)]; omega
    have hm : k % l.length < l.length := Nat.mod_lt _ (by omega)
    rw [e1, e2, turned_eq (by omega) (by omega), Option.bind_some]
    have step : k < l.length → (l.length % k = 0 → rot l k ≠ l) → w64 ((k : Int) + 1) = ((k + 1 : Nat) : Int) ∧ (1 ≤ k + 1 ∧ k + 1 ≤ l.length ∧ ∀ m, 1 ≤ m → m < k + 1 → l.length % m = 0 → rot l m ≠ l) := by
      intro g1 g2
      refine ⟨by rw [w64_id (by omega) (by omega)]; omega, by omega, by omega, fun m m1 m2 m3 => ?_⟩
      rcases Nat.lt_or_ge m k with g3 | g3
      · exact k3 m m1 g3 m3
      · obtain rfl : m = k := by omega
        exact g2 m3
    by_cases hd : l.length % k = 0
    · rw [if_pos (by omega)]
      simp only [Option.bind_some]
      by_cases hr : rot l (k % l.length) = l
      · rw [hr]
        simp only [beq_self_eq_true, Bool.not_true, Bool.false_eq_true, if_false]
        exact wp_some (wp_some ⟨k, rfl, k1, k2, hd, hr, k3⟩)
      · have : (!(rot l (k % l.length) == l)) = true := by simp [hr]
        rw [if_pos this]
        have hk : k < l.length := by
          rcases Nat.lt_or_ge k l.length with h3 | h3
          · exact h3
          · exfalso; apply hr
            rw [show k = l.length by omega, Nat.mod_self, rot_zero]
        obtain ⟨g1, g2⟩ := step hk (fun _ e => hr (by rw [Nat.mod_eq_of_lt hk]; exact e))
        rw [g1]
        exact wp_some ⟨⟨k + 1, rfl, g2⟩, by omega⟩
    · rw [if_neg (by omega)]
      simp only [Option.bind_some, if_true]
      have hk : k < l.length := by
        rcases Nat.lt_or_ge k l.length with h3 | h3
        · exact h3
        · exfalso; apply hd
          rw [show k = l.length by omega, Nat.mod_self]
      obtain ⟨g1, g2⟩ := step hk (fun e => absurd e hd)
      rw [g1]
      exact wp_some ⟨⟨k + 1, rfl, g2⟩, by omega⟩
  obtain ⟨r, e, p, rfl, h3⟩ := key
  exact ⟨p, e, h3⟩
open Classical in
theorem sameMotion_eq {a b : List UInt8} (h : lett a) (h1 : a.length = b.length) (h2 : a.length ≤ 24) : impl_sameMotion a b = some (decide (∃ k, k < a.length ∧ rot a k = b)) := by
  refine eq_of_wp ?_
  unfold impl_sameMotion
  rw [if_pos (by omega)]
  refine wp_loop (fun t : Nat => t ≤ a.length ∧ ∀ k, k < t → rot a k ≠ b) (fun t => a.length - t) ⟨by omega, fun k hk => by omega⟩ (by omega) ?_
  rintro k ⟨k1, k2⟩
  refine wp_ite (fun h3 => ?_) (fun h3 => ?_)
  · rw [nxt_ok h h3, Option.bind_some, turned_eq (by omega) (by omega), Option.bind_some]
    by_cases hr : rot a k = b
    · rw [if_pos (by simp [hr])]
      exact wp_some (wp_some (by rw [decide_eq_true ⟨k, h3, hr⟩]))
    · rw [if_neg (by simp [hr])]
      refine wp_some ⟨⟨by omega, fun m hm => ?_⟩, by omega⟩
      rcases Nat.lt_or_ge m k with g3 | g3
      · exact k2 m g3
      · obtain rfl : m = k := by omega
        exact hr
  · refine wp_some (wp_some ?_)
    rw [decide_eq_false]
    rintro ⟨k3, h4, h5⟩
    exact k2 k3 (by omega) h5
open Classical in
theorem l06Same_eq {a b : List UInt8} (h1 : a.length = b.length) (h2 : a.length ≤ 24) : spec_l06Same a b = some (decide (∃ k, k < a.length ∧ rot a k = b)) := by
  refine eq_of_wp ?_
  unfold spec_l06Same
  rw [if_pos (by omega)]
  refine wp_loop (fun t : Int => ∃ k : Nat, t = (k : Int) ∧ k ≤ a.length ∧ ∀ j, j < k → rot a j ≠ b) (fun t => (a.length - t).toNat) ⟨0, rfl, by omega, fun k hk => by omega⟩ (by omega) ?_
  rintro i ⟨k, rfl, k1, k2⟩
  refine wp_ite (fun h3 => ?_) (fun h3 => ?_)
  · rw [l06Turned_eq (by omega) (by omega), Option.bind_some]
    by_cases hr : rot a k = b
    · rw [if_pos (by simp [hr])]
      exact wp_some (wp_some (by rw [decide_eq_true ⟨k, by omega, hr⟩]))
    · rw [if_neg (by simp [hr]), w64_id (by omega) (by omega)]
      refine wp_some ⟨⟨k + 1, rfl, by omega, fun m hm => ?_⟩, by omega⟩
      rcases Nat.lt_or_ge m k with g3 | g3
      · exact k2 m g3
      · obtain rfl : m = k := by omega
        exact hr
  · refine wp_some (wp_some ?_)
    rw [decide_eq_false]
    rintro ⟨k3, h4, h5⟩
    exact k2 k3 (by omega) h5
theorem l06Ok_ok {l : List UInt8} (h : lett l) (h1 : 1 ≤ l.length) (h2 : l.length ≤ 24) : spec_l06Ok l = some true := by
  refine eq_of_wp ?_
  unfold spec_l06Ok
  refine wp_loop (fun t : Int => ∃ k : Nat, t = (k : Int) ∧ k ≤ l.length) (fun t => (l.length - t).toNat) ⟨0, rfl, by omega⟩ (by omega) ?_
  rintro i ⟨k, rfl, hk⟩
  refine wp_ite (fun h4 => ?_) (fun h4 => ?_)
  · have hk2 : k < l.length := by omega
    have hc := h _ (List.getElem_mem hk2)
    rw [at_of hk2]
    simp only [Option.bind_some]
    rw [if_neg (by omega)]
    simp only [Option.bind_some]
    rw [if_neg (by simp; omega), w64_succ hk2 (by omega)]
    exact wp_some ⟨⟨k + 1, rfl, by omega⟩, by omega⟩
  · refine wp_some ?_
    unfold spec_l00In
    rw [if_pos (by omega)]
    exact wp_some (by simp; omega)
theorem FirstTurn_ok {l : List UInt8} (h : lett l) (h1 : 1 ≤ l.length) (h2 : l.length ≤ 24) :
    ∃ f, impl_FirstTurn l = some (f, 0) ∧ (∃ k, k < l.length ∧ f = rot l k) ∧ ∀ k, k < l.length → ble f (rot l k) := by
  have key : wp (impl_FirstTurn l) (fun r => ∃ f, r = (f, 0) ∧ (∃ k, k < l.length ∧ f = rot l k) ∧ ∀ k, k < l.length → ble f (rot l k)) := by
    unfold impl_FirstTurn
    rw [ValidMotion_ok h h1 h2, Option.bind_some, if_pos rfl]
    refine wp_loop (fun t : List UInt8 × Nat => t.2 ≤ l.length ∧ (∃ k, k < l.length ∧ t.1 = rot l k) ∧ ∀ k, k < t.2 → ble t.1 (rot l k)) (fun t => l.length - t.2) ⟨by simp only; omega, ⟨0, by omega, (rot_zero l).symm⟩, fun k hk => by simp only at hk; omega⟩ (by simp only; omega) ?_
    rintro ⟨a, k⟩ ⟨k1, ⟨j, j1, j2⟩, k2⟩
    simp only at k1 j1 j2 k2 ⊢
    refine wp_ite (fun h3 => ?_) (fun h3 => ?_)
    · rw [nxt_ok h h3, Option.bind_some, turned_eq (by omega) (by omega), Option.bind_some]
      refine wp_some ⟨⟨by simp only; omega, ?_, fun m hm => ?_⟩, by simp only; omega⟩
      · rcases smin_or a (rot l k) with e | e
        · exact ⟨j, j1, by simp only; rw [e, j2]⟩
        · exact ⟨k, h3, e⟩
      · simp only at hm ⊢
        rcases Nat.lt_or_ge m k with g3 | g3
        · exact ble_trans (smin_l _ _) (k2 m g3)
        · obtain rfl : m = k := by omega
          exact smin_r _ _
    · exact wp_some (wp_some ⟨a, rfl, ⟨j, j1, j2⟩, fun m hm => k2 m (by omega)⟩)
  obtain ⟨r, e, f, rfl, h3⟩ := key
  exact ⟨f, e, h3⟩
/-- the library's Reverse -/
theorem Reverse8_eq {l : List Int} (hl : l.length ≤ 1000000) : slices_Reverse_byte_byte_833 l = some l.reverse := by
  refine eq_of_wp ?_
  unfold slices_Reverse_byte_byte_833
  rw [w64_id (by omega) (by omega)]
  let n := l.length
  let f : Nat → Nat → Int := fun k i => if i < k ∨ n ≤ i + k then l.getD (n - 1 - i) 0 else l.getD i 0
  refine wp_loop (fun t : List Int × Int × Int => ∃ k : Nat, 2 * k ≤ n + 1 ∧ t = (tab (f k) n, (k : Int), (n : Int) - 1 - k)) (fun t => (n - t.2.1).toNat) ⟨0, by omega, ?_⟩ (by simp only; omega) ?_
  · congr 1
    · conv => lhs; rw [eq_tab l 0]
      refine tab_congr fun i hi => ?_
      show _ = if _ then _ else _
      rw [if_neg (by omega)]
    · simp [n]
  · rintro ⟨a, i, j⟩ ⟨k, k1, hk⟩
    cases hk
    simp only
    refine wp_ite (fun h => ?_) (fun h => ?_)
    · rw [tab_at (by omega) (by omega), Option.bind_some, tab_at (by omega) (by omega), Option.bind_some, Option.bind_some]
      have ek : (k : Int).toNat = k := by omega
      have ej : ((n : Int) - 1 - k).toNat = n - 1 - k := by omega
      rw [ek, ej, tab_set, tab_at (by omega) (by omega), Option.bind_some, tab_set, w64_id (by omega) (by omega), w64_id (by omega) (by omega)]
      refine wp_some ⟨⟨k + 1, by omega, ?_⟩, by simp only; omega⟩
      congr 1
      · refine tab_congr fun x hx => ?_
        simp only [f]
        by_cases x1 : x = n - 1 - k
        · rw [if_pos x1, if_neg (by omega), if_pos (by omega)]; congr 1; omega
        · rw [if_neg x1]
          by_cases x2 : x = k
          · subst x2
            rw [if_pos rfl, if_neg (by omega), if_pos (by omega)]
          · rw [if_neg x2]
            by_cases x3 : x < k ∨ n ≤ x + k
            · rw [if_pos x3, if_pos (by omega)]
            · rw [if_neg x3, if_neg (by omega)]
      · congr 1; omega
    · refine wp_some (wp_some ?_)
      apply List.ext_getElem?
      intro x
      by_cases hx : x < n
      · rw [tab_get hx, List.getElem?_reverse hx]
        simp only [f]
        have hn : n - 1 - x < l.length := by omega
        by_cases x3 : x < k ∨ n ≤ x + k
        · rw [if_pos x3, List.getD_eq_getElem?_getD, List.getElem?_eq_getElem hn]; rfl
        · rw [if_neg x3]
          have : x = n - 1 - x := by omega
          rw [List.getD_eq_getElem?_getD, ← this, List.getElem?_eq_getElem hx]; rfl
      · rw [List.getElem?_eq_none (by simp; omega), List.getElem?_eq_none (by simp; omega)]
theorem reversed_eq {l : List UInt8} (h : l.length ≤ 24) : impl_reversed l = some l.reverse := by
  unfold impl_reversed
  rw [s2b_ok (by omega), Option.bind_some, Reverse8_eq (by simp; omega), Option.bind_some]
  congr 1
  simp only [b2s, ← List.map_reverse, List.map_map]
  conv => rhs; rw [← List.map_id l.reverse]
  refine List.map_congr_left fun c _ => ?_
  simp
theorem BackMotion_eq {l : List UInt8} (h : lett l) (h1 : 1 ≤ l.length) (h2 : l.length ≤ 24) : impl_BackMotion l = some (l.reverse, 0) := by
  unfold impl_BackMotion
  rw [ValidMotion_ok h h1 h2, Option.bind_some, if_pos rfl, reversed_eq h2]; rfl
theorem rev_lett {l : List UInt8} (h : lett l) : lett l.reverse := fun c hc => h c (by simpa using hc)
/-- how many letters differ from the next one -/
def chn (l : List UInt8) : Nat → Nat
  | 0 => 0
  | k + 1 => chn l k + if l.getD k 0 = l.getD ((k + 1) % l.length) 0 then 0 else 1
theorem chn_le (l : List UInt8) : ∀ k, chn l k ≤ k
  | 0 => Nat.le_refl _
  | k + 1 => by have := chn_le l k; rw [chn]; split <;> omega
theorem at_g8 {l : List UInt8} {k : Nat} (hk : k < l.length) : at? l (k : Int) = some (l.getD k 0) := by
  rw [at_of hk]; simp [List.getD, List.getElem?_eq_getElem hk]
theorem toNat_eq {a b : UInt8} : ((a.toNat : Int) = (b.toNat : Int)) ↔ a = b := by
  constructor
  · intro h; exact UInt8.toNat_inj.1 (by omega)
  · rintro rfl; rfl
theorem tm {a n : Nat} : (a : Int).tmod (n : Int) = ((a % n : Nat) : Int) := rfl
theorem ChangesIn_eq {l : List UInt8} (h : lett l) (h1 : 1 ≤ l.length) (h2 : l.length ≤ 24) : impl_ChangesIn l = some ((chn l l.length : Int), 0) := by
  refine eq_of_wp ?_
  unfold impl_ChangesIn
  rw [ValidMotion_ok h h1 h2, Option.bind_some, if_pos rfl]
  refine wp_loop (fun t : Int × Int => ∃ k : Nat, k ≤ l.length ∧ t = ((chn l k : Int), (k : Int))) (fun t => (l.length - t.2).toNat) ⟨0, by omega, rfl⟩ (by simp only; omega) ?_
  rintro ⟨a, i⟩ ⟨k, k1, hk⟩
  cases hk
  simp only
  refine wp_ite (fun h3 => ?_) (fun h3 => ?_)
  · have hm : (k + 1) % l.length < l.length := Nat.mod_lt _ (by omega)
    have e2 : ((k : Int) + 1).tmod (l.length : Int) = (((k + 1) % l.length : Nat) : Int) := tm (a := k + 1)
    have hc := chn_le l k
    rw [at_g8 (by omega), Option.bind_some, w64_id (by omega) (by omega), mod_ok (by omega), Option.bind_some, e2, at_g8 hm, Option.bind_some]
    simp only [toNat_eq]
    refine wp_ite (fun h4 => ?_) (fun h4 => ?_)
    · exact wp_some ⟨⟨k + 1, by omega, by rw [chn, if_pos h4]; rfl⟩, by simp only; omega⟩
    · rw [w64_id (by omega) (by omega)]
      exact wp_some ⟨⟨k + 1, by omega, by rw [chn, if_neg h4]; rfl⟩, by simp only; omega⟩
  · rw [show k = l.length by omega]
    exact wp_some (wp_some rfl)
theorem impl_SameMotion_eq {a b : List UInt8} {q : Bool} (ha : lett a) (hb : lett b) (h1 : 1 ≤ a.length) (h2 : a.length ≤ 24) (h3 : 1 ≤ b.length) (h4 : b.length ≤ 24) (h : impl_sameMotion a b = some q) : impl_SameMotion a b = some (q, 0) := by
  unfold impl_SameMotion
  rw [ValidMotion_ok ha h1 h2]
  simp only [Option.bind_some, if_true]
  rw [ValidMotion_ok hb h3 h4]
  simp only [Option.bind_some, Bool.not_true, Bool.false_eq_true, if_false]
  rw [h]; rfl
theorem laws_FnMotions_true {code more : List Int} (h1 : okL (okI .u8) code) (h2 : okL (okI .u8) more) : laws_FnMotions code more = some true := by
  refine eq_of_wp ?_
  unfold laws_FnMotions
  obtain ⟨r, hr, hr2⟩ := a2Long_eq code more
  rw [hr, Option.bind_some]
  refine wp_ite (fun h => wp_some rfl) (fun h => ?_)
  obtain ⟨l1, l2⟩ := hr2 (by simpa using h)
  obtain ⟨d, hd, d1, d2, d3⟩ := A2Motion_ok h1 l1
  obtain ⟨q, hq, q1, q2⟩ := a2At_ok h2 l2 (i := 0) (n := (d.length : Int)) (by omega) (by omega)
  rw [hd, Option.bind_some, hq, Option.bind_some]
  obtain ⟨a, rfl⟩ : ∃ a : Nat, q = (a : Int) := ⟨q.toNat, by omega⟩
  rw [sub_ok (by omega) (by omega) (by omega), Option.bind_some, sub_ok (by omega) (by omega) (by omega), Option.bind_some, app_ok (by simp; omega), Option.bind_some]
  have et : List.drop ((a : Int).toNat) (List.take ((d.length : Int).toNat) d) ++ List.drop ((0 : Int).toNat) (List.take ((a : Int).toNat) d) = rot d a := by simp [rot]
  rw [et]
  have hal : a < d.length := by omega
  have hrl : (rot d a).length = d.length := rot_len
  obtain ⟨p, p1, p2, p3, p4, p5, p6⟩ := PeriodOf_ok d1 d2 (by omega)
  have s1 := sameMotion_eq (b := rot d a) d1 hrl.symm (by omega)
  rw [decide_eq_true ⟨a, hal, rfl⟩] at s1
  obtain ⟨f, f1, ⟨j, f2, f3⟩, f4⟩ := FirstTurn_ok d1 d2 (by omega)
  obtain ⟨g, g1, ⟨i, g2, g3⟩, g4⟩ := FirstTurn_ok (rot_lett d1 a) (by omega) (by omega)
  have hfg : f = g := by
    refine ble_anti ?_ ?_
    · rw [g3, rot_rot hal (by omega)]
      exact f4 _ (Nat.mod_lt _ (by omega))
    · have := g4 ((j + (d.length - a)) % d.length) (by rw [hrl]; exact Nat.mod_lt _ (by omega))
      rw [rot_rot hal (Nat.mod_lt _ (by omega))] at this
      have e : (a + (j + (d.length - a)) % d.length) % d.length = j := by
        rw [Nat.add_mod_mod, show a + (j + (d.length - a)) = j + d.length by omega, Nat.add_mod_right, Nat.mod_eq_of_lt f2]
      rw [e, ← f3] at this
      exact this
  have b1 := BackMotion_eq d1 d2 (by omega)
  have hrevl : d.reverse.length = d.length := by simp
  have b2 := BackMotion_eq (rev_lett d1) (by omega) (by omega)
  rw [List.reverse_reverse] at b2
  have b3 := sameMotion_eq (b := d.reverse) d1 hrevl.symm (by omega)
  have b4 : ∃ q, impl_sameMotion d d.reverse = some q ∧ impl_LooksBack d = some (q, 0) := by
    refine ⟨_, b3, ?_⟩
    unfold impl_LooksBack
    rw [ValidMotion_ok d1 d2 (by omega), Option.bind_some, if_pos rfl, reversed_eq (by omega), Option.bind_some, b3]; rfl
  obtain ⟨q4, b3, b4⟩ := b4
  have hf : lett f := by rw [f3]; exact rot_lett d1 j
  have hfl : f.length = d.length := by rw [f3]; exact rot_len
  have s2 : spec_SameMotion d f = some (true, 0) := by
    unfold spec_SameMotion
    rw [l06Ok_ok d1 d2 (by omega)]
    simp only [Option.bind_some, if_true]
    rw [l06Ok_ok hf (by omega) (by omega)]
    simp only [Option.bind_some, Bool.not_true, Bool.false_eq_true, if_false]
    rw [l06Same_eq hfl.symm (by omega), decide_eq_true ⟨j, f2, f3.symm⟩]; rfl
  rw [p1, Option.bind_some, impl_SameMotion_eq d1 (rot_lett d1 a) d2 (by omega) (by omega) (by omega) s1, Option.bind_some, f1, Option.bind_some, g1, Option.bind_some, b1, Option.bind_some]
  simp only
  rw [b2, Option.bind_some, b4, Option.bind_some, impl_SameMotion_eq d1 (rev_lett d1) d2 (by omega) (by omega) (by omega) b3, Option.bind_some]
  have hfd : (Op.bytesLess f d || f == d) = true := ble_b.2 (by have := f4 0 (by omega); rwa [rot_zero] at this)
  simp only [if_true, hfg.symm, hfd, beq_self_eq_true, Bool.not_true, decide_true]
  have e1 : (d.length : Int).tmod (p : Int) = 0 := by rw [Int.tmod_eq_emod_of_nonneg (by omega)]; omega
  rw [if_neg (by omega), if_neg (by omega), mod_ok (by omega), Option.bind_some, if_pos e1]
  simp only [Option.bind_some, Bool.false_eq_true, if_false]
  rw [s2, Option.bind_some, ChangesIn_eq d1 d2 (by omega), Option.bind_some]
  simp only [if_true, Bool.not_true, decide_true, Option.bind_some, Bool.false_eq_true, if_false]
  refine wp_loop (fun t : Int × Int => ∃ k : Nat, k ≤ d.length ∧ t = ((chn d k : Int), (k : Int))) (fun t => (d.length - t.2).toNat) ⟨0, by omega, rfl⟩ (by simp only; omega) ?_
  rintro ⟨x, y⟩ ⟨k, k1, hk⟩
  cases hk
  simp only
  refine wp_ite (fun h3 => ?_) (fun h3 => ?_)
  · have hm : (k + 1) % d.length < d.length := Nat.mod_lt _ (by omega)
    have hm2 : (k + p) % d.length < d.length := Nat.mod_lt _ (by omega)
    have e2 : ((k : Int) + 1).tmod (d.length : Int) = (((k + 1) % d.length : Nat) : Int) := tm (a := k + 1)
    have e3 : ((k : Int) + p).tmod (d.length : Int) = (((k + p) % d.length : Nat) : Int) := tm (a := k + p)
    have hc := chn_le d k
    rw [w64_id (by omega) (by omega), mod_ok (by omega), Option.bind_some, e2, at_g8 (by omega), Option.bind_some, at_g8 hm, Option.bind_some]
    have hn : (if ((d.getD k 0).toNat : Int) = ((d.getD ((k + 1) % d.length) 0).toNat : Int) then some (chn d k : Int) else some (w64 ((chn d k : Int) + 1))) = some ((chn d (k + 1) : Nat) : Int) := by
      simp only [toNat_eq]
      rw [chn]
      split
      · rfl
      · rw [w64_id (by omega) (by omega)]; rfl
    rw [hn, Option.bind_some, Option.bind_some, w64_id (by omega) (by omega), mod_ok (by omega), Option.bind_some, e3, at_g8 hm2, Option.bind_some]
    have hper : d.getD k 0 = d.getD ((k + p) % d.length) 0 := by
      have : (rot d (p % d.length))[k]? = d[k]? := by rw [p5]
      rw [rot_get (by omega) (Nat.mod_lt _ (by omega)), Nat.add_mod_mod] at this
      simp only [List.getD_eq_getElem?_getD, this]
    rw [if_pos (by rw [hper])]
    exact wp_some ⟨⟨k + 1, by omega, by congr 1⟩, by simp only; omega⟩
  · refine wp_some ?_
    obtain rfl : k = d.length := by omega
    refine wp_loop (fun t : Int => ∃ m : Nat, t = (m : Int) ∧ 1 ≤ m ∧ m ≤ p) (fun t => (p - t).toNat) ⟨1, rfl, by omega, by omega⟩ (by omega) ?_
    rintro i2 ⟨m, rfl, m1, m2⟩
    refine wp_ite (fun h4 => ?_) (fun h4 => ?_)
    · have e4 : (d.length : Int).tmod (m : Int) = ((d.length % m : Nat) : Int) := by rw [Int.tmod_eq_emod_of_nonneg (by omega)]; omega
      rw [mod_ok (by omega), Option.bind_some, e4]
      have hx : (if ((d.length % m : Nat) : Int) = 0 then (sub? d (m : Int) d.length).bind fun s4 => (sub? d 0 (m : Int)).bind fun s5 => (app? (s4 : List UInt8) s5).bind fun s6 => some (s6 == d) else some false) = some false := by
        by_cases h5 : d.length % m = 0
        · rw [if_pos (by omega), sub_ok (by omega) (by omega) (by omega), Option.bind_some, sub_ok (by omega) (by omega) (by omega), Option.bind_some, app_ok (by simp; omega), Option.bind_some]
          have hne := p6 m m1 (by omega) h5
          simp only [Int.toNat_natCast, List.take_length, Int.toNat_zero, List.drop_zero]
          have : (List.drop m d ++ List.take m d == d) = false := by
            refine beq_eq_false_iff_ne.2 hne
          rw [this]
        · rw [if_neg (by omega)]
      rw [hx, Option.bind_some]
      simp only [Bool.false_eq_true, if_false]
      rw [w64_id (by omega) (by omega)]
      exact wp_some ⟨⟨m + 1, rfl, by omega, by omega⟩, by omega⟩
    · exact wp_some (wp_some (by simp))
end Go.Vs.G

