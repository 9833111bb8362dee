/- Plain facts about the typed functions, up to the law: no program in sight. No conditions. -/
import Derived.Test.YtglbcomjdcbbaaaDoorV5
import Derived.Test.YtglbcomjdcbbaaaDoorDLFractions
import Derived.Lib.ItoaNum
import Derived.Lib.ParseIntB
import Derived.Lib.Strings
namespace Go.Vs.G
open Go Go.Vs

/-- a source that can still be asked; B bounds the place that it has come to -/
structure SrcOk (B : Int) (s : GL00Src) : Prop where
  bytes : ∀ x, x ∈ s.code → 0 ≤ x ∧ x ≤ 255
  len : s.code.length ≤ 1000000
  at0 : 0 ≤ s.at_
  atB : s.at_ ≤ B
theorem SrcOk.mono {B B' : Int} {s : GL00Src} (h : SrcOk B s) (hB : B ≤ B') : SrcOk B' s := ⟨h.bytes, h.len, h.at0, Int.le_trans h.atB hB⟩
theorem l00From_eq (code : List Int) : spec_l00From code = some (GL00Src.mk code 0 0) := rfl
theorem srcOk_from {code : List Int} (h : okL (okI .u8) code) (hl : code.length ≤ 1000000) : SrcOk 0 (GL00Src.mk code 0 0) :=
  ⟨fun x hx => okU8 (h.2 x hx), hl, by simp, by simp⟩
theorem shr40 (n : Int) : shr? .u64 n 40 = some (n.fdiv (2 ^ 40)) := by
  simp [shr?, IntKind.bits]
theorem and255 (n : Int) : 0 ≤ bit_and .u64 n 255 ∧ bit_and .u64 n 255 ≤ 255 := by
  unfold bit_and
  rw [wu64_def]
  have h : (BitVec.ofInt IntKind.u64.bits n &&& BitVec.ofInt IntKind.u64.bits 255).toNat ≤ 255 := by
    rw [BitVec.toNat_and]
    exact Nat.le_trans Nat.and_le_right (by decide)
  omega
theorem next_ok {B : Int} {s : GL00Src} (h : SrcOk B s) (hB : B ≤ 4611686018427387904) : ∃ v s', spec_l00Src_next s = some (v, s') ∧ 0 ≤ v ∧ v ≤ 255 ∧ SrcOk (B + 1) s' := by
  have h1 := h.at0
  have h2 := h.atB
  have h3 := h.len
  have hat : w64 (s.at_ + 1) = s.at_ + 1 := w64_id (by omega) (by omega)
  have hb : ∃ b, (if s.at_ < (s.code.length : Int) then ((at? s.code s.at_).bind fun v1 => some (w64 v1)) else some 0) = some b ∧ 0 ≤ b ∧ b ≤ 255 := by
    split
    · rename_i hlt
      rw [at_ok h1 (by omega), Option.bind_some]
      obtain ⟨g1, g2⟩ := h.bytes s.code[s.at_.toNat] (List.getElem_mem (by omega))
      exact ⟨_, rfl, by rw [w64_id (by omega) (by omega)]; omega, by rw [w64_id (by omega) (by omega)]; omega⟩
    · exact ⟨0, rfl, by omega, by omega⟩
  obtain ⟨b, hb, b0, b1⟩ := hb
  unfold spec_l00Src_next
  rw [hb, Option.bind_some, hat]
  split
  · exact ⟨_, _, rfl, b0, b1, ⟨h.bytes, h.len, by simp only; omega, by simp only; omega⟩⟩
  · rw [shr40, Option.bind_some]
    have := and255 ((IntKind.wrap .u64 ((IntKind.wrap .u64 ((IntKind.wrap .u64 (s.seed * 6364136223846793005)) + (IntKind.wrap .u64 b))) + 1442695040888963407)).fdiv (2 ^ 40))
    exact ⟨_, _, rfl, by rw [w64_id (by omega) (by omega)]; omega, by rw [w64_id (by omega) (by omega)]; omega, ⟨h.bytes, h.len, by simp only; omega, by simp only; omega⟩⟩
theorem pick_ok {B : Int} {s : GL00Src} (h : SrcOk B s) (hB : B ≤ 4611686018427387000) (n : Int) : ∃ v s', spec_l00Src_pick s n = some (v, s') ∧ 0 ≤ v ∧ (v = 0 ∨ v < n) ∧ SrcOk (B + 2) s' := by
  unfold spec_l00Src_pick
  by_cases hn : n ≤ 1
  · rw [if_pos hn]; exact ⟨0, s, rfl, by omega, .inl rfl, h.mono (by omega)⟩
  · rw [if_neg hn]
    obtain ⟨v, s1, e1, v0, v1, k1⟩ := next_ok h (by omega)
    rw [e1, Option.bind_some]
    by_cases h2 : n > 200
    · rw [if_pos h2]
      obtain ⟨u, s2, e2, u0, u1, k2⟩ := next_ok k1 (by omega)
      simp only
      rw [e2, Option.bind_some, mod_ok (by omega), Option.bind_some, w64_id (n := v * 256) (by omega) (by omega), w64_id (by simp only; omega) (by simp only; omega)]
      have e : (v * 256 + u).tmod n = (v * 256 + u) % n := Int.tmod_eq_emod_of_nonneg (by omega)
      refine ⟨_, _, rfl, ?_, ?_, by rw [show B + 2 = B + 1 + 1 by omega]; exact k2⟩
      · simp only [e]; exact Int.emod_nonneg _ (by omega)
      · simp only [e]; right; exact Int.emod_lt_of_pos _ (by omega)
    · rw [if_neg h2, mod_ok (by omega), Option.bind_some]
      simp only
      have e : v.tmod n = v % n := Int.tmod_eq_emod_of_nonneg (by omega)
      refine ⟨_, _, rfl, ?_, ?_, k1.mono (by omega)⟩
      · rw [e]; exact Int.emod_nonneg _ (by omega)
      · rw [e]; right; exact Int.emod_lt_of_pos _ (by omega)
theorem a2Long_eq (a b : List Int) : ∃ r, laws_a2Long a b = some r ∧ (r = false → a.length ≤ 3000 ∧ b.length ≤ 3000) := by
  unfold laws_a2Long
  split
  · exact ⟨true, rfl, by simp⟩
  · exact ⟨_, rfl, by simp; omega⟩
end Go.Vs.G

namespace Go.Vs.G
open Go Go.Vs

theorem gcd_tmod (a b : Int) : Int.gcd b (a.tmod b) = Int.gcd a b := by
  rw [Int.gcd_comm b, Int.gcd, Int.natAbs_tmod, Int.gcd, Nat.gcd_comm a.natAbs, Nat.gcd_rec b.natAbs a.natAbs]
theorem tmod_lt (a b : Int) (hb : b ≠ 0) : (a.tmod b).natAbs < b.natAbs := by
  rw [Int.natAbs_tmod]; exact Nat.mod_lt _ (by omega)
theorem gcdLoop {a b : Int} {kb : Int → Option Int} {kr : Empty → Option Int} {Q : Int → Prop} (hb : b.natAbs < 9223372036854775808)
    (hk : ∀ g : Int, g.natAbs = Int.gcd a b → (0 ≤ a → 0 ≤ b → 0 ≤ g) → wp (kb g) Q) :
    wp (onL (loop (S := (Int × Int)) (B := Int) (R := Empty) (fun ((a2, b2) : Int × Int) => if b2 = 0 then (some (.brk a2)) else (mod? a2 b2).bind fun q1 => some (.next (b2, q1))) loopLim (a, b)) kb kr) Q := by
  refine wp_loop (fun s : Int × Int => Int.gcd s.1 s.2 = Int.gcd a b ∧ s.2.natAbs ≤ b.natAbs ∧ (0 ≤ a → 0 ≤ b → 0 ≤ s.1 ∧ 0 ≤ s.2)) (fun s => s.2.natAbs) ⟨rfl, Nat.le_refl _, fun h1 h2 => ⟨h1, h2⟩⟩ (by simp only; omega) ?_
  rintro ⟨a2, b2⟩ ⟨h1, h2, h3⟩
  simp only at h1 h2 h3 ⊢
  refine wp_ite (fun h => ?_) (fun h => ?_)
  · subst h
    exact wp_some (hk a2 (by rw [← h1]; simp) (fun g1 g2 => (h3 g1 g2).1))
  · rw [mod_ok h, Option.bind_some]
    have ht := tmod_lt a2 b2 h
    refine wp_some ⟨⟨by simp only; rw [gcd_tmod, h1], by simp only; omega, fun g1 g2 => ⟨(h3 g1 g2).2, Int.tmod_nonneg _ (h3 g1 g2).1⟩⟩, by simp only; omega⟩
theorem gcd_le {a b : Int} {B : Nat} (ha : a.natAbs ≤ B) (hb : b.natAbs ≤ B) : Int.gcd a b ≤ B := by
  by_cases h : a = 0
  · subst h; simpa using hb
  · exact Nat.le_trans (Nat.gcd_le_left _ (by omega)) ha
theorem impl_gcd_eq {a b : Int} (ha : a.natAbs ≤ 9223372036854775807) (hb : b.natAbs ≤ 9223372036854775807) : impl_gcd a b = some (Int.gcd a b : Int) := by
  refine eq_of_wp ?_
  unfold impl_gcd
  refine gcdLoop (by omega) fun g hg _ => wp_some ?_
  have := gcd_le ha hb
  rw [imax_def, w64_id (by omega) (by omega)]; omega
theorem spec_l00Gcd_eq {a b : Int} (ha : 0 ≤ a) (hb : 0 ≤ b) (hb2 : b.natAbs ≤ 9223372036854775807) : spec_l00Gcd a b = some (Int.gcd a b : Int) := by
  refine eq_of_wp ?_
  unfold spec_l00Gcd
  refine gcdLoop (by omega) fun g hg h0 => wp_some ?_
  have := h0 ha hb
  omega
/-- f is n / d in lowest terms -/
structure Red (n d : Int) (f : GFraction) : Prop where
  pos : 0 < f.Den
  cop : Int.gcd f.Num f.Den = 1
  eq : f.Num * d = n * f.Den
theorem dvd_of_cop {a b c : Int} (h : Int.gcd a b = 1) (hd : b ∣ a * c) : b ∣ c := by
  rw [← Int.natAbs_dvd_natAbs] at hd ⊢
  rw [Int.natAbs_mul] at hd
  have : Nat.Coprime b.natAbs a.natAbs := by rw [Nat.coprime_comm]; exact h
  exact this.dvd_of_dvd_mul_left hd
theorem Red.den_dvd {n d : Int} {f : GFraction} (h : Red n d f) : f.Den ∣ d := dvd_of_cop h.cop ⟨n, by rw [h.eq, Int.mul_comm]⟩
theorem Red.num_dvd {n d : Int} {f : GFraction} (h : Red n d f) : f.Num ∣ n := by
  refine dvd_of_cop (a := f.Den) (by rw [Int.gcd_comm]; exact h.cop) ⟨d, by rw [h.eq, Int.mul_comm]⟩
theorem Red.den_le {n d : Int} {f : GFraction} (h : Red n d f) (hd : d ≠ 0) : f.Den ≤ d.natAbs := by
  have := Nat.le_of_dvd (by omega) (Int.natAbs_dvd_natAbs.2 h.den_dvd)
  have := h.pos
  omega
theorem Red.num_le {n d : Int} {f : GFraction} (h : Red n d f) (hd : d ≠ 0) : f.Num.natAbs ≤ n.natAbs := by
  by_cases hn : n = 0
  · subst hn
    have h1 := h.eq
    rw [Int.zero_mul] at h1
    rcases Int.mul_eq_zero.1 h1 with h2 | h2
    · omega
    · exact absurd h2 hd
  · exact Nat.le_of_dvd (by omega) (Int.natAbs_dvd_natAbs.2 h.num_dvd)
theorem Red.unique {f g : GFraction} (hf : 0 < f.Den) (hg : 0 < g.Den) (cf : Int.gcd f.Num f.Den = 1) (cg : Int.gcd g.Num g.Den = 1) (h : f.Num * g.Den = g.Num * f.Den) : f = g := by
  have h1 : f.Den ∣ g.Den := dvd_of_cop cf ⟨g.Num, by rw [h, Int.mul_comm]⟩
  have h2 : g.Den ∣ f.Den := dvd_of_cop cg ⟨f.Num, by rw [← h, Int.mul_comm]⟩
  have hd : f.Den = g.Den := Int.le_antisymm (Int.le_of_dvd hg h1) (Int.le_of_dvd hf h2)
  have hn : f.Num = g.Num := by
    rw [hd] at h
    exact Int.eq_of_mul_eq_mul_right (by omega) h
  cases f; cases g
  simp_all
theorem pos_of_mul {g q : Int} (hg : 0 < g) (h : 0 < g * q) : 0 < q := by
  refine Classical.byContradiction fun hc => ?_
  have := Int.mul_nonneg (a := g) (b := -q) (by omega) (by omega)
  rw [Int.mul_neg] at this
  omega
theorem div_gcd {a b : Int} (g : Int) (hg : 0 < g) (hgd : g = (Int.gcd a b : Int)) : ∃ p q, a = g * p ∧ b = g * q ∧ Int.gcd p q = 1 := by
  have h1 : g ∣ a := by rw [hgd]; exact Int.gcd_dvd_left ..
  have h2 : g ∣ b := by rw [hgd]; exact Int.gcd_dvd_right ..
  obtain ⟨p, rfl⟩ := h1
  obtain ⟨q, rfl⟩ := h2
  refine ⟨p, q, rfl, rfl, ?_⟩
  rw [Int.gcd_mul_left] at hgd
  have h3 : (g.natAbs : Int) = g := by omega
  have h4 : g.natAbs * 1 = g.natAbs * p.gcd q := by
    have : (g.natAbs * p.gcd q : Nat) = g.natAbs := by omega
    omega
  exact (Nat.eq_of_mul_eq_mul_left (by omega) h4).symm
theorem impl_lowest_eq {n d : Int} (hd : d ≠ 0) (hn1 : n.natAbs ≤ 9223372036854775807) (hd1 : d.natAbs ≤ 9223372036854775807) : ∃ f, impl_lowest n d = some f ∧ Red n d f := by
  have hw1 : w64 (0 - n) = 0 - n := w64_id (by omega) (by omega)
  have hw2 : w64 (0 - d) = 0 - d := w64_id (by omega) (by omega)
  have hs : ∃ n' d', (if d < 0 then some (w64 (0 - n), w64 (0 - d)) else some (n, d)) = some (n', d') ∧ 0 < d' ∧ n'.natAbs ≤ 9223372036854775807 ∧ d'.natAbs ≤ 9223372036854775807 ∧ n' * d = n * d' := by
    split
    · refine ⟨_, _, rfl, by omega, by omega, by omega, ?_⟩
      rw [hw1, hw2]; simp [Int.neg_mul, Int.mul_neg]
    · exact ⟨_, _, rfl, by omega, hn1, hd1, rfl⟩
  obtain ⟨n', d', h1, h2, h3, h4, h5⟩ := hs
  unfold impl_lowest
  rw [h1, Option.bind_some]
  simp only
  rw [impl_gcd_eq h3 h4, Option.bind_some]
  have hg : 0 < (Int.gcd n' d' : Int) := by
    have : Int.gcd n' d' ≠ 0 := by
      intro h; rw [Int.gcd_eq_zero_iff] at h; omega
    omega
  obtain ⟨p, q, hp, hq, hpq⟩ := div_gcd _ hg rfl
  generalize (Int.gcd n' d' : Int) = g at hg hp hq
  subst hp hq
  rw [div_ok (by omega), Option.bind_some, div_ok (by omega), Option.bind_some]
  rw [Int.mul_tdiv_cancel_left _ (by omega), Int.mul_tdiv_cancel_left _ (by omega)]
  have hbp : p.natAbs ≤ (g * p).natAbs := by rw [Int.natAbs_mul]; exact Nat.le_mul_of_pos_left _ (by omega)
  have hbq : q.natAbs ≤ (g * q).natAbs := by rw [Int.natAbs_mul]; exact Nat.le_mul_of_pos_left _ (by omega)
  have e1 : IntKind.wrap .i64 p = p := w64_id (by omega) (by omega)
  have e2 : IntKind.wrap .i64 q = q := w64_id (by omega) (by omega)
  rw [e1, e2]
  refine ⟨_, rfl, pos_of_mul hg h2, hpq, ?_⟩
  · simp only
    have : g * (p * d) = g * (n * q) := by rw [← Int.mul_assoc, h5, ← Int.mul_assoc, ← Int.mul_assoc, Int.mul_comm g n]
    exact Int.eq_of_mul_eq_mul_left (by omega) this
/-- a valid fraction -/
def GFraction.valid (f : GFraction) : Prop := 1 ≤ f.Den ∧ f.Den ≤ 1000000 ∧ -1000000 ≤ f.Num ∧ f.Num ≤ 1000000 ∧ Int.gcd f.Num f.Den = 1
theorem ValidFraction_eq (f : GFraction) : ∃ b, impl_ValidFraction f = some b ∧ (b = true ↔ f.valid) := by
  unfold impl_ValidFraction
  have hw : ∀ n a b, impl_within n a b = some (decide (a ≤ n ∧ n ≤ b)) := fun n a b => by unfold impl_within; split <;> simp <;> omega
  simp only [hw, Option.bind_some, decide_eq_true_eq, GFraction.valid]
  split
  · split
    · rw [impl_gcd_eq (by omega) (by omega)]
      exact ⟨_, rfl, by simp; omega⟩
    · exact ⟨_, rfl, by simp; omega⟩
  · exact ⟨_, rfl, by simp; omega⟩
theorem ValidFraction_true {f : GFraction} (h : f.valid) : impl_ValidFraction f = some true := by
  obtain ⟨b, h1, h2⟩ := ValidFraction_eq f
  rw [h1, h2.2 h]
theorem checked_ok {f : GFraction} (h : f.valid) : impl_checked f = some (f, 0) := by
  unfold impl_checked; rw [ValidFraction_true h]; rfl
/-- a drawn fraction -/
structure Drawn (f : GFraction) : Prop where
  d0 : 1 ≤ f.Den
  d1 : f.Den ≤ 20
  n0 : -15 ≤ f.Num
  n1 : f.Num ≤ 44
  cop : Int.gcd f.Num f.Den = 1
theorem Drawn.valid {f : GFraction} (h : Drawn f) : f.valid := ⟨h.d0, by have := h.d1; omega, by have := h.n0; omega, by have := h.n1; omega, h.cop⟩
theorem l02Make_eq {n d : Int} (hd : 0 < d) (hn1 : n.natAbs ≤ 9223372036854775807) (hd1 : d ≤ 9223372036854775807) : ∃ f, spec_l02Make n d = some f ∧ Red n d f := by
  unfold spec_l02Make
  have hs : spec_l00Size n = some (n.natAbs : Int) := by
    unfold spec_l00Size; split
    · rw [w64_id (by omega) (by omega)]; congr 1; omega
    · congr 1; omega
  rw [hs, Option.bind_some, spec_l00Gcd_eq (by omega) (by omega) (by omega), Option.bind_some]
  have hg0 : Int.gcd (n.natAbs : Int) d = Int.gcd n d := by simp [Int.gcd]
  rw [hg0]
  have hg : 0 < (Int.gcd n d : Int) := by
    have : Int.gcd n d ≠ 0 := by
      intro h; rw [Int.gcd_eq_zero_iff] at h; omega
    omega
  obtain ⟨p, q, hp, hq, hpq⟩ := div_gcd _ hg rfl
  generalize (Int.gcd n d : Int) = g at hg hp hq
  subst hp hq
  rw [div_ok (by omega), Option.bind_some, div_ok (by omega), Option.bind_some]
  rw [Int.mul_tdiv_cancel_left _ (by omega), Int.mul_tdiv_cancel_left _ (by omega)]
  have hbp : p.natAbs ≤ (g * p).natAbs := by rw [Int.natAbs_mul]; exact Nat.le_mul_of_pos_left _ (by omega)
  have hbq : q.natAbs ≤ (g * q).natAbs := by rw [Int.natAbs_mul]; exact Nat.le_mul_of_pos_left _ (by omega)
  have e1 : IntKind.wrap .i64 p = p := w64_id (by omega) (by omega)
  have e2 : IntKind.wrap .i64 q = q := w64_id (by omega) (by omega)
  rw [e1, e2]
  refine ⟨_, rfl, pos_of_mul hg hd, hpq, ?_⟩
  simp only
  rw [← Int.mul_assoc, Int.mul_comm p g]
theorem A2Fraction_ok {code : List Int} (h : okL (okI .u8) code) (hl : code.length ≤ 3000) : ∃ f, spec_A2Fraction code = some f ∧ Drawn f := by
  unfold spec_A2Fraction
  rw [l00From_eq, Option.bind_some]
  have h0 := srcOk_from h (by omega)
  unfold spec_l02Draw
  obtain ⟨v, s1, e1, v0, v1, k1⟩ := pick_ok h0 (by omega) 60
  rw [e1, Option.bind_some]
  obtain ⟨u, s2, e2, u0, u1, k2⟩ := pick_ok k1 (by omega) 20
  simp only
  rw [e2, Option.bind_some, w64_id (by omega) (by omega), w64_id (by simp only; omega) (by simp only; omega)]
  obtain ⟨f, hf, hr⟩ := l02Make_eq (n := v - 15) (d := 1 + u) (by omega) (by omega) (by omega)
  rw [hf, Option.bind_some, Option.bind_some]
  refine ⟨f, rfl, ?_⟩
  have hd := hr.den_le (by omega)
  have hp := hr.pos
  have hnd := hr.num_le (by omega)
  refine ⟨by omega, by omega, ?_, by omega, hr.cop⟩
  -- the sign is that of the number drawn
  refine Classical.byContradiction fun hc => ?_
  have he := hr.eq
  have h1 : f.Num * (1 + u) < 0 := Int.mul_neg_of_neg_of_pos (by omega) (by omega)
  rw [he] at h1
  have h2 : v - 15 < 0 := by
    refine Classical.byContradiction fun hc2 => ?_
    have := Int.mul_nonneg (a := v - 15) (b := f.Den) (by omega) (by omega)
    omega
  omega
end Go.Vs.G

namespace Go.Vs.G
open Go Go.Vs

theorem mul_bd {a b A B : Int} (h1 : -A ≤ a) (h2 : a ≤ A) (h3 : -B ≤ b) (h4 : b ≤ B) : -(A * B) ≤ a * b ∧ a * b ≤ A * B := by
  have ha : a.natAbs ≤ A.natAbs := by omega
  have hb : b.natAbs ≤ B.natAbs := by omega
  have := Nat.mul_le_mul ha hb
  rw [← Int.natAbs_mul, ← Int.natAbs_mul] at this
  have h5 : 0 ≤ A * B := Int.mul_nonneg (by omega) (by omega)
  omega
theorem within_eqR (n a b : Int) : impl_within n a b = some (decide (a ≤ n ∧ n ≤ b)) := by
  unfold impl_within; split <;> simp <;> omega
end Go.Vs.G

namespace Go.Vs.G
open Go Go.Vs

theorem ilt (a b : Int) : a < b ∨ b ≤ a := by omega
def dig (c : UInt8) : Prop := 48 ≤ c.toNat ∧ c.toNat ≤ 57
theorem ofNat_dig {d : Nat} (h : d < 10) : (UInt8.ofNat (48 + d)).toNat = 48 + d := by simp; omega
theorem dd_small {u : Nat} (h : u < 10) : Lib.decDigits u = [UInt8.ofNat (48 + u)] := by rw [Lib.decDigits, dif_pos h]
theorem dd_big {u : Nat} (h : ¬ u < 10) : Lib.decDigits u = Lib.decDigits (u / 10) ++ [UInt8.ofNat (48 + u % 10)] := by rw [Lib.decDigits, dif_neg h]
theorem dd_dig (u : Nat) : ∀ c, c ∈ Lib.decDigits u → dig c := by
  induction u using Nat.strongRecOn with
  | _ u ih =>
    intro c hc
    by_cases h : u < 10
    · rw [dd_small h, List.mem_singleton] at hc
      subst hc
      unfold dig; rw [ofNat_dig h]; omega
    · rw [dd_big h, List.mem_append, List.mem_singleton] at hc
      rcases hc with hc | hc
      · exact ih (u / 10) (by omega) c hc
      · subst hc
        unfold dig; rw [ofNat_dig (Nat.mod_lt _ (by omega))]
        have := Nat.mod_lt u (y := 10) (by omega); omega
theorem dd_len (u : Nat) : (Lib.decDigits u).length = Lib.nDigits u := Lib.decDigits_length u
theorem dd_ne (u : Nat) : Lib.decDigits u ≠ [] := by
  intro h; have := dd_len u; rw [h] at this; have := Lib.nDigits_pos u; simp at *; omega
theorem nd_le : ∀ (k u : Nat), 1 ≤ k → u < 10 ^ k → Lib.nDigits u ≤ k
  | 0, u, h, _ => by omega
  | k + 1, u, _, h => by
    by_cases h1 : u < 10
    · rw [Lib.nDigits_small h1]; omega
    · rw [Lib.nDigits_big h1]
      cases k with
      | zero => simp at h; omega
      | succ k =>
        have := nd_le (k + 1) (u / 10) (by omega) (by rw [Nat.pow_succ] at h; omega)
        omega
theorem nd_lt {k u : Nat} (h : Lib.nDigits u ≤ k) : u < 10 ^ k :=
  Nat.lt_of_lt_of_le (Lib.lt_pow_nDigits u) (Nat.pow_le_pow_right (by omega) h)
/-- what digits say -/
def dval (acc : Nat) (l : List UInt8) : Nat := l.foldl (fun a c => a * 10 + (c.toNat - 48)) acc
theorem dval_nil (acc : Nat) : dval acc [] = acc := rfl
theorem dval_cons (acc : Nat) (c : UInt8) (r : List UInt8) : dval acc (c :: r) = dval (acc * 10 + (c.toNat - 48)) r := by unfold dval; rw [List.foldl_cons]
theorem dval_append (l m : List UInt8) (acc : Nat) : dval acc (l ++ m) = dval (dval acc l) m := by unfold dval; rw [List.foldl_append]
theorem dval_dd (u : Nat) : dval 0 (Lib.decDigits u) = u := by
  induction u using Nat.strongRecOn with
  | _ u ih =>
    by_cases h : u < 10
    · rw [dd_small h, dval_cons, dval_nil, ofNat_dig h]; omega
    · have h1 := ih (u / 10) (by omega)
      have h2 : (UInt8.ofNat (48 + u % 10)).toNat = 48 + u % 10 := ofNat_dig (Nat.mod_lt _ (by omega))
      rw [dd_big h, dval_append, h1, dval_cons, dval_nil, h2]; omega
theorem dval_ge : ∀ (l : List UInt8) (acc : Nat), acc ≤ dval acc l
  | [], acc => Nat.le_refl _
  | c :: r, acc => by rw [dval_cons]; have := dval_ge r (acc * 10 + (c.toNat - 48)); omega
theorem parseUintM_val {M : Nat} (hM : M < 18446744073709551616) : ∀ (l : List UInt8) (acc : Nat), (∀ c, c ∈ l → dig c) → dval acc l ≤ M → Lib.parseUintM M acc l = .ok (dval acc l)
  | [], acc, _, _ => rfl
  | c :: r, acc, h, hv => by
    have hc := h c (by simp)
    rw [dval_cons] at hv ⊢
    have hg := dval_ge r (acc * 10 + (c.toNat - 48))
    unfold dig at hc
    rw [Lib.parseUintM, if_pos hc, if_neg (by omega), if_neg (by omega)]
    exact parseUintM_val hM r _ (fun x hx => h x (by simp [hx])) hv
theorem parseUint_dd {u : Nat} (h : u < 18446744073709551616) : Lib.parseUintB 64 (Lib.decDigits u) = .ok u := by
  unfold Lib.parseUintB
  have h64 : (2 : Nat) ^ 64 - 1 = 18446744073709551615 := by decide
  rw [if_neg (dd_ne u), h64, parseUintM_val (M := 18446744073709551615) (by omega) _ _ (dd_dig u) (by rw [dval_dd]; omega), dval_dd]
/-- a number's text -/
abbrev txt (n : Int) : List UInt8 := Lib.itoa n
theorem txt_neg {n : Int} (h : n < 0) : txt n = 45 :: Lib.decDigits n.natAbs := by simp [txt, Lib.itoa, h]
theorem txt_pos {n : Int} (h : 0 ≤ n) : txt n = Lib.decDigits n.toNat := by simp [txt, Lib.itoa]; omega
theorem parse_txt {n : Int} (h0 : -9223372036854775808 ≤ n) (h1 : n ≤ 9223372036854775807) : Lib.parseIntB 64 (txt n) = .ok n := by
  rcases ilt n 0 with h | h
  · rw [txt_neg h]
    have h45 : (45 : UInt8).toNat = 45 := rfl
    simp only [Lib.parseIntB, h45, or_true, if_true, true_and, not_true, false_and, if_false]
    rw [parseUint_dd (by omega)]
    simp only
    rw [if_neg (by omega)]
    congr 1; omega
  · rw [txt_pos h]
    obtain ⟨c, r, hcr⟩ : ∃ c r, Lib.decDigits n.toNat = c :: r := by
      cases hd : Lib.decDigits n.toNat with
      | nil => exact absurd hd (dd_ne _)
      | cons c r => exact ⟨c, r, rfl⟩
    have hc : dig c := dd_dig n.toNat c (by rw [hcr]; simp)
    have hp := parseUint_dd (u := n.toNat) (by omega)
    rw [hcr] at hp ⊢
    unfold dig at hc
    simp only [Lib.parseIntB]
    have e1 : ¬ c.toNat = 43 := by omega
    have e2 : ¬ c.toNat = 45 := by omega
    simp only [e1, e2, or_self, if_false, hp, false_and, not_false_eq_true, true_and]
    have h63 : (2 : Nat) ^ (64 - 1) = 9223372036854775808 := by decide
    rw [h63, if_neg (by omega)]
    congr 1; omega
theorem txt_inj {n m : Int} (h0 : -9223372036854775808 ≤ n) (h1 : n ≤ 9223372036854775807) (h2 : -9223372036854775808 ≤ m) (h3 : m ≤ 9223372036854775807) (h : txt n = txt m) : n = m := by
  have := parse_txt h0 h1
  rw [h, parse_txt h2 h3] at this
  cases this; rfl
theorem txt_len {n : Int} (h0 : -1000000000000000000 < n) (h1 : n < 1000000000000000000) : (txt n).length ≤ 19 := by
  rcases ilt n 0 with h | h
  · rw [txt_neg h]; simp only [List.length_cons, dd_len]
    have := nd_le 18 n.natAbs (by omega) (by omega); omega
  · rw [txt_pos h, dd_len]
    have := nd_le 18 n.toNat (by omega) (by omega); omega
theorem txt_ne (n : Int) : txt n ≠ [] := by
  rcases ilt n 0 with h | h
  · rw [txt_neg h]; simp
  · rw [txt_pos h]; exact dd_ne _
theorem txt_mem {n : Int} {c : UInt8} (h : c ∈ txt n) : c.toNat = 45 ∨ dig c := by
  rcases ilt n 0 with h0 | h0
  · rw [txt_neg h0, List.mem_cons] at h
    rcases h with h | h
    · subst h; exact .inl rfl
    · exact .inr (dd_dig _ c h)
  · rw [txt_pos h0] at h; exact .inr (dd_dig _ c h)
theorem txt_trim {n : Int} (h0 : -1000000000000000000 < n) (h1 : n < 1000000000000000000) : (Lib.trimPrefix (txt n) [45]).length ≤ 18 := by
  rcases ilt n 0 with h | h
  · rw [txt_neg h]
    simp only [Lib.trimPrefix, Lib.hasPrefix, List.isPrefixOf, beq_self_eq_true, Bool.true_and, if_true, List.length_singleton, List.drop_succ_cons, List.drop_zero, dd_len]
    exact nd_le 18 _ (by omega) (by omega)
  · rw [txt_pos h]
    have := nd_le 18 n.toNat (by omega) (by omega)
    unfold Lib.trimPrefix
    split
    · rw [List.length_drop, dd_len]; omega
    · rw [dd_len]; omega
theorem Decimal_eq {n : Int} (h0 : -9223372036854775808 ≤ n) (h1 : n ≤ 9223372036854775807) : impl_Decimal n = some (txt n) := by
  unfold impl_Decimal strconv_FormatInt
  rw [if_pos ⟨rfl, h0, h1⟩]; rfl
/-- how a text reads as a number -/
def RD (s : List UInt8) (r : Int × Bool) : Prop :=
  (∃ n : Int, -1000000000000000000 < n ∧ n < 1000000000000000000 ∧ s = txt n ∧ r = (n, true)) ∨ ((∀ n : Int, -1000000000000000000 < n → n < 1000000000000000000 → s ≠ txt n) ∧ r = (0, false))
theorem RD.unique {s : List UInt8} {r r' : Int × Bool} (h : RD s r) (h' : RD s r') : r = r' := by
  rcases h with ⟨n, h0, h1, h2, rfl⟩ | ⟨h0, rfl⟩
  · rcases h' with ⟨m, k0, k1, k2, rfl⟩ | ⟨k0, rfl⟩
    · rw [txt_inj (by omega) (by omega) (by omega) (by omega) (h2.symm.trans k2)]
    · exact absurd h2 (k0 n h0 h1)
  · rcases h' with ⟨m, k0, k1, k2, rfl⟩ | ⟨k0, rfl⟩
    · exact absurd k2 (h0 m k0 k1)
    · rfl
theorem ReadDecimal_ok (s : List UInt8) : ∃ r, impl_ReadDecimal s = some r ∧ RD s r := by
  unfold impl_ReadDecimal
  by_cases hl : (s.length : Int) > 19
  · rw [if_pos hl]
    refine ⟨_, rfl, .inr ⟨fun n h0 h1 e => ?_, rfl⟩⟩
    have := txt_len h0 h1
    rw [← e] at this; omega
  · rw [if_neg hl]
    have ht : strings_TrimPrefix s [45] = some (Lib.trimPrefix s [45]) := rfl
    rw [ht, Option.bind_some, Option.bind_some]
    by_cases hl2 : ((Lib.trimPrefix s [45]).length : Int) > 18
    · rw [if_pos (by simpa using hl2)]
      refine ⟨_, rfl, .inr ⟨fun n h0 h1 e => ?_, rfl⟩⟩
      have := txt_trim h0 h1
      rw [← e] at this; omega
    · rw [if_neg (by simpa using hl2)]
      have hp : strconv_ParseInt s 10 64 = some (parseR s) := by
        unfold strconv_ParseInt; rw [if_pos ⟨rfl, rfl, by omega⟩]
      rw [hp, Option.bind_some]
      by_cases hx : ∃ n : Int, -1000000000000000000 < n ∧ n < 1000000000000000000 ∧ s = txt n
      · obtain ⟨n, h0, h1, rfl⟩ := hx
        have hr : parseR (txt n) = (n, true) := by unfold parseR; rw [parse_txt (by omega) (by omega)]
        rw [hr]
        simp only [if_true]
        rw [Decimal_eq (by omega) (by omega)]
        simp only [Option.bind_some, beq_self_eq_true, Bool.not_true, Bool.false_eq_true, if_false]
        exact ⟨_, rfl, .inl ⟨n, h0, h1, rfl, rfl⟩⟩
      · have hno : ∀ n : Int, -1000000000000000000 < n → n < 1000000000000000000 → s ≠ txt n := fun n h0 h1 e => hx ⟨n, h0, h1, e⟩
        refine ⟨(0, false), ?_, .inr ⟨hno, rfl⟩⟩
        by_cases hb : (parseR s).2 = true
        · rw [if_pos hb]
          -- the number read has another text
          have hv : Lib.parseIntB 64 s = .ok (parseR s).1 := by
            unfold parseR at hb ⊢
            cases hq : Lib.parseIntB 64 s with
            | ok v => rfl
            | _ => rw [hq] at hb; cases hb
          generalize (parseR s).1 = v at hv
          have hvb : -9223372036854775808 ≤ v ∧ v ≤ 9223372036854775807 := by
            unfold Lib.parseIntB at hv
            split at hv
            · cases hv
            · simp only at hv
              split at hv
              · cases hv
              · cases hv
              · rename_i u _
                split at hv
                · cases hv
                · split at hv
                  · cases hv
                  · rename_i g1 g2
                    cases hv
                    split <;> rename_i g3
                    · simp only [g3, true_and] at g2; omega
                    · simp only [g3, not_false_eq_true, true_and] at g1; omega
          rw [Decimal_eq hvb.1 hvb.2, Option.bind_some]
          have hne : (txt v == s) = false := by
            refine beq_eq_false_iff_ne.2 fun e => ?_
            by_cases hr : -1000000000000000000 < v ∧ v < 1000000000000000000
            · exact hno v hr.1 hr.2 e.symm
            · -- too long
              rcases ilt v 0 with h | h
              · rw [txt_neg h] at e
                rw [← e] at hl2
                simp only [Lib.trimPrefix, Lib.hasPrefix, List.isPrefixOf, beq_self_eq_true, Bool.true_and, if_true, List.length_singleton, List.drop_succ_cons, List.drop_zero, dd_len] at hl2
                have := nd_lt (k := 18) (u := v.natAbs) (by omega)
                omega
              · rw [txt_pos h] at e
                have hnt : Lib.trimPrefix s [45] = s := by
                  unfold Lib.trimPrefix
                  rw [if_neg]
                  intro hpre
                  rw [← e] at hpre
                  cases hd : Lib.decDigits v.toNat with
                  | nil => exact dd_ne _ hd
                  | cons c r =>
                    rw [hd] at hpre
                    simp only [Lib.hasPrefix, List.isPrefixOf, Bool.and_true, beq_iff_eq] at hpre
                    have := dd_dig v.toNat c (by rw [hd]; simp)
                    rw [← hpre] at this
                    exact absurd this.1 (by decide)
                rw [hnt, ← e, dd_len] at hl2
                have := nd_lt (k := 18) (u := v.toNat) (by omega)
                omega
          rw [hne]; rfl
        · rw [if_neg hb]; rfl
theorem ReadDecimal_txt {n : Int} (h0 : -1000000000000000000 < n) (h1 : n < 1000000000000000000) : impl_ReadDecimal (txt n) = some (n, true) := by
  obtain ⟨r, h, hr⟩ := ReadDecimal_ok (txt n)
  rw [h, hr.unique (.inl ⟨n, h0, h1, rfl, rfl⟩)]
/- places of a byte -/
theorem idx_none {c : UInt8} : ∀ {s : List UInt8}, c ∉ s → Lib.indexByte s c = -1
  | [], _ => rfl
  | x :: s, h => by
    simp only [List.mem_cons, not_or] at h
    have h1 : ¬ x = c := fun e => h.1 e.symm
    simp [Lib.indexByte, idx_none h.2, h1]
theorem idx_app {c : UInt8} {r : List UInt8} : ∀ {s : List UInt8}, c ∉ s → Lib.indexByte (s ++ c :: r) c = (s.length : Int)
  | [], _ => by simp [Lib.indexByte]
  | x :: s, h => by
    simp only [List.mem_cons, not_or] at h
    have h1 : ¬ x = c := fun e => h.1 e.symm
    have ih := idx_app (r := r) h.2
    have h2 : ¬ ((s.length : Int) == -1) = true := by simp
    simp only [List.cons_append, Lib.indexByte, ih, h2]
    simp [h1]
/-- a text cut at a byte -/
theorem Cut_app {c : UInt8} {s r : List UInt8} (h : c ∉ s) (hl : s.length + r.length ≤ 1000000) : strings_Cut (s ++ c :: r) [c] = some (s, r, true) := by
  have hi : stringslite_Index (s ++ c :: r) [c] = some (s.length : Int) := by simp [stringslite_Index, idx_app h]
  unfold strings_Cut internal_stringslite_Cut
  rw [hi, Option.bind_some, if_pos (by omega), sub_ok (by omega) (by omega) (by simp; omega), Option.bind_some, w64_id (by simp; omega) (by simp; omega)]
  rw [sub_ok (by simp; omega) (by simp; omega) (by omega)]
  simp only [Option.bind_some, List.length_singleton]
  have e1 : (List.take ((s.length : Int).toNat) (s ++ c :: r)).drop ((0 : Int).toNat) = s := by simp
  have e2 : (List.take (((s ++ c :: r).length : Int).toNat) (s ++ c :: r)).drop (((s.length : Int) + ((1 : Nat) : Int)).toNat) = r := by
    rw [show ((s.length : Int) + ((1 : Nat) : Int)).toNat = s.length + 1 by omega, Int.toNat_natCast, List.take_length]
    simp
  rw [e1, e2]
theorem Cut_none {c : UInt8} {s : List UInt8} (h : c ∉ s) : strings_Cut s [c] = some (s, [], false) := by
  have hi : stringslite_Index s [c] = some (-1) := by simp [stringslite_Index, idx_none h]
  unfold strings_Cut internal_stringslite_Cut
  rw [hi, Option.bind_some, if_neg (by omega)]; rfl
end Go.Vs.G

namespace Go.Vs.G
open Go Go.Vs

theorem spec_ValidFraction_true {f : GFraction} (h : f.valid) : spec_ValidFraction f = some true := by
  obtain ⟨h1, h2, h3, h4, h5⟩ := h
  unfold spec_ValidFraction spec_l02Ok
  have hin : ∀ n a b, spec_l00In n a b = some (decide (a ≤ n ∧ n ≤ b)) := fun n a b => by unfold spec_l00In; split <;> simp <;> omega
  have hs : spec_l00Size f.Num = some (f.Num.natAbs : Int) := by
    unfold spec_l00Size; split
    · rw [w64_id (by omega) (by omega)]; congr 1; omega
    · congr 1; omega
  simp only [hin, Option.bind_some, h1, h2, h3, h4, and_self, decide_true, if_true]
  rw [hs, Option.bind_some, spec_l00Gcd_eq (by omega) (by omega) (by omega), Option.bind_some]
  have hg0 : Int.gcd (f.Num.natAbs : Int) f.Den = Int.gcd f.Num f.Den := by simp [Int.gcd]
  rw [hg0, h5]; rfl
theorem binF {α : Type} {a b : GFraction} (ha : a.valid) (hb : b.valid) {X Y : Option α} : ((((impl_ValidFraction a).bind fun r1 => if r1 then ((impl_ValidFraction b).bind fun r2 => some (!r2)) else some true) : Option Bool).bind fun (x1 : Bool) => if x1 then X else Y) = Y := by
  rw [ValidFraction_true ha]
  simp only [Option.bind_some, if_true]
  rw [ValidFraction_true hb]
  rfl
theorem low_ok {n d : Int} (hd : d ≠ 0) (hn : n.natAbs ≤ 1000000) (hd1 : d.natAbs ≤ 1000000) : ∃ f, ((impl_lowest n d).bind fun r3 => (impl_checked r3).bind fun r4 => some (r4.1, r4.2)) = some (f, 0) ∧ Red n d f ∧ f.valid := by
  obtain ⟨f, h1, h2⟩ := impl_lowest_eq (n := n) (d := d) hd (by omega) (by omega)
  have h3 := h2.den_le hd
  have h4 := h2.num_le hd
  have h5 := h2.pos
  have hv : f.valid := ⟨by omega, by omega, by omega, by omega, h2.cop⟩
  rw [h1, Option.bind_some, checked_ok hv]
  exact ⟨f, rfl, h2, hv⟩
theorem laws_FnFractions_true {code more : List Int} (hc : okL (okI .u8) code) (hm : okL (okI .u8) more) : laws_FnFractions code more = some true := by
  refine eq_of_wp ?_
  unfold laws_FnFractions
  obtain ⟨r, hr, hr2⟩ := a2Long_eq code more
  rw [hr, Option.bind_some]
  refine wp_ite (fun h => wp_some rfl) (fun h => ?_)
  obtain ⟨l1, l2⟩ := hr2 (by simpa using h)
  obtain ⟨a, ha, da⟩ := A2Fraction_ok hc l1
  obtain ⟨b, hb, db⟩ := A2Fraction_ok hm l2
  rw [ha, Option.bind_some, hb, Option.bind_some]
  have va := da.valid
  have vb := db.valid
  obtain ⟨a1, a2, a3, a4, a5⟩ := da
  obtain ⟨b1, b2, b3, b4, b5⟩ := db
  have m1 := mul_bd (a := a.Num) (b := b.Den) (A := 44) (B := 20) (by omega) (by omega) (by omega) (by omega)
  have m2 := mul_bd (a := b.Num) (b := a.Den) (A := 44) (B := 20) (by omega) (by omega) (by omega) (by omega)
  have m3 := mul_bd (a := a.Den) (b := b.Den) (A := 20) (B := 20) (by omega) (by omega) (by omega) (by omega)
  have m4 := mul_bd (a := a.Num) (b := b.Num) (A := 44) (B := 44) (by omega) (by omega) (by omega) (by omega)
  have p3 : 0 < a.Den * b.Den := Int.mul_pos (by omega) (by omega)
  generalize hAB : a.Num * b.Den = AB at *
  generalize hBA : b.Num * a.Den = BA at *
  generalize hDD : a.Den * b.Den = DD at *
  generalize hNN : a.Num * b.Num = NN at *
  -- the sums
  have hDD' : b.Den * a.Den = DD := by rw [Int.mul_comm]; exact hDD
  have hNN' : b.Num * a.Num = NN := by rw [Int.mul_comm]; exact hNN
  obtain ⟨s, s1, s2, s3⟩ := low_ok (n := AB + BA) (d := DD) (by omega) (by omega) (by omega)
  have e1 : impl_AddFractions a b = some (s, 0) := by
    unfold impl_AddFractions
    rw [binF va vb, hAB, hBA, hDD, w64_id (n := AB) (by omega) (by omega), w64_id (n := BA) (by omega) (by omega), w64_id (n := DD) (by omega) (by omega), w64_id (n := AB + BA) (by omega) (by omega)]
    exact s1
  have e2 : impl_AddFractions b a = some (s, 0) := by
    unfold impl_AddFractions
    rw [binF vb va, hAB, hBA, hDD', w64_id (n := AB) (by omega) (by omega), w64_id (n := BA) (by omega) (by omega), w64_id (n := DD) (by omega) (by omega), Int.add_comm BA AB, w64_id (n := AB + BA) (by omega) (by omega)]
    exact s1
  obtain ⟨p, p1, p2, p4⟩ := low_ok (n := NN) (d := DD) (by omega) (by omega) (by omega)
  have e3 : impl_MultiplyFractions a b = some (p, 0) := by
    unfold impl_MultiplyFractions
    rw [binF va vb, hNN, hDD, w64_id (n := NN) (by omega) (by omega), w64_id (n := DD) (by omega) (by omega)]
    exact p1
  rw [e1, Option.bind_some, e2, Option.bind_some, e3, Option.bind_some]
  have sd := s2.den_le (by omega)
  have sn := s2.num_le (by omega)
  have pd := p2.den_le (by omega)
  have pn := p2.num_le (by omega)
  have sp := s2.pos
  have pp := p2.pos
  have q1 := mul_bd (a := s.Num) (b := a.Den) (A := 1760) (B := 20) (by omega) (by omega) (by omega) (by omega)
  have q2 := mul_bd (a := s.Num * a.Den) (b := b.Den) (A := 35200) (B := 20) (by omega) (by omega) (by omega) (by omega)
  have q3 := mul_bd (a := AB + BA) (b := s.Den) (A := 1760) (B := 400) (by omega) (by omega) (by omega) (by omega)
  have q4 := mul_bd (a := p.Num) (b := a.Den) (A := 1936) (B := 20) (by omega) (by omega) (by omega) (by omega)
  have q5 := mul_bd (a := p.Num * a.Den) (b := b.Den) (A := 38720) (B := 20) (by omega) (by omega) (by omega) (by omega)
  have q6 := mul_bd (a := NN) (b := p.Den) (A := 1936) (B := 400) (by omega) (by omega) (by omega) (by omega)
  have x1 : s.Num * a.Den * b.Den = (AB + BA) * s.Den := by rw [Int.mul_assoc, hDD]; exact s2.eq
  have x2 : p.Num * a.Den * b.Den = NN * p.Den := by rw [Int.mul_assoc, hDD]; exact p2.eq
  simp only [if_true, beq_self_eq_true, Bool.and_self]
  rw [spec_ValidFraction_true s3]
  simp only [Option.bind_some, if_true, hAB, hBA, hNN]
  rw [w64_id (n := AB) (by omega) (by omega), w64_id (n := BA) (by omega) (by omega), w64_id (n := AB + BA) (by omega) (by omega), w64_id (n := s.Num * a.Den) (by omega) (by omega), w64_id (n := s.Num * a.Den * b.Den) (by omega) (by omega),
    w64_id (n := (AB + BA) * s.Den) (by omega) (by omega), w64_id (n := NN) (by omega) (by omega), w64_id (n := p.Num * a.Den) (by omega) (by omega), w64_id (n := p.Num * a.Den * b.Den) (by omega) (by omega), w64_id (n := NN * p.Den) (by omega) (by omega),
    if_pos x1, spec_ValidFraction_true p4]
  simp only [Option.bind_some, if_true, x2, decide_true, Bool.not_true, Bool.false_eq_true, if_false]
  -- orders
  obtain ⟨x, y, c1, c2, c3, c4⟩ : ∃ x y : Int, impl_CompareFractions a b = some (x, 0) ∧ impl_CompareFractions b a = some (y, 0) ∧ x = -y ∧ ((AB < BA ∧ x = -1) ∨ (BA < AB ∧ x = 1) ∨ (AB = BA ∧ x = 0)) := by
    unfold impl_CompareFractions
    rw [binF va vb, binF vb va]
    unfold impl_compareFractions
    rw [hAB, hBA, w64_id (n := AB) (by omega) (by omega), w64_id (n := BA) (by omega) (by omega)]
    rcases Int.lt_trichotomy AB BA with h1 | h1 | h1
    · rw [if_pos h1, if_neg (by omega), if_pos (by omega)]; exact ⟨-1, 1, rfl, rfl, rfl, .inl ⟨h1, rfl⟩⟩
    · subst h1
      rw [if_neg (by omega), if_neg (by omega)]; exact ⟨0, 0, rfl, rfl, rfl, .inr (.inr ⟨rfl, rfl⟩)⟩
    · rw [if_neg (by omega), if_pos (by omega), if_pos (by omega)]; exact ⟨1, -1, rfl, rfl, rfl, .inr (.inl ⟨h1, rfl⟩)⟩
  rw [c1, Option.bind_some, c2, Option.bind_some]
  have hab : (a.Num == b.Num && (a.Den == b.Den && true)) = decide (AB = BA) := by
    by_cases h1 : AB = BA
    · have : a = b := Red.unique (by omega) (by omega) a5 b5 (by rw [hAB, hBA]; exact h1)
      rw [decide_eq_true h1, this]; simp
    · rw [decide_eq_false h1]
      refine Bool.eq_false_iff.2 fun h2 => h1 ?_
      simp only [Bool.and_eq_true, beq_iff_eq, and_true] at h2
      rw [← hAB, ← hBA, h2.1, h2.2]
  -- the beat
  obtain ⟨t, t1, t2, t3⟩ := low_ok (n := imax (AB - BA) (0 - (AB - BA))) (d := DD) (by omega) (by rw [imax_def]; omega) (by omega)
  have e4 : impl_BeatRate a b = some (t, 0) := by
    unfold impl_BeatRate
    rw [binF va vb, hAB, hBA, hDD, w64_id (n := AB) (by omega) (by omega), w64_id (n := BA) (by omega) (by omega), w64_id (n := DD) (by omega) (by omega), w64_id (n := AB - BA) (by omega) (by omega), w64_id (n := 0 - (AB - BA)) (by omega) (by omega)]
    exact t1
  rw [imax_def] at t2
  have te := t2.eq
  have tp := t2.pos
  have tnn : 0 ≤ t.Num := by
    refine Classical.byContradiction fun hneg => ?_
    have h1 : t.Num * DD < 0 := Int.mul_neg_of_neg_of_pos (by omega) p3
    have h2 : 0 ≤ max (AB - BA) (0 - (AB - BA)) * t.Den := Int.mul_nonneg (by omega) (by omega)
    omega
  have tz : (decide (t.Num = 0)) = decide (AB = BA) := by
    by_cases h1 : AB = BA
    · have h2 : max (AB - BA) (0 - (AB - BA)) = 0 := by omega
      rw [h2, Int.zero_mul] at te
      have : t.Num = 0 := (Int.mul_eq_zero.1 te).resolve_right (by omega)
      rw [decide_eq_true this, decide_eq_true h1]
    · rw [decide_eq_false h1, decide_eq_false]
      intro h2
      rw [h2, Int.zero_mul] at te
      have := (Int.mul_eq_zero.1 te.symm).resolve_right (by omega)
      omega
  -- a fraction made
  have n1 : (-3 : Int) * a.Num = w64 ((-3) * a.Num) := (w64_id (by omega) (by omega)).symm
  have n2 : (-3 : Int) * a.Den = w64 ((-3) * a.Den) := (w64_id (by omega) (by omega)).symm
  obtain ⟨u, u1, u2, u3⟩ := low_ok (n := (-3) * a.Num) (d := (-3) * a.Den) (by omega) (by omega) (by omega)
  have e5 : impl_MakeFraction ((-3) * a.Num) ((-3) * a.Den) = some (u, 0) := by
    unfold impl_MakeFraction
    rw [within_eqR, decide_eq_true (by omega)]
    simp only [Option.bind_some, if_true]
    rw [within_eqR, decide_eq_true (by omega)]
    simp only [Option.bind_some, if_true]
    rw [if_neg (by simp; omega)]
    exact u1
  have hu : u = a := by
    refine Red.unique u2.pos (by omega) u2.cop a5 ?_
    have := u2.eq
    have h3 : (-3 : Int) * (u.Num * a.Den) = (-3) * (a.Num * u.Den) := by
      rw [← Int.mul_assoc, Int.mul_comm (-3) u.Num, Int.mul_assoc, this, Int.mul_assoc]
    omega
  -- texts
  have hD1 : impl_Decimal a.Num = some (txt a.Num) := Decimal_eq (by omega) (by omega)
  have hD2 : impl_Decimal a.Den = some (txt a.Den) := Decimal_eq (by omega) (by omega)
  have hl1 := txt_len (n := a.Num) (by omega) (by omega)
  have hl2 := txt_len (n := a.Den) (by omega) (by omega)
  have hno : (47 : UInt8) ∉ txt a.Num := fun hmem => by
    rcases txt_mem hmem with h1 | h1
    · exact absurd h1 (by decide)
    · exact absurd h1.1 (by decide)
  obtain ⟨T, hT, hR⟩ : ∃ T, impl_FractionText a = some T ∧ impl_ReadFraction T = some (a, true) := by
    have hTx : impl_FractionText a = some (if a.Den = 1 then txt a.Num else txt a.Num ++ 47 :: txt a.Den) := by
      unfold impl_FractionText
      rw [ValidFraction_true va, Option.bind_some, if_pos rfl, hD1]
      simp only [Option.bind_some]
      by_cases h1 : a.Den = 1
      · rw [if_pos h1, if_pos h1]
      · rw [if_neg h1, if_neg h1, app_ok (by simp; omega), Option.bind_some, hD2, Option.bind_some, app_ok (by simp; omega), Option.bind_some]
        simp
    refine ⟨_, hTx, ?_⟩
    unfold impl_ReadFraction
    by_cases h1 : a.Den = 1
    · rw [if_pos h1] at hTx ⊢
      rw [Cut_none hno, Option.bind_some]
      simp only
      rw [ReadDecimal_txt (by omega) (by omega)]
      simp only [Option.bind_some, Bool.false_eq_true, if_false, if_true]
      rw [if_neg (by simpa using txt_ne a.Num)]
      have ha' : GFraction.mk a.Num 1 = a := by rw [← h1]
      rw [ha', hTx]
      simp only [Option.bind_some, beq_self_eq_true, Bool.not_true, Bool.false_eq_true, if_false]
    · rw [if_neg h1] at hTx ⊢
      rw [Cut_app hno (by omega), Option.bind_some]
      simp only
      rw [ReadDecimal_txt (n := a.Num) (by omega) (by omega)]
      simp only [Option.bind_some, if_true]
      rw [ReadDecimal_txt (n := a.Den) (by omega) (by omega)]
      simp only [Option.bind_some, if_true]
      rw [if_neg (by simp)]
      rw [hTx]
      simp only [Option.bind_some, beq_self_eq_true, Bool.not_true, Bool.false_eq_true, if_false]
  rw [e4, Option.bind_some, ← n1, ← n2, e5, Option.bind_some, hT, Option.bind_some, hR, Option.bind_some]
  have hyw : w64 (0 - y) = -y := by rw [w64_id (by omega) (by omega)]; omega
  have hx0 : decide (x = 0) = decide (AB = BA) := by
    rcases c4 with ⟨k1, k2⟩ | ⟨k1, k2⟩ | ⟨k1, k2⟩
    · rw [decide_eq_false (by omega), decide_eq_false (by omega)]
    · rw [decide_eq_false (by omega), decide_eq_false (by omega)]
    · rw [decide_eq_true k2, decide_eq_true k1]
  simp only [if_true]
  rw [hyw, if_pos c3, if_pos (by omega), if_pos (by omega), hab, hx0, tz, hu]
  simp only [beq_self_eq_true, if_true, Bool.and_self]
  rw [if_pos (by omega)]
  exact wp_some rfl
end Go.Vs.G

