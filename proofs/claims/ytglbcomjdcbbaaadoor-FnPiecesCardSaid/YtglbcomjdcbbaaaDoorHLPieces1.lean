/- Plain facts about the typed functions, up to the law: no program in sight. No conditions. -/
import Derived.Test.YtglbcomjdcbbaaaDoorV5
import Derived.Test.YtglbcomjdcbbaaaDoorDLPieces
import Derived.Lib.ItoaNum
import Derived.Lib.ParseIntB
import Derived.Lib.Strings
import Derived.Lib.Join
namespace Go.Vs
open Go

section
variable {α β S B R : Type}

open Classical in
/-- a loop that looks at each round for a reason to stop -/
theorem scan {body : Int → Option (Step Int Unit R)} {kb : Unit → Option β} {kr : R → Option β} {s n : Nat} {c : Nat → Bool} {r : R} (hs : s ≤ n) (hn : n < 9223372036854775807)
    (hb : ∀ i : Nat, s ≤ i → i < n → body (i : Int) = some (if c i = true then .next ((i : Int) + 1) else .ret r)) (he : body (n : Int) = some (.brk ())) :
    onL (loop body loopLim (s : Int)) kb kr = if ∀ i, s ≤ i → i < n → c i = true then kb () else kr r := by
  by_cases h : ∀ i, s ≤ i → i < n → c i = true
  · rw [if_pos h]
    have := loop_brk (body := body) (fun j => ((s + j : Nat) : Int)) (b := ()) (n - s) (by omega) (fun j hj => by
      rw [hb (s + j) (by omega) (by omega), if_pos (h _ (by omega) (by omega))]; congr 2) (by rw [show s + (n - s) = n by omega]; exact he)
    simp only [Nat.add_zero] at this
    rw [this]; rfl
  · rw [if_neg h]
    have hex : ∃ k, s ≤ k ∧ k < n ∧ c k = false := by
      refine Classical.byContradiction fun hc => h fun i h1 h2 => ?_
      cases hci : c i with
      | true => rfl
      | false => exact absurd ⟨i, h1, h2, hci⟩ hc
    -- the first of them
    have hleast : ∃ k, (s ≤ k ∧ k < n ∧ c k = false) ∧ ∀ j, s ≤ j → j < k → c j = true := by
      obtain ⟨k, hk⟩ := hex
      induction k using Nat.strongRecOn with
      | _ k ih =>
        by_cases hall : ∀ j, s ≤ j → j < k → c j = true
        · exact ⟨k, hk, hall⟩
        · have : ∃ j, s ≤ j ∧ j < k ∧ c j = false := by
            refine Classical.byContradiction fun hc => hall fun i h1 h2 => ?_
            cases hci : c i with
            | true => rfl
            | false => exact absurd ⟨i, h1, h2, hci⟩ hc
          obtain ⟨j, h1, h2, h3⟩ := this
          exact ih j h2 ⟨h1, by omega, h3⟩
    obtain ⟨k, ⟨h1, h2, h3⟩, h4⟩ := hleast
    have := loop_ret' (body := body) (fun j => ((s + j : Nat) : Int)) (r := r) (k - s) (by omega) (fun j hj => by
      rw [hb (s + j) (by omega) (by omega), if_pos (h4 _ (by omega) (by omega))]; congr 2) (by
      rw [show s + (k - s) = k by omega, hb k h1 h2, h3]; rfl)
    simp only [Nat.add_zero] at this
    rw [this]; rfl
theorem w64_succ {i n : Nat} (h : i < n) (hn : n < 9223372036854775807) : w64 ((i : Int) + 1) = (i : Int) + 1 := w64_id (by omega) (by omega)
theorem at_of {l : List α} {i : Nat} (h : i < l.length) : at? l (i : Int) = some l[i] := at_nat h
end
end Go.Vs

namespace Go.Vs.G
open Go Go.Vs

/-- a source that can still be asked; B bounds the place that it has come to -/
structure SrcOk (B : Int) (s : GL00Src) : Prop where
  bytes : ∀ x, x ∈ s.code → 0 ≤ x ∧ x ≤ 255
  len : s.code.length ≤ 1000000
  at0 : 0 ≤ s.at_
  atB : s.at_ ≤ B
theorem SrcOk.mono {B B' : Int} {s : GL00Src} (h : SrcOk B s) (hB : B ≤ B') : SrcOk B' s := ⟨h.bytes, h.len, h.at0, Int.le_trans h.atB hB⟩
theorem srcOk_from {code : List Int} (h : okL (okI .u8) code) (hl : code.length ≤ 1000000) : SrcOk 0 (GL00Src.mk code 0 0) :=
  ⟨fun x hx => okU8 (h.2 x hx), hl, by simp, by simp⟩
theorem shr40 (n : Int) : shr? .u64 n 40 = some (n.fdiv (2 ^ 40)) := by
  simp [shr?, IntKind.bits]
theorem and255 (n : Int) : 0 ≤ bit_and .u64 n 255 ∧ bit_and .u64 n 255 ≤ 255 := by
  unfold bit_and
  rw [wu64_def]
  have h : (BitVec.ofInt IntKind.u64.bits n &&& BitVec.ofInt IntKind.u64.bits 255).toNat ≤ 255 := by
    rw [BitVec.toNat_and]
    exact Nat.le_trans Nat.and_le_right (by decide)
  omega
theorem next_ok {B : Int} {s : GL00Src} (h : SrcOk B s) (hB : B ≤ 4611686018427387904) : ∃ v s', spec_l00Src_next s = some (v, s') ∧ 0 ≤ v ∧ v ≤ 255 ∧ SrcOk (B + 1) s' := by
  have h1 := h.at0
  have h2 := h.atB
  have h3 := h.len
  have hat : w64 (s.at_ + 1) = s.at_ + 1 := w64_id (by omega) (by omega)
  have hb : ∃ b, (if s.at_ < (s.code.length : Int) then ((at? s.code s.at_).bind fun v1 => some (w64 v1)) else some 0) = some b ∧ 0 ≤ b ∧ b ≤ 255 := by
    split
    · rename_i hlt
      rw [at_ok h1 (by omega), Option.bind_some]
      obtain ⟨g1, g2⟩ := h.bytes s.code[s.at_.toNat] (List.getElem_mem (by omega))
      exact ⟨_, rfl, by rw [w64_id (by omega) (by omega)]; omega, by rw [w64_id (by omega) (by omega)]; omega⟩
    · exact ⟨0, rfl, by omega, by omega⟩
  obtain ⟨b, hb, b0, b1⟩ := hb
  unfold spec_l00Src_next
  rw [hb, Option.bind_some, hat]
  split
  · exact ⟨_, _, rfl, b0, b1, ⟨h.bytes, h.len, by simp only; omega, by simp only; omega⟩⟩
  · rw [shr40, Option.bind_some]
    have := and255 ((IntKind.wrap .u64 ((IntKind.wrap .u64 ((IntKind.wrap .u64 (s.seed * 6364136223846793005)) + (IntKind.wrap .u64 b))) + 1442695040888963407)).fdiv (2 ^ 40))
    exact ⟨_, _, rfl, by rw [w64_id (by omega) (by omega)]; omega, by rw [w64_id (by omega) (by omega)]; omega, ⟨h.bytes, h.len, by simp only; omega, by simp only; omega⟩⟩
theorem pick_ok {B : Int} {s : GL00Src} (h : SrcOk B s) (hB : B ≤ 4611686018427387000) (n : Int) : ∃ v s', spec_l00Src_pick s n = some (v, s') ∧ 0 ≤ v ∧ (v = 0 ∨ v < n) ∧ SrcOk (B + 2) s' := by
  unfold spec_l00Src_pick
  by_cases hn : n ≤ 1
  · rw [if_pos hn]; exact ⟨0, s, rfl, by omega, .inl rfl, h.mono (by omega)⟩
  · rw [if_neg hn]
    obtain ⟨v, s1, e1, v0, v1, k1⟩ := next_ok h (by omega)
    rw [e1, Option.bind_some]
    by_cases h2 : n > 200
    · rw [if_pos h2]
      obtain ⟨u, s2, e2, u0, u1, k2⟩ := next_ok k1 (by omega)
      simp only
      rw [e2, Option.bind_some, mod_ok (by omega), Option.bind_some, w64_id (n := v * 256) (by omega) (by omega), w64_id (by simp only; omega) (by simp only; omega)]
      have e : (v * 256 + u).tmod n = (v * 256 + u) % n := Int.tmod_eq_emod_of_nonneg (by omega)
      refine ⟨_, _, rfl, ?_, ?_, by rw [show B + 2 = B + 1 + 1 by omega]; exact k2⟩
      · simp only [e]; exact Int.emod_nonneg _ (by omega)
      · simp only [e]; right; exact Int.emod_lt_of_pos _ (by omega)
    · rw [if_neg h2, mod_ok (by omega), Option.bind_some]
      simp only
      have e : v.tmod n = v % n := Int.tmod_eq_emod_of_nonneg (by omega)
      refine ⟨_, _, rfl, ?_, ?_, k1.mono (by omega)⟩
      · rw [e]; exact Int.emod_nonneg _ (by omega)
      · rw [e]; right; exact Int.emod_lt_of_pos _ (by omega)
/-- one of some numbers -/
theorem among_ok {B : Int} {s : GL00Src} (h : SrcOk B s) (hB : B ≤ 4611686018427387000) {l : List Int} (hl : 1 ≤ l.length) (hl2 : l.length ≤ 1000) : ∃ v s', spec_l00Src_among s l = some (v, s') ∧ v ∈ l ∧ SrcOk (B + 2) s' := by
  unfold spec_l00Src_among
  obtain ⟨v, s1, e1, v0, v1, k1⟩ := pick_ok h hB (l.length : Int)
  rw [e1, Option.bind_some]
  simp only
  rw [at_ok v0 (by omega), Option.bind_some]
  exact ⟨_, _, rfl, List.getElem_mem _, k1⟩
end Go.Vs.G

namespace Go.Vs.G
open Go Go.Vs

theorem gcd_tmod (a b : Int) : Int.gcd b (a.tmod b) = Int.gcd a b := by
  rw [Int.gcd_comm b, Int.gcd, Int.natAbs_tmod, Int.gcd, Nat.gcd_comm a.natAbs, Nat.gcd_rec b.natAbs a.natAbs]
theorem tmod_lt (a b : Int) (hb : b ≠ 0) : (a.tmod b).natAbs < b.natAbs := by
  rw [Int.natAbs_tmod]; exact Nat.mod_lt _ (by omega)
theorem gcdLoop {a b : Int} {kb : Int → Option Int} {kr : Empty → Option Int} {Q : Int → Prop} (hb : b.natAbs < 9223372036854775808)
    (hk : ∀ g : Int, g.natAbs = Int.gcd a b → (0 ≤ a → 0 ≤ b → 0 ≤ g) → wp (kb g) Q) :
    wp (onL (loop (S := (Int × Int)) (B := Int) (R := Empty) (fun ((a2, b2) : Int × Int) => if b2 = 0 then (some (.brk a2)) else (mod? a2 b2).bind fun q1 => some (.next (b2, q1))) loopLim (a, b)) kb kr) Q := by
  refine wp_loop (fun s : Int × Int => Int.gcd s.1 s.2 = Int.gcd a b ∧ s.2.natAbs ≤ b.natAbs ∧ (0 ≤ a → 0 ≤ b → 0 ≤ s.1 ∧ 0 ≤ s.2)) (fun s => s.2.natAbs) ⟨rfl, Nat.le_refl _, fun h1 h2 => ⟨h1, h2⟩⟩ (by simp only; omega) ?_
  rintro ⟨a2, b2⟩ ⟨h1, h2, h3⟩
  simp only at h1 h2 h3 ⊢
  refine wp_ite (fun h => ?_) (fun h => ?_)
  · subst h
    exact wp_some (hk a2 (by rw [← h1]; simp) (fun g1 g2 => (h3 g1 g2).1))
  · rw [mod_ok h, Option.bind_some]
    have ht := tmod_lt a2 b2 h
    refine wp_some ⟨⟨by simp only; rw [gcd_tmod, h1], by simp only; omega, fun g1 g2 => ⟨(h3 g1 g2).2, Int.tmod_nonneg _ (h3 g1 g2).1⟩⟩, by simp only; omega⟩
theorem gcd_le {a b : Int} {B : Nat} (ha : a.natAbs ≤ B) (hb : b.natAbs ≤ B) : Int.gcd a b ≤ B := by
  by_cases h : a = 0
  · subst h; simpa using hb
  · exact Nat.le_trans (Nat.gcd_le_left _ (by omega)) ha
theorem impl_gcd_eq {a b : Int} (ha : a.natAbs ≤ 9223372036854775807) (hb : b.natAbs ≤ 9223372036854775807) : impl_gcd a b = some (Int.gcd a b : Int) := by
  refine eq_of_wp ?_
  unfold impl_gcd
  refine gcdLoop (by omega) fun g hg _ => wp_some ?_
  have := gcd_le ha hb
  rw [imax_def, w64_id (by omega) (by omega)]; omega
theorem spec_l00Gcd_eq {a b : Int} (ha : 0 ≤ a) (hb : 0 ≤ b) (hb2 : b.natAbs ≤ 9223372036854775807) : spec_l00Gcd a b = some (Int.gcd a b : Int) := by
  refine eq_of_wp ?_
  unfold spec_l00Gcd
  refine gcdLoop (by omega) fun g hg h0 => wp_some ?_
  have := h0 ha hb
  omega
/-- f is n / d in lowest terms -/
structure Red (n d : Int) (f : GFraction) : Prop where
  pos : 0 < f.Den
  cop : Int.gcd f.Num f.Den = 1
  eq : f.Num * d = n * f.Den
theorem dvd_of_cop {a b c : Int} (h : Int.gcd a b = 1) (hd : b ∣ a * c) : b ∣ c := by
  rw [← Int.natAbs_dvd_natAbs] at hd ⊢
  rw [Int.natAbs_mul] at hd
  have : Nat.Coprime b.natAbs a.natAbs := by rw [Nat.coprime_comm]; exact h
  exact this.dvd_of_dvd_mul_left hd
theorem Red.den_dvd {n d : Int} {f : GFraction} (h : Red n d f) : f.Den ∣ d := dvd_of_cop h.cop ⟨n, by rw [h.eq, Int.mul_comm]⟩
theorem Red.den_le {n d : Int} {f : GFraction} (h : Red n d f) (hd : d ≠ 0) : f.Den ≤ d.natAbs := by
  have := Nat.le_of_dvd (by omega) (Int.natAbs_dvd_natAbs.2 h.den_dvd)
  have := h.pos
  omega
theorem Red.unique {f g : GFraction} (hf : 0 < f.Den) (hg : 0 < g.Den) (cf : Int.gcd f.Num f.Den = 1) (cg : Int.gcd g.Num g.Den = 1) (h : f.Num * g.Den = g.Num * f.Den) : f = g := by
  have h1 : f.Den ∣ g.Den := dvd_of_cop cf ⟨g.Num, by rw [h, Int.mul_comm]⟩
  have h2 : g.Den ∣ f.Den := dvd_of_cop cg ⟨f.Num, by rw [← h, Int.mul_comm]⟩
  have hd : f.Den = g.Den := Int.le_antisymm (Int.le_of_dvd hg h1) (Int.le_of_dvd hf h2)
  have hn : f.Num = g.Num := by
    rw [hd] at h
    exact Int.eq_of_mul_eq_mul_right (by omega) h
  cases f; cases g
  simp_all
theorem pos_of_mul {g q : Int} (hg : 0 < g) (h : 0 < g * q) : 0 < q := by
  refine Classical.byContradiction fun hc => ?_
  have := Int.mul_nonneg (a := g) (b := -q) (by omega) (by omega)
  rw [Int.mul_neg] at this
  omega
theorem div_gcd {a b : Int} (g : Int) (hg : 0 < g) (hgd : g = (Int.gcd a b : Int)) : ∃ p q, a = g * p ∧ b = g * q ∧ Int.gcd p q = 1 := by
  have h1 : g ∣ a := by rw [hgd]; exact Int.gcd_dvd_left ..
  have h2 : g ∣ b := by rw [hgd]; exact Int.gcd_dvd_right ..
  obtain ⟨p, rfl⟩ := h1
  obtain ⟨q, rfl⟩ := h2
  refine ⟨p, q, rfl, rfl, ?_⟩
  rw [Int.gcd_mul_left] at hgd
  have h3 : (g.natAbs : Int) = g := by omega
  have h4 : g.natAbs * 1 = g.natAbs * p.gcd q := by
    have : (g.natAbs * p.gcd q : Nat) = g.natAbs := by omega
    omega
  exact (Nat.eq_of_mul_eq_mul_left (by omega) h4).symm
theorem impl_lowest_eq {n d : Int} (hd : d ≠ 0) (hn1 : n.natAbs ≤ 9223372036854775807) (hd1 : d.natAbs ≤ 9223372036854775807) : ∃ f, impl_lowest n d = some f ∧ Red n d f := by
  have hw1 : w64 (0 - n) = 0 - n := w64_id (by omega) (by omega)
  have hw2 : w64 (0 - d) = 0 - d := w64_id (by omega) (by omega)
  have hs : ∃ n' d', (if d < 0 then some (w64 (0 - n), w64 (0 - d)) else some (n, d)) = some (n', d') ∧ 0 < d' ∧ n'.natAbs ≤ 9223372036854775807 ∧ d'.natAbs ≤ 9223372036854775807 ∧ n' * d = n * d' := by
    split
    · refine ⟨_, _, rfl, by omega, by omega, by omega, ?_⟩
      rw [hw1, hw2]; simp [Int.neg_mul, Int.mul_neg]
    · exact ⟨_, _, rfl, by omega, hn1, hd1, rfl⟩
  obtain ⟨n', d', h1, h2, h3, h4, h5⟩ := hs
  unfold impl_lowest
  rw [h1, Option.bind_some]
  simp only
  rw [impl_gcd_eq h3 h4, Option.bind_some]
  have hg : 0 < (Int.gcd n' d' : Int) := by
    have : Int.gcd n' d' ≠ 0 := by
      intro h; rw [Int.gcd_eq_zero_iff] at h; omega
    omega
  obtain ⟨p, q, hp, hq, hpq⟩ := div_gcd _ hg rfl
  generalize (Int.gcd n' d' : Int) = g at hg hp hq
  subst hp hq
  rw [div_ok (by omega), Option.bind_some, div_ok (by omega), Option.bind_some]
  rw [Int.mul_tdiv_cancel_left _ (by omega), Int.mul_tdiv_cancel_left _ (by omega)]
  have hbp : p.natAbs ≤ (g * p).natAbs := by rw [Int.natAbs_mul]; exact Nat.le_mul_of_pos_left _ (by omega)
  have hbq : q.natAbs ≤ (g * q).natAbs := by rw [Int.natAbs_mul]; exact Nat.le_mul_of_pos_left _ (by omega)
  have e1 : IntKind.wrap .i64 p = p := w64_id (by omega) (by omega)
  have e2 : IntKind.wrap .i64 q = q := w64_id (by omega) (by omega)
  rw [e1, e2]
  refine ⟨_, rfl, pos_of_mul hg h2, hpq, ?_⟩
  · simp only
    have : g * (p * d) = g * (n * q) := by rw [← Int.mul_assoc, h5, ← Int.mul_assoc, ← Int.mul_assoc, Int.mul_comm g n]
    exact Int.eq_of_mul_eq_mul_left (by omega) this
theorem l02Make_eq {n d : Int} (hd : 0 < d) (hn1 : n.natAbs ≤ 9223372036854775807) (hd1 : d ≤ 9223372036854775807) : ∃ f, spec_l02Make n d = some f ∧ Red n d f := by
  unfold spec_l02Make
  have hs : spec_l00Size n = some (n.natAbs : Int) := by
    unfold spec_l00Size; split
    · rw [w64_id (by omega) (by omega)]; congr 1; omega
    · congr 1; omega
  rw [hs, Option.bind_some, spec_l00Gcd_eq (by omega) (by omega) (by omega), Option.bind_some]
  have hg0 : Int.gcd (n.natAbs : Int) d = Int.gcd n d := by simp [Int.gcd]
  rw [hg0]
  have hg : 0 < (Int.gcd n d : Int) := by
    have : Int.gcd n d ≠ 0 := by
      intro h; rw [Int.gcd_eq_zero_iff] at h; omega
    omega
  obtain ⟨p, q, hp, hq, hpq⟩ := div_gcd _ hg rfl
  generalize (Int.gcd n d : Int) = g at hg hp hq
  subst hp hq
  rw [div_ok (by omega), Option.bind_some, div_ok (by omega), Option.bind_some]
  rw [Int.mul_tdiv_cancel_left _ (by omega), Int.mul_tdiv_cancel_left _ (by omega)]
  have hbp : p.natAbs ≤ (g * p).natAbs := by rw [Int.natAbs_mul]; exact Nat.le_mul_of_pos_left _ (by omega)
  have hbq : q.natAbs ≤ (g * q).natAbs := by rw [Int.natAbs_mul]; exact Nat.le_mul_of_pos_left _ (by omega)
  have e1 : IntKind.wrap .i64 p = p := w64_id (by omega) (by omega)
  have e2 : IntKind.wrap .i64 q = q := w64_id (by omega) (by omega)
  rw [e1, e2]
  refine ⟨_, rfl, pos_of_mul hg hd, hpq, ?_⟩
  simp only
  rw [← Int.mul_assoc, Int.mul_comm p g]
end Go.Vs.G

namespace Go.Vs.G
open Go Go.Vs

/- counting -/
/- the same on both sides -/
/- draws -/
theorem one_ok {B : Int} {s : GL00Src} (h : SrcOk B s) (hB : B ≤ 4611686018427387000) (n : Int) : ∃ v s', spec_l00Src_one s n = some (v, s') ∧ SrcOk (B + 2) s' := by
  unfold spec_l00Src_one
  obtain ⟨v, s1, e1, _, _, k1⟩ := pick_ok h hB n
  rw [e1]; exact ⟨_, _, rfl, k1⟩
end Go.Vs.G

namespace Go.Vs
open Go

section
variable {α β γ R : Type}

/-- a list of which all fit, asked by a loop -/
theorem allS {f : α → Option Bool} (c : α → Bool) (l : List α) (hf : ∀ x, x ∈ l → f x = some (c x)) (hl : l.length < 9223372036854775807) {r : R}
    {body : Int → Option (Step Int Unit R)} {kb : Unit → Option γ} {kr : R → Option γ}
    (hb : ∀ (i : Int), body i = if i < (l.length : Int) then ((at? l i).bind fun v => (f v).bind fun q => if q = true then some (.next (w64 (i + 1))) else some (.ret r)) else some (.brk ())) :
    onL (loop body loopLim 0) kb kr = if ∀ x, x ∈ l → c x = true then kb () else kr r := by
  have := scan (body := body) (kb := kb) (kr := kr) (s := 0) (n := l.length) (c := fun i => if h : i < l.length then c l[i] else true) (r := r) (by omega) hl (fun i _ hi => by
    rw [hb, if_pos (by omega), at_of hi, Option.bind_some, hf _ (List.getElem_mem hi), Option.bind_some, w64_id (by omega) (by omega)]
    simp only [hi, dif_pos]
    cases c l[i] <;> rfl) (by rw [hb, if_neg (by omega)])
  simp only [Int.natCast_zero] at this
  rw [this]
  have e : (∀ i, 0 ≤ i → i < l.length → (if h : i < l.length then c l[i] else true) = true) ↔ ∀ x, x ∈ l → c x = true := by
    constructor
    · intro h x hx
      obtain ⟨i, hi, rfl⟩ := List.getElem_of_mem hx
      have := h i (by omega) hi
      simpa [hi] using this
    · intro h i _ hi
      simp [hi, h _ (List.getElem_mem hi)]
  split
  · rename_i h; rw [if_pos (e.1 h)]
  · rename_i h; rw [if_neg (fun h2 => h (e.2 h2))]
/-- the library's IndexFunc -/
theorem idxFS {f : α → Option Bool} (c : α → Bool) (l : List α) (hf : ∀ x, x ∈ l → f x = some (c x)) (hl : l.length < 9223372036854775807)
    {body : Int → Option (Step Int Unit Int)}
    (hb : ∀ (i : Int), body i = if i < (l.length : Int) then ((at? l i).bind fun v => (f v).bind fun r => if r = true then some (.ret i) else some (.next (w64 (i + 1)))) else some (.brk ())) :
    wp (onL (loop body loopLim 0) (fun (_ : Unit) => some (-1 : Int)) (fun r => some r)) fun r => (r = -1 ∧ l.any c = false) ∨ (∃ k : Nat, r = (k : Int) ∧ ∃ h : k < l.length, c l[k] = true ∧ (∀ j (h2 : j < k), c (l[j]'(by omega)) = false) ∧ l.any c = true) := by
  refine wp_loop (fun t : Int => ∃ k : Nat, t = (k : Int) ∧ k ≤ l.length ∧ ∀ j (h2 : j < k) (h3 : j < l.length), c l[j] = false) (fun t => (l.length - t).toNat) ⟨0, rfl, by omega, fun j hj => by omega⟩ (by omega) ?_
  rintro i ⟨k, rfl, hk, hall⟩
  rw [hb]
  refine wp_ite (fun h => ?_) (fun h => ?_)
  · have hk2 : k < l.length := by omega
    rw [at_of hk2, Option.bind_some, hf _ (List.getElem_mem hk2), Option.bind_some]
    refine wp_ite (fun h3 => ?_) (fun h3 => ?_)
    · exact wp_some (wp_some (.inr ⟨k, rfl, hk2, h3, fun j hj => hall j hj (by omega), List.any_eq_true.2 ⟨_, List.getElem_mem hk2, h3⟩⟩))
    · rw [w64_succ hk2 (by omega)]
      refine wp_some ⟨⟨k + 1, rfl, by omega, fun j hj hj2 => ?_⟩, by omega⟩
      rcases Nat.lt_or_ge j k with h4 | h4
      · exact hall j h4 hj2
      · obtain rfl : j = k := by omega
        simpa using h3
  · obtain rfl : k = l.length := by omega
    refine wp_some (wp_some (.inl ⟨rfl, ?_⟩))
    refine Bool.eq_false_iff.2 fun hc => ?_
    obtain ⟨x, hx, hx2⟩ := List.any_eq_true.1 hc
    obtain ⟨j, hj, rfl⟩ := List.getElem_of_mem hx
    rw [hall j hj hj] at hx2
    cases hx2
/-- the library's ContainsFunc -/
theorem contS {f : α → Option Bool} (c : α → Bool) (l : List α) (hf : ∀ x, x ∈ l → f x = some (c x)) (hl : l.length < 9223372036854775807)
    {body : Int → Option (Step Int Unit Int)}
    (hb : ∀ (i : Int), body i = if i < (l.length : Int) then ((at? l i).bind fun v => (f v).bind fun r => if r = true then some (.ret i) else some (.next (w64 (i + 1)))) else some (.brk ())) :
    ((onL (loop body loopLim 0) (fun (_ : Unit) => some (-1 : Int)) (fun r => some r)).bind fun r => some (decide (r ≥ 0))) = some (l.any c) := by
  obtain ⟨r, h1, h2⟩ := idxFS c l hf hl hb
  rw [h1, Option.bind_some]
  rcases h2 with ⟨rfl, h⟩ | ⟨k, rfl, _, _, _, h⟩
  · rw [h]; rfl
  · rw [h, decide_eq_true (by omega)]
/-- a loop whose state at each round is told -/
theorem wp_cnt {S B : Type} {Q : γ → Prop} {body : S → Option (Step S B R)} {kb : B → Option γ} {kr : R → Option γ} {s0 : S} (st : Nat → S) (n : Nat) (h0 : s0 = st 0) (hn : n < 18446744073709551616)
    (hs : ∀ k, k < n → body (st k) = some (.next (st (k + 1)))) {b : B} (he : body (st n) = some (.brk b)) (hq : wp (kb b) Q) : wp (onL (loop body loopLim s0) kb kr) Q := by
  rw [h0, loop_brk st n hn hs he]; exact hq
end
end Go.Vs

namespace Go.Vs
theorem wp_seq {α β : Type} {A : Option β} {k : β → Option α} {P : β → Prop} {Q : α → Prop} (h : wp A P) (hk : ∀ x, P x → wp (k x) Q) : wp (A.bind k) Q := by
  obtain ⟨x, rfl, hx⟩ := h; exact hk x hx
end Go.Vs
namespace Go.Vs.G
open Go Go.Vs

section
variable {α : Type} {Q : α → Prop} {B : Int} {s : GL00Src}
theorem wp_pick {n : Int} {k : Int × GL00Src → Option α} (h : SrcOk B s) (hB : B ≤ 4611686018427387000) (hk : ∀ v s', 0 ≤ v → (v = 0 ∨ v < n) → SrcOk (B + 2) s' → wp (k (v, s')) Q) : wp ((spec_l00Src_pick s n).bind k) Q := by
  obtain ⟨v, s', e, h0, h1, h2⟩ := pick_ok h hB n
  rw [e]; exact hk v s' h0 h1 h2
theorem wp_one {n : Int} {k : Bool × GL00Src → Option α} (h : SrcOk B s) (hB : B ≤ 4611686018427387000) (hk : ∀ v s', SrcOk (B + 2) s' → wp (k (v, s')) Q) : wp ((spec_l00Src_one s n).bind k) Q := by
  obtain ⟨v, s', e, h2⟩ := one_ok h hB n
  rw [e]; exact hk v s' h2
theorem wp_among {l : List Int} {k : Int × GL00Src → Option α} (h : SrcOk B s) (hB : B ≤ 4611686018427387000) (hl : 1 ≤ l.length) (hl2 : l.length ≤ 1000) (hk : ∀ v s', v ∈ l → SrcOk (B + 2) s' → wp (k (v, s')) Q) : wp ((spec_l00Src_among s l).bind k) Q := by
  obtain ⟨v, s', e, h1, h2⟩ := among_ok h hB hl hl2
  rw [e]; exact hk v s' h1 h2
theorem wp_from {code : List Int} {k : GL00Src → Option α} (h : okL (okI .u8) code) (hl : code.length ≤ 1000000) (hk : ∀ s, SrcOk 0 s → wp (k s) Q) : wp ((spec_l00From code).bind k) Q := hk _ (srcOk_from h hl)
theorem wp_bif {b : Bool} {A A' : Option α} (h1 : b = true → wp A Q) (h2 : b = false → wp A' Q) : wp (if b = true then A else A') Q := by
  cases b
  · exact h2 rfl
  · exact h1 rfl
end
end Go.Vs.G

namespace Go.Vs
open Go
section
variable {α : Type} [Inhabited α]
def gd (l : List α) (i : Nat) : α := l.getD i default
theorem gd_of {l : List α} {i : Nat} (h : i < l.length) : gd l i = l[i] := by unfold gd; simp [h]
theorem at_gd {l : List α} {i : Nat} (h : i < l.length) : at? l (i : Int) = some (gd l i) := by rw [at_of h, gd_of h]
theorem gd_mem {l : List α} {i : Nat} (h : i < l.length) : gd l i ∈ l := by rw [gd_of h]; exact List.getElem_mem h
end
end Go.Vs
namespace Go.Vs.G
open Go Go.Vs
def vpt (p : GPoint) : Bool := decide (0 ≤ p.X ∧ p.X ≤ 1000) && decide (0 ≤ p.Y ∧ p.Y ≤ 1000)
def vps (j : List GPoint) : Bool := decide (1 ≤ j.length ∧ j.length ≤ 8) && j.all vpt
theorem within_d (n a b : Int) : impl_within n a b = some (decide (a ≤ n ∧ n ≤ b)) := by
  unfold impl_within
  by_cases h : n ≥ a
  · rw [if_pos h]; exact congrArg some (decide_eq_decide.2 (by omega))
  · rw [if_neg h, decide_eq_false (by omega)]
theorem l00In_d (n a b : Int) : spec_l00In n a b = some (decide (a ≤ n ∧ n ≤ b)) := by
  unfold spec_l00In
  by_cases h : n ≥ a
  · rw [if_pos h]; exact congrArg some (decide_eq_decide.2 (by omega))
  · rw [if_neg h, decide_eq_false (by omega)]
/- what lies between -/
section
variable {a b : List GPoint} (ha : vps a = true) (hb : vps b = true) (hl : a.length = b.length) {p n : Int} (hp : 0 ≤ p ∧ p ≤ n) (hn : 1 ≤ n ∧ n ≤ 10000)
include ha hb hl hp hn
end
end Go.Vs.G

namespace Go.Vs
open Go
/-- a sum -/
def sm (f : Nat → Int) : Nat → Int
  | 0 => 0
  | k + 1 => sm f k + f k
theorem sm_bd {f : Nat → Int} {lo hi : Int} : ∀ {k : Nat}, (∀ i, i < k → lo ≤ f i ∧ f i ≤ hi) → lo * k ≤ sm f k ∧ sm f k ≤ hi * k
  | 0, _ => by simp [sm]
  | k + 1, h => by
    have h1 := sm_bd (k := k) fun i hi => h i (by omega)
    have h2 := h k (by omega)
    rw [sm, Int.natCast_succ, Int.mul_add, Int.mul_add]; omega
end Go.Vs
namespace Go.Vs.G
open Go Go.Vs
def vlp (l : List Int) : Bool := decide (1 ≤ l.length ∧ l.length ≤ 60) && l.all fun x => decide (0 ≤ x ∧ x ≤ 1000)
/- turned -/
end Go.Vs.G

namespace Go.Vs.G
open Go Go.Vs
def vpp (p : GPart) : Bool := decide ((1 ≤ p.Bars ∧ p.Bars ≤ 200) ∧ (1 ≤ p.Beats ∧ p.Beats ≤ 12) ∧ 20 ≤ p.Tempo ∧ p.Tempo ≤ 300)
theorem vpp_ok {p : GPart} (h : vpp p = true) : (1 ≤ p.Bars ∧ p.Bars ≤ 200) ∧ (1 ≤ p.Beats ∧ p.Beats ≤ 12) ∧ 20 ≤ p.Tempo ∧ p.Tempo ≤ 300 := of_decide_eq_true h
theorem validPart_eq (p : GPart) : impl_validPart p = some (vpp p) := by
  unfold impl_validPart vpp
  rw [within_d, within_d, within_d, Option.bind_some, Option.bind_some, Option.bind_some]
  by_cases h1 : 1 ≤ p.Bars ∧ p.Bars ≤ 200
  · rw [if_pos (decide_eq_true h1)]
    by_cases h2 : 1 ≤ p.Beats ∧ p.Beats ≤ 12
    · rw [if_pos (decide_eq_true h2)]; exact congrArg some (decide_eq_decide.2 (by omega))
    · rw [if_neg (by simpa using h2), decide_eq_false (by omega)]
  · rw [if_neg (by simpa using h1), decide_eq_false (by omega)]
theorem l19One_eq (p : GPart) : spec_l19One p = some (vpp p) := by
  unfold spec_l19One vpp
  rw [l00In_d, l00In_d, l00In_d, Option.bind_some, Option.bind_some, Option.bind_some]
  by_cases h1 : 1 ≤ p.Bars ∧ p.Bars ≤ 200
  · rw [if_pos (decide_eq_true h1)]
    by_cases h2 : 1 ≤ p.Beats ∧ p.Beats ≤ 12
    · rw [if_pos (decide_eq_true h2)]; exact congrArg some (decide_eq_decide.2 (by omega))
    · rw [if_neg (by simpa using h2), decide_eq_false (by omega)]
  · rw [if_neg (by simpa using h1), decide_eq_false (by omega)]
def vpc (l : List GPart) : Bool := decide (1 ≤ l.length ∧ l.length ≤ 12) && l.all vpp
theorem ValidPiece_eq {l : List GPart} (hl : l.length ≤ 1000000) : impl_ValidPiece l = some (vpc l) := by
  unfold impl_ValidPiece vpc
  have hcf : slices_ContainsFunc_impl_Part_impl_Part_803 l (fun a0 => impl_ValidPiece_1 a0) = some (l.any fun p => !vpp p) := by
    unfold slices_ContainsFunc_impl_Part_impl_Part_803 slices_IndexFunc_impl_Part_impl_Part_825
    refine contS (fun p => !vpp p) l (fun p hp => ?_) (by omega) (fun _ => rfl)
    unfold impl_ValidPiece_1
    rw [validPart_eq, Option.bind_some]
  rw [hcf, Option.bind_some]
  have e : (!l.any fun p => !vpp p) = l.all vpp := by rw [List.not_any_eq_all_not]; simp
  rw [e]
  by_cases h1 : 1 ≤ l.length
  · by_cases h2 : l.length ≤ 12
    · rw [if_pos (by omega), if_pos (by omega), decide_eq_true ⟨h1, h2⟩, Bool.true_and]
    · rw [if_pos (by omega), if_neg (by omega), decide_eq_false (by omega), Bool.false_and]
  · rw [if_neg (by omega), decide_eq_false (by omega), Bool.false_and]
theorem l19Ok_eq {l : List GPart} (hl : l.length ≤ 1000000) : spec_l19Ok l = some (vpc l) := by
  unfold spec_l19Ok
  rw [allS vpp l (f := fun x => some (vpp x)) (fun _ _ => rfl) (by omega) (r := false)]
  · rw [l00In_d, Option.bind_some]
    unfold vpc
    by_cases h : ∀ x, x ∈ l → vpp x = true
    · rw [if_pos h, List.all_eq_true.2 h, Bool.and_true]; exact congrArg some (decide_eq_decide.2 (by omega))
    · rw [if_neg h]
      have : (l.all vpp) = false := by rw [Bool.eq_false_iff]; exact fun hc => h (List.all_eq_true.1 hc)
      rw [this, Bool.and_false]
  · intro i
    by_cases hi : i < (l.length : Int)
    · rw [if_pos hi, if_pos hi]
      cases ha : at? l i with
      | none => rfl
      | some v => simp only [Option.bind_some, l19One_eq]
    · rw [if_neg hi, if_neg hi]
theorem vpc_len {l : List GPart} (h : vpc l = true) : 1 ≤ l.length ∧ l.length ≤ 12 := by
  unfold vpc at h
  simp only [Bool.and_eq_true, decide_eq_true_eq, List.all_eq_true] at h
  exact h.1
theorem vpc_gd {l : List GPart} (h : vpc l = true) {i : Nat} (hi : i < l.length) : vpp (gd l i) = true := by
  unfold vpc at h
  simp only [Bool.and_eq_true, decide_eq_true_eq, List.all_eq_true] at h
  exact h.2 _ (gd_mem hi)
/- beats -/
def bts (p : GPart) : Nat := (p.Bars * p.Beats).toNat
theorem bts_ok {p : GPart} (h : vpp p = true) : (bts p : Int) = p.Bars * p.Beats ∧ 1 ≤ bts p ∧ bts p ≤ 2400 := by
  obtain ⟨h1, h2, h3⟩ := vpp_ok h
  have b1 : 0 < p.Bars * p.Beats := Int.mul_pos (by omega) (by omega)
  have b2 : p.Bars * p.Beats ≤ 200 * 12 := Int.mul_le_mul h1.2 h2.2 (by omega) (by omega)
  unfold bts
  omega
def nb (l : List GPart) : Nat → Nat
  | 0 => 0
  | i + 1 => nb l i + bts (gd l i)
theorem nb_cons (p : GPart) (l : List GPart) : ∀ i, nb (p :: l) (i + 1) = bts p + nb l i
  | 0 => by simp [nb, gd]
  | i + 1 => by rw [nb, nb_cons p l i, nb]; simp only [gd, List.getD_cons_succ]; omega
theorem nb_mono {l : List GPart} {i j : Nat} (h : i ≤ j) : nb l i ≤ nb l j := by
  induction j with
  | zero => rw [show i = 0 by omega]; exact Nat.le_refl _
  | succ j ih =>
    rcases Nat.lt_or_ge i (j + 1) with h1 | h1
    · have := ih (by omega); rw [nb]; omega
    · rw [show i = j + 1 by omega]; exact Nat.le_refl _
theorem nb_bd {l : List GPart} (h : vpc l = true) : ∀ i, i ≤ l.length → i ≤ nb l i ∧ nb l i ≤ 2400 * i
  | 0, _ => by simp [nb]
  | i + 1, hi => by
    have h1 := nb_bd h i (by omega)
    have h2 := bts_ok (vpc_gd h (show i < l.length by omega))
    rw [nb]; omega
/-- all beats -/
abbrev NB (l : List GPart) : Nat := nb l l.length
theorem NB_bd {l : List GPart} (h : vpc l = true) : 1 ≤ NB l ∧ NB l ≤ 28800 := by
  have h1 := nb_bd h l.length (Nat.le_refl _)
  have h2 := vpc_len h
  unfold NB; omega
section
variable {l : List GPart} (h : vpc l = true)
include h
theorem beatsOf_eq : impl_beatsOf l = some (NB l : Int) := by
  obtain ⟨l1, l2⟩ := vpc_len h
  unfold impl_beatsOf
  refine eq_of_wp ?_
  refine wp_cnt (fun k => ((nb l k : Int), (k : Int))) l.length rfl (by omega) (fun k hk => ?_) (b := (NB l : Int)) ?_ (wp_some rfl)
  · have h1 := nb_bd h k (by omega)
    obtain ⟨h2, h3, h4⟩ := bts_ok (vpc_gd h hk)
    simp only
    rw [if_pos (by omega), at_gd hk, Option.bind_some, ← h2, w64_id (n := (bts (gd l k) : Int)) (by omega) (by omega), w64_id (by omega) (by omega), w64_id (by omega) (by omega), nb, Int.natCast_add]; rfl
  · simp only; rw [if_neg (by omega)]
theorem l19Beats_eq : spec_l19Beats l = some (NB l : Int) := by
  obtain ⟨l1, l2⟩ := vpc_len h
  unfold spec_l19Beats
  refine eq_of_wp ?_
  refine wp_cnt (fun k => ((nb l k : Int), (k : Int))) l.length rfl (by omega) (fun k hk => ?_) (b := (NB l : Int)) ?_ (wp_some rfl)
  · have h1 := nb_bd h k (by omega)
    obtain ⟨h2, h3, h4⟩ := bts_ok (vpc_gd h hk)
    simp only
    rw [if_pos (by omega), at_gd hk, Option.bind_some, Option.bind_some, ← h2, w64_id (n := (bts (gd l k) : Int)) (by omega) (by omega), w64_id (by omega) (by omega), w64_id (by omega) (by omega), nb, Int.natCast_add]; rfl
  · simp only; rw [if_neg (by omega)]
end
/- the common part of a second -/
theorem lcm_ok {a b : Int} (ha : 1 ≤ a ∧ a ≤ 100000000) (hb : 1 ≤ b ∧ b ≤ 1000) : ∃ m, impl_commonLength a b = some m ∧ ((spec_l00Gcd a b).bind fun r1 => (div? .i64 a r1).bind fun q1 => some (w64 (q1 * b))) = some m ∧ a ∣ m ∧ b ∣ m ∧ 1 ≤ m := by
  have hg : 0 < (Int.gcd a b : Int) := by
    have := Int.gcd_pos_of_ne_zero_left b (show a ≠ 0 by omega)
    omega
  obtain ⟨p, q, h1, h2, _⟩ := div_gcd (a := a) (b := b) _ hg rfl
  have hp := pos_of_mul hg (show 0 < (Int.gcd a b : Int) * p by omega)
  have hq := pos_of_mul hg (show 0 < (Int.gcd a b : Int) * q by omega)
  have hd : a.tdiv (Int.gcd a b : Int) = p := by
    rw [Int.tdiv_eq_ediv_of_nonneg (by omega)]
    exact Int.ediv_eq_of_eq_mul_right (by omega) h1
  have hpa : p ≤ a := by
    have := Int.mul_le_mul_of_nonneg_right (show (1 : Int) ≤ (Int.gcd a b : Int) by omega) (show 0 ≤ p by omega)
    omega
  have hm1 : 0 < p * b := Int.mul_pos hp (by omega)
  have hm3 : p * b ≤ 100000000 * 1000 := Int.mul_le_mul (by omega) hb.2 (by omega) (by omega)
  refine ⟨p * b, ?_, ?_, ⟨q, ?_⟩, ⟨p, Int.mul_comm _ _⟩, by omega⟩
  · unfold impl_commonLength
    rw [impl_gcd_eq (by omega) (by omega), Option.bind_some, div_ok (by omega), Option.bind_some, hd]
    show some (w64 (w64 p * b)) = _
    rw [w64_id (n := p) (by omega) (by omega), w64_id (by omega) (by omega)]
  · rw [spec_l00Gcd_eq (by omega) (by omega) (by omega), Option.bind_some, div_ok (by omega), Option.bind_some, hd]
    show some (w64 (w64 p * b)) = _
    rw [w64_id (n := p) (by omega) (by omega), w64_id (by omega) (by omega)]
  · calc p * b = p * ((Int.gcd a b : Int) * q) := by rw [← h2]
      _ = ((Int.gcd a b : Int) * p) * q := by simp only [Int.mul_assoc, Int.mul_comm, Int.mul_left_comm]
      _ = a * q := by rw [← h1]
def lc (a b : Int) : Int := (impl_commonLength a b).getD 0
theorem lc_ok {a b : Int} (ha : 1 ≤ a ∧ a ≤ 100000000) (hb : 1 ≤ b ∧ b ≤ 1000) : impl_commonLength a b = some (lc a b) ∧ ((spec_l00Gcd a b).bind fun r1 => (div? .i64 a r1).bind fun q1 => some (w64 (q1 * b))) = some (lc a b) ∧ a ∣ lc a b ∧ b ∣ lc a b ∧ 1 ≤ lc a b := by
  obtain ⟨m, h1, h2, h3⟩ := lcm_ok ha hb
  have : lc a b = m := by unfold lc; rw [h1]; rfl
  rw [this]; exact ⟨h1, h2, h3⟩
def uf (l : List GPart) : Nat → Option Int
  | 0 => some 1
  | k + 1 => match uf l k with
    | none => none
    | some u => if lc u (gd l k).Tempo > 100000000 then none else some (lc u (gd l k).Tempo)
theorem uf_none {l : List GPart} : ∀ {k j : Nat}, k ≤ j → uf l k = none → uf l j = none := by
  intro k j hkj h
  induction j with
  | zero => rw [show k = 0 by omega] at h; exact h
  | succ j ih =>
    rcases Nat.lt_or_ge k (j + 1) with h1 | h1
    · rw [uf, ih (by omega)]
    · rw [show j + 1 = k by omega]; exact h
theorem uf_ok {l : List GPart} (h : vpc l = true) : ∀ {k : Nat} {u : Int}, k ≤ l.length → uf l k = some u → (1 ≤ u ∧ u ≤ 100000000) ∧ ∀ i, i < k → (gd l i).Tempo ∣ u
  | 0, u, _, hu => by simp only [uf, Option.some.injEq] at hu; subst hu; exact ⟨by omega, fun i hi => by omega⟩
  | k + 1, u, hk, hu => by
    rw [uf] at hu
    split at hu
    · cases hu
    · rename_i v hv
      obtain ⟨h1, h2⟩ := uf_ok h (by omega) hv
      obtain ⟨_, _, h3⟩ := vpp_ok (vpc_gd h (show k < l.length by omega))
      obtain ⟨_, _, g3, g4, g5⟩ := lc_ok h1 (b := (gd l k).Tempo) (by omega)
      split at hu
      · cases hu
      · rename_i hc
        cases hu
        refine ⟨by omega, fun i hi => ?_⟩
        rcases Nat.lt_or_ge i k with hik | hik
        · exact Int.dvd_trans (h2 i hik) g3
        · rw [show i = k by omega]; exact g4
def us (l : List GPart) : Int := (uf l l.length).getD 0
theorem us_ok {l : List GPart} (h : vpc l = true) (h0 : us l ≠ 0) : (1 ≤ us l ∧ us l ≤ 100000000) ∧ ∀ i, i < l.length → (gd l i).Tempo ∣ us l := by
  unfold us at h0 ⊢
  cases hu : uf l l.length with
  | none => rw [hu] at h0; exact absurd rfl h0
  | some u => exact uf_ok h (Nat.le_refl _) hu
section
variable {l : List GPart} (h : vpc l = true)
include h
theorem unitsOf_eq : impl_unitsOf l = some (us l) := by
  obtain ⟨l1, l2⟩ := vpc_len h
  unfold impl_unitsOf
  refine eq_of_wp ?_
  refine wp_loop (fun s : Int × Int => ∃ k : Nat, s.2 = (k : Int) ∧ k ≤ l.length ∧ uf l k = some s.1) (fun s => (l.length - s.2).toNat) ⟨0, rfl, by omega, rfl⟩ (by simp only; omega) ?_
  rintro ⟨u, x⟩ ⟨k, rfl, hk, hu⟩
  simp only at hu ⊢
  refine wp_ite (fun hx => ?_) (fun hx => ?_)
  · have hk2 : k < l.length := by omega
    obtain ⟨g1, _⟩ := uf_ok h hk hu
    obtain ⟨_, _, g3⟩ := vpp_ok (vpc_gd h hk2)
    obtain ⟨e1, _, _, _, e5⟩ := lc_ok g1 (b := (gd l k).Tempo) (by omega)
    rw [at_gd hk2, Option.bind_some, e1, Option.bind_some, w64_id (by omega) (by omega)]
    have hn : uf l (k + 1) = if lc u (gd l k).Tempo > 100000000 then none else some (lc u (gd l k).Tempo) := by rw [uf, hu]
    refine wp_ite (fun hc => ?_) (fun hc => ?_)
    · rw [if_pos hc] at hn
      refine wp_some (wp_some ?_)
      unfold us; rw [uf_none hk2 hn]; rfl
    · rw [if_neg hc] at hn
      exact wp_some ⟨⟨k + 1, by simp only; omega, hk2, hn⟩, by simp only; omega⟩
  · refine wp_some (wp_some ?_)
    obtain rfl : k = l.length := by omega
    unfold us; rw [hu]; rfl
theorem l19Parts_eq : spec_l19Parts l = some (us l) := by
  obtain ⟨l1, l2⟩ := vpc_len h
  unfold spec_l19Parts
  refine eq_of_wp ?_
  refine wp_loop (fun s : Int × Int => ∃ k : Nat, s.2 = (k : Int) ∧ k ≤ l.length ∧ uf l k = some s.1) (fun s => (l.length - s.2).toNat) ⟨0, rfl, by omega, rfl⟩ (by simp only; omega) ?_
  rintro ⟨u, x⟩ ⟨k, rfl, hk, hu⟩
  simp only at hu ⊢
  refine wp_ite (fun hx => ?_) (fun hx => ?_)
  · have hk2 : k < l.length := by omega
    obtain ⟨g1, _⟩ := uf_ok h hk hu
    obtain ⟨_, _, g3⟩ := vpp_ok (vpc_gd h hk2)
    obtain ⟨_, e1, _, _, e5⟩ := lc_ok g1 (b := (gd l k).Tempo) (by omega)
    simp only [Option.bind_eq_some_iff, Option.some.injEq] at e1
    obtain ⟨r1, e2, q1, e3, e4⟩ := e1
    rw [at_gd hk2, Option.bind_some, e2, Option.bind_some, e3, Option.bind_some, Option.bind_some, e4, w64_id (n := (k : Int) + 1) (by omega) (by omega)]
    have hn : uf l (k + 1) = if lc u (gd l k).Tempo > 100000000 then none else some (lc u (gd l k).Tempo) := by rw [uf, hu]
    refine wp_ite (fun hc => ?_) (fun hc => ?_)
    · rw [if_pos hc] at hn
      refine wp_some (wp_some ?_)
      unfold us; rw [uf_none hk2 hn]; rfl
    · rw [if_neg hc] at hn
      exact wp_some ⟨⟨k + 1, by simp only; omega, hk2, hn⟩, by simp only; omega⟩
  · refine wp_some (wp_some ?_)
    obtain rfl : k = l.length := by omega
    unfold us; rw [hu]; rfl
end
/- the time of a beat -/
def stp1 (u : Int) (p : GPart) : Int := (60 * u).tdiv p.Tempo
def sa (u : Int) : List GPart → Nat → Int
  | [], _ => 0
  | p :: l, k => if k < bts p then stp1 u p else sa u l (k - bts p)
theorem sa_at (u : Int) : ∀ (l : List GPart) (i j : Nat), i < l.length → j < bts (gd l i) → sa u l (nb l i + j) = stp1 u (gd l i)
  | [], i, j, h, _ => by simp at h
  | p :: l, 0, j, _, hj => by
    have hg : gd (p :: l) 0 = p := rfl
    rw [hg] at hj ⊢
    rw [nb, Nat.zero_add, sa, if_pos hj]
  | p :: l, i + 1, j, hi, hj => by
    have hg : gd (p :: l) (i + 1) = gd l i := by simp [gd]
    rw [hg] at hj ⊢
    rw [nb_cons, sa, if_neg (by omega), show bts p + nb l i + j - bts p = nb l i + j by omega]
    exact sa_at u l i j (by simpa using hi) hj
def Tbt (u : Int) (l : List GPart) (k : Nat) : Int := sm (sa u l) k
theorem T_add (u : Int) {l : List GPart} {i : Nat} (hi : i < l.length) : ∀ r : Nat, r ≤ bts (gd l i) → Tbt u l (nb l i + r) = Tbt u l (nb l i) + r * stp1 u (gd l i)
  | 0, _ => by simp
  | r + 1, hr => by
    have := T_add u hi r (by omega)
    unfold Tbt at this ⊢
    rw [← Nat.add_assoc, sm, this, sa_at u l i r hi (by omega), Int.natCast_succ, Int.add_mul, Int.one_mul]; omega
theorem part_of {l : List GPart} {k : Nat} (hk : k < NB l) : ∃ i j, i < l.length ∧ j < bts (gd l i) ∧ k = nb l i + j := by
  have : ∀ n, k < nb l n → ∃ i j, i < n ∧ j < bts (gd l i) ∧ k = nb l i + j := by
    intro n
    induction n with
    | zero => intro h; simp [nb] at h
    | succ n ih =>
      intro h
      rcases Nat.lt_or_ge k (nb l n) with h1 | h1
      · obtain ⟨i, j, a, b, c⟩ := ih h1; exact ⟨i, j, by omega, b, c⟩
      · rw [nb] at h
        exact ⟨n, k - nb l n, by omega, by omega, by omega⟩
  exact this l.length hk
section
variable {l : List GPart} (h : vpc l = true) {u : Int} (hu : 1 ≤ u ∧ u ≤ 100000000)
include h hu
theorem stp1_bd {i : Nat} (hi : i < l.length) (hd : (gd l i).Tempo ∣ u) : 1 ≤ stp1 u (gd l i) ∧ stp1 u (gd l i) ≤ 300000000 := by
  obtain ⟨_, _, h3⟩ := vpp_ok (vpc_gd h hi)
  unfold stp1
  rw [Int.tdiv_eq_ediv_of_nonneg (by omega)]
  constructor
  · have : (gd l i).Tempo ≤ u := Int.le_of_dvd (by omega) hd
    exact (Int.le_ediv_iff_mul_le (by omega)).2 (by omega)
  · refine Int.le_of_lt_add_one ((Int.ediv_lt_iff_lt_mul (by omega)).2 ?_)
    have := Int.mul_le_mul_of_nonneg_left (show (20 : Int) ≤ (gd l i).Tempo by omega) (show (0 : Int) ≤ 300000001 by omega)
    omega
variable (hd : ∀ i, i < l.length → (gd l i).Tempo ∣ u)
include hd
theorem sa_bd {k : Nat} (hk : k < NB l) : 1 ≤ sa u l k ∧ sa u l k ≤ 300000000 := by
  obtain ⟨i, j, hi, hj, rfl⟩ := part_of hk
  rw [sa_at u l i j hi hj]
  exact stp1_bd h hu hi (hd i hi)
theorem T_bd {k : Nat} (hk : k ≤ NB l) : 0 ≤ Tbt u l k ∧ Tbt u l k ≤ 300000000 * k := by
  have := sm_bd (f := sa u l) (lo := 1) (hi := 300000000) (k := k) fun i hi => sa_bd h hu hd (by omega)
  unfold Tbt; omega
theorem T_lt {j k : Nat} (hjk : j < k) (hk : k ≤ NB l) : Tbt u l j < Tbt u l k := by
  induction k with
  | zero => omega
  | succ k ih =>
    have h1 := sa_bd h hu hd (show k < NB l by omega)
    have e : Tbt u l (k + 1) = Tbt u l k + sa u l k := rfl
    rcases Nat.lt_or_ge j k with h2 | h2
    · have := ih h2 (by omega); omega
    · rw [show j = k by omega]; omega
theorem beginsOf_eq : impl_beginsOf l u = some (tab (Tbt u l) (NB l + 1)) := by
  obtain ⟨l1, l2⟩ := vpc_len h
  have hN := NB_bd h
  have hN2 : nb l l.length ≤ 28800 := hN.2
  unfold impl_beginsOf
  refine eq_of_wp ?_
  refine wp_cnt (fun i => (tab (Tbt u l) (nb l i), Tbt u l (nb l i), (i : Int))) l.length rfl (by omega) (fun i hi => ?_) (b := (tab (Tbt u l) (NB l), Tbt u l (NB l))) ?_ ?_
  · obtain ⟨h2, h3, h4⟩ := bts_ok (vpc_gd h hi)
    obtain ⟨_, _, ht⟩ := vpp_ok (vpc_gd h hi)
    have hnb := nb_mono (l := l) (show i + 1 ≤ l.length by omega)
    rw [nb] at hnb
    simp only
    rw [if_pos (by omega), at_gd hi, Option.bind_some, ← h2, w64_id (n := (bts (gd l i) : Int)) (by omega) (by omega)]
    refine eq_of_wp ?_
    refine wp_cnt (fun j => (tab (Tbt u l) (nb l i + j), Tbt u l (nb l i + j), (j : Int))) (bts (gd l i)) rfl (by omega) (fun j hj => ?_) (b := (tab (Tbt u l) (nb l (i + 1)), Tbt u l (nb l (i + 1)))) ?_ ?_
    · have hb := T_bd h hu hd (show nb l i + (j + 1) ≤ NB l by unfold NB; omega)
      have hs := stp1_bd h hu hi (hd i hi)
      have e : Tbt u l (nb l i + (j + 1)) = Tbt u l (nb l i + j) + stp1 u (gd l i) := by
        rw [← Nat.add_assoc]
        show Tbt u l (nb l i + j) + sa u l (nb l i + j) = _
        rw [sa_at u l i j hi hj]
      have hb0 := T_bd h hu hd (show nb l i + j ≤ NB l by unfold NB; omega)
      simp only
      rw [if_pos (by omega), app_ok (by simp; omega), Option.bind_some, w64_id (n := 60 * u) (by omega) (by omega), div_ok (by omega), Option.bind_some]
      have e2 : IntKind.i64.wrap ((60 * u).tdiv (gd l i).Tempo) = stp1 u (gd l i) := by
        show w64 (stp1 u (gd l i)) = _
        exact w64_id (by omega) (by omega)
      rw [e2, ← e, w64_id (n := Tbt u l (nb l i + (j + 1))) (by omega) (by omega), w64_id (by omega) (by omega), ← tab_succ]; rfl
    · simp only; rw [if_neg (by omega)]; rfl
    · simp only
      rw [w64_id (by omega) (by omega)]
      exact wp_some rfl
  · simp only; rw [if_neg (by omega)]
  · simp only
    rw [app_ok (by simp; omega), Option.bind_some, ← tab_succ]
    exact wp_some rfl
theorem l19Units_eq {k : Nat} (hk : k ≤ NB l) : spec_l19Units l (k : Int) u = some (Tbt u l k) := by
  obtain ⟨l1, l2⟩ := vpc_len h
  have hN := NB_bd h
  have hN2 : nb l l.length ≤ 28800 := hN.2
  unfold spec_l19Units
  refine eq_of_wp ?_
  refine wp_loop (fun s : Int × Int × Int => ∃ i : Nat, s.2.2 = (i : Int) ∧ i ≤ l.length ∧ s.1 = ((k - nb l i : Nat) : Int) ∧ s.2.1 = Tbt u l (min k (nb l i))) (fun s => (l.length - s.2.2).toNat) ⟨0, rfl, by omega, by simp [nb], by simp [nb, Tbt, sm]⟩ (by simp only; omega) ?_
  rintro ⟨b, sum, x⟩ ⟨i, rfl, hi, rfl, rfl⟩
  simp only
  have hmin : ∀ a b : Int, spec_l00Min a b = some (min a b) := fun a b => by
    unfold spec_l00Min; split
    · exact congrArg some (by omega)
    · exact congrArg some (by omega)
  by_cases hx : (i : Int) < l.length
  · rw [if_pos hx, Option.bind_some]
    have hi2 : i < l.length := by omega
    by_cases hb : ((k - nb l i : Nat) : Int) > 0
    · obtain ⟨h2, h3, h4⟩ := bts_ok (vpc_gd h hi2)
      obtain ⟨_, _, ht⟩ := vpp_ok (vpc_gd h hi2)
      have hs := stp1_bd h hu hi2 (hd i hi2)
      rw [if_pos (decide_eq_true hb), at_gd hi2, Option.bind_some, Option.bind_some, ← h2, w64_id (n := (bts (gd l i) : Int)) (by omega) (by omega), hmin, Option.bind_some, Option.bind_some, w64_id (n := 60 * u) (by omega) (by omega), div_ok (by omega), Option.bind_some]
      have e2 : IntKind.i64.wrap ((60 * u).tdiv (gd l i).Tempo) = stp1 u (gd l i) := by
        show w64 (stp1 u (gd l i)) = _
        exact w64_id (by omega) (by omega)
      have hr : min ((k - nb l i : Nat) : Int) (bts (gd l i) : Int) = ((min (k - nb l i) (bts (gd l i)) : Nat) : Int) := by omega
      have hta := T_add u hi2 (min (k - nb l i) (bts (gd l i))) (by omega)
      have hb1 := T_bd h hu hd (k := nb l i + min (k - nb l i) (bts (gd l i))) (by omega)
      have hb0 := T_bd h hu hd (k := nb l i) (by omega)
      have hp : 0 ≤ ((min (k - nb l i) (bts (gd l i)) : Nat) : Int) * stp1 u (gd l i) := Int.mul_nonneg (by omega) (by omega)
      rw [e2, hr, show min k (nb l i) = nb l i by omega, w64_id (n := ((k - nb l i : Nat) : Int) - ((min (k - nb l i) (bts (gd l i)) : Nat) : Int)) (by omega) (by omega), w64_id (n := ((min (k - nb l i) (bts (gd l i)) : Nat) : Int) * stp1 u (gd l i)) (by omega) (by omega), ← hta,
        w64_id (n := Tbt u l (nb l i + min (k - nb l i) (bts (gd l i)))) (by omega) (by omega), w64_id (n := (i : Int) + 1) (by omega) (by omega)]
      refine wp_some ⟨⟨i + 1, by simp only; omega, hi2, ?_, ?_⟩, by simp only; omega⟩
      · simp only; rw [nb]; omega
      · simp only; rw [nb]; congr 1; omega
    · rw [if_neg (by simpa using hb)]
      refine wp_some (wp_some ?_)
      rw [show min k (nb l i) = k by omega]
  · rw [if_neg hx, Option.bind_some, if_neg (by decide)]
    refine wp_some (wp_some ?_)
    obtain rfl : i = l.length := by omega
    rw [show min k (nb l l.length) = k by unfold NB at hk; omega]
end
end Go.Vs.G

namespace Go.Vs
open Go
end Go.Vs
namespace Go.Vs.G
open Go Go.Vs
def tms (l : List GPart) (b : Bool) : Int × List Int × Int :=
  if vpc l = true then (if b = true then (if us l = 0 then (0, [], 5) else (us l, tab (Tbt (us l) l) (NB l + 1), 0)) else (0, [], 2)) else (0, [], 1)
theorem timesOf_eq {l : List GPart} (hl : l.length ≤ 1000000) (b : Bool) : impl_timesOf l (some b) = some (tms l b) := by
  unfold impl_timesOf tms
  rw [ValidPiece_eq hl, Option.bind_some]
  cases hv : vpc l with
  | false => rfl
  | true =>
    simp only [if_true, Option.bind_some]
    cases b with
    | false => rfl
    | true =>
      simp only [if_true]
      rw [unitsOf_eq hv, Option.bind_some]
      by_cases h0 : us l = 0
      · rw [if_pos h0, if_pos h0]
      · obtain ⟨h1, h2⟩ := us_ok hv h0
        rw [if_neg h0, if_neg h0, beginsOf_eq hv h1 h2]; rfl
theorem at_T {l : List GPart} {u : Int} {k : Nat} (hk : k ≤ NB l) : at? (tab (Tbt u l) (NB l + 1)) (k : Int) = some (Tbt u l k) := by
  rw [tab_at (by omega) (by omega)]; rfl
section
variable {l : List GPart} (h : vpc l = true) {u : Int} (hu : 1 ≤ u ∧ u ≤ 100000000) (hd : ∀ i, i < l.length → (gd l i).Tempo ∣ u)
include h hu hd
theorem T_big {k : Nat} (hk : k ≤ NB l) : 0 ≤ Tbt u l k ∧ Tbt u l k ≤ 8640000000000 := by
  have h1 := T_bd h hu hd hk
  have h2 := NB_bd h
  have h3 : ((NB l : Nat) : Int) ≤ 28800 := by omega
  omega
end
/- the length -/
theorem red_le {n d : Int} {f : GFraction} (hr : Red n d f) (hd : 0 < d) (s : Int) : f.Num ≤ s * f.Den ↔ n ≤ s * d := by
  have he := hr.eq
  have hp := hr.pos
  constructor
  · intro h1
    have h2 := Int.mul_le_mul_of_nonneg_right h1 (show 0 ≤ d by omega)
    have h3 : n * f.Den ≤ (s * d) * f.Den := by
      rw [← he]; refine Int.le_trans h2 (Int.le_of_eq ?_); simp only [Int.mul_assoc, Int.mul_comm, Int.mul_left_comm]
    exact Int.le_of_mul_le_mul_right h3 hp
  · intro h1
    have h2 := Int.mul_le_mul_of_nonneg_right h1 (show 0 ≤ f.Den by omega)
    have h3 : f.Num * d ≤ (s * f.Den) * d := by
      rw [he]; refine Int.le_trans h2 (Int.le_of_eq ?_); simp only [Int.mul_assoc, Int.mul_comm, Int.mul_left_comm]
    exact Int.le_of_mul_le_mul_right h3 hd
theorem TimeOfBeat_eq {l : List GPart} (hv : vpc l = true) (h0 : us l ≠ 0) {k : Nat} (hk : k < NB l) : ∃ f, impl_TimeOfBeat l (k : Int) = some (f, 0) ∧ Red (Tbt (us l) l k) (us l) f := by
  obtain ⟨hu, hd⟩ := us_ok hv h0
  have hN := NB_bd hv
  have hb := T_big hv hu hd (show k ≤ NB l by omega)
  have hl := vpc_len hv
  unfold impl_TimeOfBeat impl_TimeOfBeat_1
  rw [beatsOf_eq hv, Option.bind_some, w64_id (n := ((NB l : Nat) : Int) - 1) (by omega) (by omega), within_d, Option.bind_some, decide_eq_true (by omega), timesOf_eq (by omega), Option.bind_some]
  unfold tms
  rw [if_pos hv, if_pos rfl, if_neg h0]
  simp only [if_true]
  rw [at_T (by omega), Option.bind_some]
  obtain ⟨f, hf, hr⟩ := impl_lowest_eq (n := Tbt (us l) l k) (d := us l) h0 (by omega) (by omega)
  rw [hf, Option.bind_some]
  exact ⟨f, rfl, hr⟩
/- the least tempo -/
end Go.Vs.G

namespace Go.Vs.G
open Go Go.Vs
theorem l19New_ok {B : Int} {s : GL00Src} (h : SrcOk B s) (hB : B ≤ 1000000) : wp (spec_l19New s) fun r => SrcOk (B + 6) r.2 := by
  unfold spec_l19New
  refine wp_pick h (by omega) fun v s1 _ _ h1 => ?_
  refine wp_among h1 (by omega) (by simp) (by simp) fun v2 s2 _ h2 => ?_
  refine wp_among h2 (by omega) (by simp) (by simp) fun v3 s3 _ h3 => ?_
  exact wp_some (h3.mono (by omega))
theorem l19Spoil_ok {B : Int} {s : GL00Src} (h : SrcOk B s) (hB : B ≤ 1000000) (x : GPart) : wp (spec_l19Spoil s x) fun r => SrcOk (B + 4) r.1 := by
  unfold spec_l19Spoil
  refine wp_pick h (by omega) fun v s1 _ _ h1 => ?_
  simp only
  refine wp_ite (fun _ => ?_) (fun _ => wp_ite (fun _ => ?_) (fun _ => wp_ite (fun _ => ?_) (fun _ => wp_some (h1.mono (by omega)))))
  · exact wp_among h1 (by omega) (by simp) (by simp) fun y s2 _ h2 => wp_some (h2.mono (by omega))
  · exact wp_among h1 (by omega) (by simp) (by simp) fun y s2 _ h2 => wp_some (h2.mono (by omega))
  · exact wp_among h1 (by omega) (by simp) (by simp) fun y s2 _ h2 => wp_some (h2.mono (by omega))
theorem l19Draw_ok {B : Int} {s : GL00Src} (h : SrcOk B s) (hB : B ≤ 100000) : wp (spec_l19Draw s) fun r => SrcOk (B + 200) r.2 ∧ r.1.length ≤ 13 := by
  unfold spec_l19Draw
  refine wp_pick h (by omega) fun v s1 v0 v1 h1 => ?_
  refine wp_one h1 (by omega) fun b1 s2 h2 => ?_
  simp only
  refine wp_seq (P := fun q : GL00Src × Int => SrcOk (B + 6) q.1 ∧ 0 ≤ q.2 ∧ q.2 ≤ 13) ?_ ?_
  · refine wp_bif (fun _ => ?_) (fun _ => wp_some ⟨h2.mono (by omega), ?_, ?_⟩)
    · refine wp_among h2 (by omega) (by simp) (by simp) fun x s3 hx h3 => wp_some ⟨h3.mono (by omega), ?_, ?_⟩
      · simp only [List.mem_cons, List.not_mem_nil, or_false] at hx
        rcases hx with rfl | rfl | rfl <;> simp
      · simp only [List.mem_cons, List.not_mem_nil, or_false] at hx
        rcases hx with rfl | rfl | rfl <;> simp
    · simp only; rw [w64_id (by omega) (by omega)]; omega
    · simp only; rw [w64_id (by omega) (by omega)]; omega
  · rintro ⟨s3, n⟩ ⟨h3, n0, n1⟩
    simp only at h3 n0 n1 ⊢
    refine wp_loop (fun q : GL00Src × List GPart × Int => SrcOk (B + 6 + 6 * (q.2.1.length : Int)) q.1 ∧ (q.2.1.length : Int) + q.2.2 = n ∧ 0 ≤ q.2.2) (fun q => q.2.2.toNat) ⟨by simpa using h3, by simp, n0⟩ (by simp only; omega) ?_
    rintro ⟨s4, out, k⟩ ⟨h4, h5, h6⟩
    simp only at h4 h5 h6 ⊢
    refine wp_ite (fun hk => ?_) (fun hk => ?_)
    · refine wp_seq (l19New_ok h4 (by omega)) ?_
      rintro ⟨x, s5⟩ h7
      simp only at h7 ⊢
      rw [app_ok (by simp; omega), Option.bind_some, w64_id (n := k - 1) (by omega) (by omega)]
      exact wp_some ⟨⟨h7.mono (by simp; omega), by simp; omega, by simp only; omega⟩, by simp only; omega⟩
    · refine wp_some ?_
      simp only
      refine wp_one h4 (by omega) fun b2 s5 h7 => ?_
      simp only
      refine wp_seq (P := fun o : List GPart => o.length ≤ 13) ?_ ?_
      · exact wp_bif (fun _ => wp_some (by simp)) (fun _ => wp_some (by omega))
      · intro out3 ho3
        refine wp_seq (P := fun q : GL00Src × Bool => SrcOk (B + 120) q.1 ∧ (q.2 = true → 0 < out3.length)) ?_ ?_
        · refine wp_ite (fun hn => ?_) (fun _ => wp_some ⟨h7.mono (by omega), fun hc => by simp at hc⟩)
          exact wp_one h7 (by omega) fun b s5 h8 => wp_some ⟨h8.mono (by omega), fun _ => by omega⟩
        · rintro ⟨s6, b⟩ ⟨h8, hb⟩
          simp only at h8 hb ⊢
          refine wp_bif (fun hbt => ?_) (fun _ => wp_some ⟨h8.mono (by omega), by simp only; omega⟩)
          have := hb hbt
          rw [at_ok (by omega) (by omega), Option.bind_some]
          refine wp_seq (l19Spoil_ok h8 (by omega) _) ?_
          rintro ⟨s7, y⟩ h9
          exact wp_some ⟨h9.mono (by omega), by simp; omega⟩
section
variable {code : List Int} (hc : okL (okI .u8) code) (hl : code.length ≤ 4096)
include hc hl
end
end Go.Vs.G

namespace Go.Vs.G
open Go Go.Vs

theorem ilt (a b : Int) : a < b ∨ b ≤ a := by omega
def dig (c : UInt8) : Prop := 48 ≤ c.toNat ∧ c.toNat ≤ 57
theorem ofNat_dig {d : Nat} (h : d < 10) : (UInt8.ofNat (48 + d)).toNat = 48 + d := by simp; omega
theorem dd_small {u : Nat} (h : u < 10) : Lib.decDigits u = [UInt8.ofNat (48 + u)] := by rw [Lib.decDigits, dif_pos h]
theorem dd_big {u : Nat} (h : ¬ u < 10) : Lib.decDigits u = Lib.decDigits (u / 10) ++ [UInt8.ofNat (48 + u % 10)] := by rw [Lib.decDigits, dif_neg h]
theorem dd_dig (u : Nat) : ∀ c, c ∈ Lib.decDigits u → dig c := by
  induction u using Nat.strongRecOn with
  | _ u ih =>
    intro c hc
    by_cases h : u < 10
    · rw [dd_small h, List.mem_singleton] at hc
      subst hc
      unfold dig; rw [ofNat_dig h]; omega
    · rw [dd_big h, List.mem_append, List.mem_singleton] at hc
      rcases hc with hc | hc
      · exact ih (u / 10) (by omega) c hc
      · subst hc
        unfold dig; rw [ofNat_dig (Nat.mod_lt _ (by omega))]
        have := Nat.mod_lt u (y := 10) (by omega); omega
theorem dd_len (u : Nat) : (Lib.decDigits u).length = Lib.nDigits u := Lib.decDigits_length u
theorem dd_ne (u : Nat) : Lib.decDigits u ≠ [] := by
  intro h; have := dd_len u; rw [h] at this; have := Lib.nDigits_pos u; simp at *; omega
theorem nd_le : ∀ (k u : Nat), 1 ≤ k → u < 10 ^ k → Lib.nDigits u ≤ k
  | 0, u, h, _ => by omega
  | k + 1, u, _, h => by
    by_cases h1 : u < 10
    · rw [Lib.nDigits_small h1]; omega
    · rw [Lib.nDigits_big h1]
      cases k with
      | zero => simp at h; omega
      | succ k =>
        have := nd_le (k + 1) (u / 10) (by omega) (by rw [Nat.pow_succ] at h; omega)
        omega
/-- what digits say -/
def dval (acc : Nat) (l : List UInt8) : Nat := l.foldl (fun a c => a * 10 + (c.toNat - 48)) acc
theorem dval_nil (acc : Nat) : dval acc [] = acc := rfl
theorem dval_cons (acc : Nat) (c : UInt8) (r : List UInt8) : dval acc (c :: r) = dval (acc * 10 + (c.toNat - 48)) r := by unfold dval; rw [List.foldl_cons]
theorem dval_append (l m : List UInt8) (acc : Nat) : dval acc (l ++ m) = dval (dval acc l) m := by unfold dval; rw [List.foldl_append]
theorem dval_dd (u : Nat) : dval 0 (Lib.decDigits u) = u := by
  induction u using Nat.strongRecOn with
  | _ u ih =>
    by_cases h : u < 10
    · rw [dd_small h, dval_cons, dval_nil, ofNat_dig h]; omega
    · have h1 := ih (u / 10) (by omega)
      have h2 : (UInt8.ofNat (48 + u % 10)).toNat = 48 + u % 10 := ofNat_dig (Nat.mod_lt _ (by omega))
      rw [dd_big h, dval_append, h1, dval_cons, dval_nil, h2]; omega
theorem dval_ge : ∀ (l : List UInt8) (acc : Nat), acc ≤ dval acc l
  | [], acc => Nat.le_refl _
  | c :: r, acc => by rw [dval_cons]; have := dval_ge r (acc * 10 + (c.toNat - 48)); omega
theorem parseUintM_val {M : Nat} (hM : M < 18446744073709551616) : ∀ (l : List UInt8) (acc : Nat), (∀ c, c ∈ l → dig c) → dval acc l ≤ M → Lib.parseUintM M acc l = .ok (dval acc l)
  | [], acc, _, _ => rfl
  | c :: r, acc, h, hv => by
    have hc := h c (by simp)
    rw [dval_cons] at hv ⊢
    have hg := dval_ge r (acc * 10 + (c.toNat - 48))
    unfold dig at hc
    rw [Lib.parseUintM, if_pos hc, if_neg (by omega), if_neg (by omega)]
    exact parseUintM_val hM r _ (fun x hx => h x (by simp [hx])) hv
theorem parseUint_dd {u : Nat} (h : u < 18446744073709551616) : Lib.parseUintB 64 (Lib.decDigits u) = .ok u := by
  unfold Lib.parseUintB
  have h64 : (2 : Nat) ^ 64 - 1 = 18446744073709551615 := by decide
  rw [if_neg (dd_ne u), h64, parseUintM_val (M := 18446744073709551615) (by omega) _ _ (dd_dig u) (by rw [dval_dd]; omega), dval_dd]
/-- a number's text -/
abbrev txt (n : Int) : List UInt8 := Lib.itoa n
theorem txt_neg {n : Int} (h : n < 0) : txt n = 45 :: Lib.decDigits n.natAbs := by simp [txt, Lib.itoa, h]
theorem txt_pos {n : Int} (h : 0 ≤ n) : txt n = Lib.decDigits n.toNat := by simp [txt, Lib.itoa]; omega
theorem parse_txt {n : Int} (h0 : -9223372036854775808 ≤ n) (h1 : n ≤ 9223372036854775807) : Lib.parseIntB 64 (txt n) = .ok n := by
  rcases ilt n 0 with h | h
  · rw [txt_neg h]
    have h45 : (45 : UInt8).toNat = 45 := rfl
    simp only [Lib.parseIntB, h45, or_true, if_true, true_and, not_true, false_and, if_false]
    rw [parseUint_dd (by omega)]
    simp only
    rw [if_neg (by omega)]
    congr 1; omega
  · rw [txt_pos h]
    obtain ⟨c, r, hcr⟩ : ∃ c r, Lib.decDigits n.toNat = c :: r := by
      cases hd : Lib.decDigits n.toNat with
      | nil => exact absurd hd (dd_ne _)
      | cons c r => exact ⟨c, r, rfl⟩
    have hc : dig c := dd_dig n.toNat c (by rw [hcr]; simp)
    have hp := parseUint_dd (u := n.toNat) (by omega)
    rw [hcr] at hp ⊢
    unfold dig at hc
    simp only [Lib.parseIntB]
    have e1 : ¬ c.toNat = 43 := by omega
    have e2 : ¬ c.toNat = 45 := by omega
    simp only [e1, e2, or_self, if_false, hp, false_and, not_false_eq_true, true_and]
    have h63 : (2 : Nat) ^ (64 - 1) = 9223372036854775808 := by decide
    rw [h63, if_neg (by omega)]
    congr 1; omega
theorem txt_inj {n m : Int} (h0 : -9223372036854775808 ≤ n) (h1 : n ≤ 9223372036854775807) (h2 : -9223372036854775808 ≤ m) (h3 : m ≤ 9223372036854775807) (h : txt n = txt m) : n = m := by
  have := parse_txt h0 h1
  rw [h, parse_txt h2 h3] at this
  cases this; rfl
theorem txt_len {n : Int} (h0 : -1000000000000000000 < n) (h1 : n < 1000000000000000000) : (txt n).length ≤ 19 := by
  rcases ilt n 0 with h | h
  · rw [txt_neg h]; simp only [List.length_cons, dd_len]
    have := nd_le 18 n.natAbs (by omega) (by omega); omega
  · rw [txt_pos h, dd_len]
    have := nd_le 18 n.toNat (by omega) (by omega); omega
theorem Decimal_eq {n : Int} (h0 : -9223372036854775808 ≤ n) (h1 : n ≤ 9223372036854775807) : impl_Decimal n = some (txt n) := by
  unfold impl_Decimal strconv_FormatInt
  rw [if_pos ⟨rfl, h0, h1⟩]; rfl
/-- how a text reads as a number -/
def RD (s : List UInt8) (r : Int × Bool) : Prop :=
  (∃ n : Int, -1000000000000000000 < n ∧ n < 1000000000000000000 ∧ s = txt n ∧ r = (n, true)) ∨ ((∀ n : Int, -1000000000000000000 < n → n < 1000000000000000000 → s ≠ txt n) ∧ r = (0, false))
theorem RD.unique {s : List UInt8} {r r' : Int × Bool} (h : RD s r) (h' : RD s r') : r = r' := by
  rcases h with ⟨n, h0, h1, h2, rfl⟩ | ⟨h0, rfl⟩
  · rcases h' with ⟨m, k0, k1, k2, rfl⟩ | ⟨k0, rfl⟩
    · rw [txt_inj (by omega) (by omega) (by omega) (by omega) (h2.symm.trans k2)]
    · exact absurd h2 (k0 n h0 h1)
  · rcases h' with ⟨m, k0, k1, k2, rfl⟩ | ⟨k0, rfl⟩
    · exact absurd k2 (h0 m k0 k1)
    · rfl
/- places of a byte -/
end Go.Vs.G

namespace Go.Vs.G
open Go Go.Vs

/-- the digits of a number, none for zero -/
def dz (u : Nat) : List UInt8 := if u = 0 then [] else Lib.decDigits u
theorem dz_step {u : Nat} (h : u ≠ 0) : dz u = dz (u / 10) ++ [UInt8.ofNat (48 + u % 10)] := by
  unfold dz
  rw [if_neg h]
  by_cases h1 : u < 10
  · rw [if_pos (by omega), dd_small h1, Nat.mod_eq_of_lt h1]; rfl
  · rw [if_neg (by omega), dd_big h1]
theorem b2s_one (x : Int) (l : List Int) : b2s ([x] ++ l) = UInt8.ofNat x.toNat :: b2s l := rfl
theorem l01Dec_eq {n : Int} (h0 : -9223372036854775807 ≤ n) (h1 : n ≤ 9223372036854775807) : spec_l01Dec n = some (txt n) := by
  refine eq_of_wp ?_
  unfold spec_l01Dec
  refine wp_loop (fun t : List Int × Int => dz n.natAbs = dz t.2.natAbs ++ b2s t.1 ∧ t.2.natAbs ≤ n.natAbs ∧ (t.2 ≠ 0 → (t.2 < 0 ↔ n < 0)) ∧ t.1.length + (if t.2 = 0 then 0 else Lib.nDigits t.2.natAbs) ≤ Lib.nDigits n.natAbs ∧ (n ≠ 0 → t.2 = 0 → t.1 ≠ [])) (fun t => t.2.natAbs) ⟨by simp [b2s], Nat.le_refl _, fun _ => Iff.rfl, by simp only [List.length_nil]; split <;> omega, fun h1 h2 => absurd h2 h1⟩ (by simp only; omega) ?_
  rintro ⟨a, k⟩ ⟨i1, i2, i3, i4, i5⟩
  simp only at i1 i2 i3 i4 i5 ⊢
  have hnd : Lib.nDigits n.natAbs ≤ 19 := nd_le 19 _ (by omega) (by omega)
  refine wp_ite (fun h => ?_) (fun h => ?_)
  · subst h
    refine wp_some ?_
    have hb : (b2s a).length = a.length := by simp [b2s]
    have hz : dz (0 : Int).natAbs = [] := rfl
    rw [hz, List.nil_append] at i1
    refine wp_ite (fun h2 => ?_) (fun h2 => ?_)
    · have ha : a = [] := List.length_eq_zero_iff.1 (by omega)
      have hn : n = 0 := Classical.byContradiction fun hne => i5 hne rfl ha
      subst hn
      exact wp_some (by rw [txt_pos (by omega), Int.toNat_zero, dd_small (by omega)]; rfl)
    · have hn : n ≠ 0 := by
        rintro rfl
        have : dz (0 : Int).natAbs = [] := rfl
        rw [this] at i1
        have := congrArg List.length i1
        simp only [List.length_nil] at this
        omega
      have hdz : dz n.natAbs = Lib.decDigits n.natAbs := by unfold dz; rw [if_neg (by omega)]
      refine wp_ite (fun h3 => ?_) (fun h3 => ?_)
      · rw [app_ok (by simp; omega), Option.bind_some]
        refine wp_some ?_
        rw [txt_neg h3, ← hdz, i1]; rfl
      · refine wp_some ?_
        rw [txt_pos (by omega), ← i1, hdz, show n.toNat = n.natAbs by omega]
  · have hd : (if k.tmod 10 < 0 then some (w64 (0 - k.tmod 10)) else some (k.tmod 10)) = some (((k.natAbs % 10 : Nat)) : Int) := by
      by_cases hk : k < 0
      · have e : k.tmod 10 = -((k.natAbs % 10 : Nat) : Int) := by
          rw [show k = -((k.natAbs : Nat) : Int) by omega, Int.neg_tmod]; simp [Int.tmod]
        by_cases h2 : k.tmod 10 < 0
        · rw [if_pos h2, w64_id (by omega) (by omega), e]; simp
        · rw [if_neg h2, e]; congr 1; omega
      · have e : k.tmod 10 = ((k.natAbs % 10 : Nat) : Int) := by
          rw [Int.tmod_eq_emod_of_nonneg (by omega)]; omega
        rw [if_neg (by omega), e]
    rw [hd, Option.bind_some]
    have hm : k.natAbs % 10 < 10 := Nat.mod_lt _ (by omega)
    have hw : IntKind.wrap .u8 (w64 (48 + ((k.natAbs % 10 : Nat) : Int))) = 48 + ((k.natAbs % 10 : Nat) : Int) := by
      rw [w64_id (by omega) (by omega), w8_def]; omega
    have hbig : 1 ≤ Lib.nDigits k.natAbs := Lib.nDigits_pos _
    have i4' := i4
    rw [if_neg h] at i4'
    rw [hw, app_ok (by simp; omega), Option.bind_some]
    have hq : (k.tdiv 10).natAbs = k.natAbs / 10 := by rw [Int.natAbs_tdiv]; rfl
    have hq2 : w64 (k.tdiv 10) = k.tdiv 10 := w64_id (by omega) (by omega)
    rw [hq2]
    refine wp_some ⟨⟨?_, by simp only [hq]; omega, ?_, ?_, fun _ _ => by simp⟩, by simp only [hq]; omega⟩
    · simp only [hq]
      rw [i1, dz_step (show k.natAbs ≠ 0 by omega), b2s_one, List.append_assoc]
      have : (48 + ((k.natAbs % 10 : Nat) : Int)).toNat = 48 + k.natAbs % 10 := by omega
      rw [this]; rfl
    · simp only
      intro h2
      rw [← i3 h]
      have hne : k.natAbs / 10 ≠ 0 := by
        intro e; rw [← hq] at e; exact h2 (by omega)
      by_cases hk : k < 0
      · have : k.tdiv 10 = -((k.natAbs / 10 : Nat) : Int) := by
          rw [show k = -((k.natAbs : Nat) : Int) by omega, Int.neg_tdiv]; simp [Int.tdiv]
        omega
      · have : k.tdiv 10 = ((k.natAbs / 10 : Nat) : Int) := by
          rw [Int.tdiv_eq_ediv_of_nonneg (by omega)]; omega
        omega
    · rw [if_neg h] at i4
      simp only [List.length_append, List.length_singleton]
      split
      · omega
      · rename_i h2
        rw [hq]
        have h10 : ¬ k.natAbs < 10 := fun h3 => h2 (by omega)
        have := Lib.nDigits_big h10
        omega
end Go.Vs.G

namespace Go.Vs.G
open Go Go.Vs

theorem join_snoc (sep : List UInt8) : ∀ (xs : List (List UInt8)) (y : List UInt8), xs ≠ [] → Lib.join (xs ++ [y]) sep = Lib.join xs sep ++ (sep ++ y)
  | [], y, h => absurd rfl h
  | x :: r, y, _ => by
    rw [List.cons_append, Lib.join_cons, Lib.join_cons]
    simp [Lib.joinTail]
/-- a part's text -/
def ptx (p : GPart) : List UInt8 := txt p.Bars ++ [120] ++ txt p.Beats ++ [64] ++ txt p.Tempo
theorem ptx_len {p : GPart} (h : vpp p = true) : (ptx p).length ≤ 59 := by
  obtain ⟨h1, h2, h3⟩ := vpp_ok h
  have a := txt_len (n := p.Bars) (by omega) (by omega)
  have b := txt_len (n := p.Beats) (by omega) (by omega)
  have c := txt_len (n := p.Tempo) (by omega) (by omega)
  simp only [ptx, List.length_append, List.length_singleton]; omega
def pcs (l : List GPart) (k : Nat) : List (List UInt8) := (l.take k).map ptx
theorem pcs_succ {l : List GPart} {k : Nat} (hk : k < l.length) : pcs l (k + 1) = pcs l k ++ [ptx (gd l k)] := by
  unfold pcs
  rw [List.take_add_one, List.getElem?_eq_getElem hk, List.map_append]
  simp [gd, List.getD, List.getElem?_eq_getElem hk]
theorem pcs_len {l : List GPart} {k : Nat} (hk : k ≤ l.length) : (pcs l k).length = k := by simp [pcs]; omega
theorem pcs_join {l : List GPart} (hv : vpc l = true) : ∀ {k : Nat}, k ≤ l.length → (Lib.join (pcs l k) [44, 32]).length ≤ 61 * k
  | 0, _ => by simp [pcs, Lib.join, List.intercalate]
  | k + 1, hk => by
    have ih := pcs_join hv (k := k) (by omega)
    have hp := ptx_len (vpc_gd hv (show k < l.length by omega))
    rw [pcs_succ (by omega)]
    by_cases h : pcs l k = []
    · rw [h, List.nil_append, Lib.join_one]; omega
    · rw [join_snoc _ _ _ h]; simp only [List.length_append, List.length_cons, List.length_nil]; omega
def ptext (l : List GPart) : List UInt8 := if vpc l = true then Lib.join (pcs l l.length) [44, 32] else []
theorem PieceText_eq {l : List GPart} (hl : l.length ≤ 1000000) : impl_PieceText l = some (ptext l) := by
  unfold impl_PieceText ptext
  rw [ValidPiece_eq hl, Option.bind_some]
  cases hv : vpc l with
  | false => rfl
  | true =>
    obtain ⟨l1, l2⟩ := vpc_len hv
    simp only [if_true]
    refine eq_of_wp ?_
    refine wp_cnt (fun k => (pcs l k, (k : Int))) l.length rfl (by omega) (fun k hk => ?_) (b := pcs l l.length) ?_ ?_
    · obtain ⟨h1, h2, h3⟩ := vpp_ok (vpc_gd hv hk)
      have a := txt_len (n := (gd l k).Bars) (by omega) (by omega)
      have b := txt_len (n := (gd l k).Beats) (by omega) (by omega)
      have c := txt_len (n := (gd l k).Tempo) (by omega) (by omega)
      have e := pcs_len (l := l) (k := k) (by omega)
      simp only
      rw [if_pos (by omega), at_gd hk, Option.bind_some, Decimal_eq (by omega) (by omega), Option.bind_some, app_ok (by simp; omega), Option.bind_some, Decimal_eq (by omega) (by omega), Option.bind_some, app_ok (by simp; omega), Option.bind_some,
        app_ok (by simp; omega), Option.bind_some, Decimal_eq (by omega) (by omega), Option.bind_some, app_ok (by simp; omega), Option.bind_some, app_ok (by simp; omega), Option.bind_some, w64_id (by omega) (by omega), pcs_succ hk]
      rfl
    · simp only; rw [if_neg (by omega)]
    · have h1 := pcs_join hv (k := l.length) (Nat.le_refl _)
      have h2 := pcs_len (l := l) (k := l.length) (Nat.le_refl _)
      unfold strings_Join
      rw [if_pos ⟨by omega, by omega⟩]
      exact wp_some rfl
theorem spec_PieceText_eq {l : List GPart} (hl : l.length ≤ 1000000) : spec_PieceText l = some (ptext l) := by
  unfold spec_PieceText ptext
  rw [l19Ok_eq hl, Option.bind_some]
  cases hv : vpc l with
  | false => rfl
  | true =>
    obtain ⟨l1, l2⟩ := vpc_len hv
    simp only [if_true]
    refine eq_of_wp ?_
    refine wp_cnt (fun k => (Lib.join (pcs l k) [44, 32], (k : Int))) l.length rfl (by omega) (fun k hk => ?_) (b := Lib.join (pcs l l.length) [44, 32]) ?_ (wp_some rfl)
    · obtain ⟨h1, h2, h3⟩ := vpp_ok (vpc_gd hv hk)
      have a := txt_len (n := (gd l k).Bars) (by omega) (by omega)
      have b := txt_len (n := (gd l k).Beats) (by omega) (by omega)
      have c := txt_len (n := (gd l k).Tempo) (by omega) (by omega)
      have e := pcs_len (l := l) (k := k) (by omega)
      have j := pcs_join hv (k := k) (by omega)
      have hx : (if (k : Int) > 0 then ((app? (Lib.join (pcs l k) [44, 32] : List UInt8) [44, 32]).bind fun s1 => some s1) else some (Lib.join (pcs l k) [44, 32])) = some (if k = 0 then [] else Lib.join (pcs l k) [44, 32] ++ [44, 32]) := by
        by_cases h0 : k = 0
        · subst h0; rfl
        · rw [if_pos (by omega), if_neg h0, app_ok (by simp; omega)]; rfl
      simp only
      rw [if_pos (by omega), hx, Option.bind_some, at_gd hk, Option.bind_some, l01Dec_eq (by omega) (by omega), Option.bind_some, app_ok (by simp; omega), Option.bind_some, Option.bind_some, l01Dec_eq (by omega) (by omega), Option.bind_some, app_ok (by simp; omega), Option.bind_some,
        app_ok (by simp; omega), Option.bind_some, Option.bind_some, l01Dec_eq (by omega) (by omega), Option.bind_some, app_ok (by simp; omega), Option.bind_some, app_ok (by split <;> simp <;> omega), Option.bind_some, w64_id (by omega) (by omega)]
      congr 3
      rw [pcs_succ hk]
      by_cases h0 : k = 0
      · subst h0
        rw [if_pos rfl, show pcs l 0 = [] from rfl, List.nil_append, List.nil_append, Lib.join_one]; rfl
      · rw [if_neg h0, join_snoc _ _ _ (fun he => by rw [he] at e; simp at e; omega), List.append_assoc]; rfl
    · simp only; rw [if_neg (by omega)]
/- beats of the first parts -/
theorem gd_take {l : List GPart} {k i : Nat} (h : i < k) : gd (l.take k) i = gd l i := by
  simp [gd, List.getD, List.getElem?_take, h]
theorem beatsOf_take {l : List GPart} (hv : vpc l = true) {k : Nat} (hk : k ≤ l.length) : impl_beatsOf (l.take k) = some (nb l k : Int) := by
  obtain ⟨l1, l2⟩ := vpc_len hv
  have hl : (l.take k).length = k := by rw [List.length_take]; omega
  unfold impl_beatsOf
  refine eq_of_wp ?_
  refine wp_cnt (fun i => ((nb l i : Int), (i : Int))) k rfl (by omega) (fun i hi => ?_) (b := (nb l k : Int)) ?_ (wp_some rfl)
  · have h1 := nb_bd hv i (by omega)
    obtain ⟨h2, h3, h4⟩ := bts_ok (vpc_gd hv (show i < l.length by omega))
    simp only
    rw [if_pos (by omega), at_gd (show i < (l.take k).length by omega), gd_take hi, Option.bind_some, ← h2, w64_id (n := (bts (gd l i) : Int)) (by omega) (by omega), w64_id (by omega) (by omega), w64_id (by omega) (by omega), nb, Int.natCast_add]; rfl
  · simp only; rw [if_neg (by omega)]
theorem l19Beats_take {l : List GPart} (hv : vpc l = true) {k : Nat} (hk : k ≤ l.length) : spec_l19Beats (l.take k) = some (nb l k : Int) := by
  obtain ⟨l1, l2⟩ := vpc_len hv
  have hl : (l.take k).length = k := by rw [List.length_take]; omega
  unfold spec_l19Beats
  refine eq_of_wp ?_
  refine wp_cnt (fun i => ((nb l i : Int), (i : Int))) k rfl (by omega) (fun i hi => ?_) (b := (nb l k : Int)) ?_ (wp_some rfl)
  · have h1 := nb_bd hv i (by omega)
    obtain ⟨h2, h3, h4⟩ := bts_ok (vpc_gd hv (show i < l.length by omega))
    simp only
    rw [if_pos (by omega), at_gd (show i < (l.take k).length by omega), gd_take hi, Option.bind_some, Option.bind_some, ← h2, w64_id (n := (bts (gd l i) : Int)) (by omega) (by omega), w64_id (by omega) (by omega), w64_id (by omega) (by omega), nb, Int.natCast_add]; rfl
  · simp only; rw [if_neg (by omega)]
/- places of beats -/
theorem place_loop {l : List GPart} (hv : vpc l = true) {i j : Nat} (hi : i < l.length) (hj : j < bts (gd l i)) :
    onL (loop (S := (Int × Int)) (B := (Int × Int)) (R := Empty) (fun ((beat2, part1) : Int × Int) => (at? l part1).bind fun v1 => (at? l part1).bind fun v2 => if beat2 ≥ (w64 (v1.Bars * v2.Beats)) then
      ((at? l part1).bind fun v3 => (at? l part1).bind fun v4 => some (.next (w64 (beat2 - (w64 (v3.Bars * v4.Beats))), w64 (part1 + 1)))) else some (.brk (beat2, part1))) loopLim (((nb l i + j : Nat) : Int), 0))
      (fun ((beat3, part2) : Int × Int) => (at? l part2).bind fun v5 => (div? .i64 beat3 v5.Beats).bind fun q1 => (at? l part2).bind fun v6 => (mod? beat3 v6.Beats).bind fun q2 => some (part2, q1, q2, (0 : Int))) Empty.elim
    = some ((i : Int), (j : Int) / (gd l i).Beats, (j : Int) % (gd l i).Beats, 0) := by
  obtain ⟨l1, l2⟩ := vpc_len hv
  refine eq_of_wp ?_
  have hnb := nb_bd hv i (by omega)
  refine wp_cnt (fun k => (((nb l i + j - nb l k : Nat) : Int), (k : Int))) i (by simp [nb]) (by omega) (fun k hk => ?_) (b := ((j : Int), (i : Int))) ?_ ?_
  · obtain ⟨h2, h3, h4⟩ := bts_ok (vpc_gd hv (show k < l.length by omega))
    have hm := nb_mono (l := l) (show k + 1 ≤ i by omega)
    rw [nb] at hm
    obtain ⟨_, _, h6⟩ := bts_ok (vpc_gd hv hi)
    simp only
    rw [at_gd (show k < l.length by omega)]
    simp only [Option.bind_some]
    rw [← h2, w64_id (n := (bts (gd l k) : Int)) (by omega) (by omega), if_pos (by omega), w64_id (n := (k : Int) + 1) (by omega) (by omega), w64_id (by omega) (by omega)]
    congr 3
    rw [nb]; omega
  · obtain ⟨h2, h3, h4⟩ := bts_ok (vpc_gd hv hi)
    simp only
    rw [at_gd hi]
    simp only [Option.bind_some]
    rw [← h2, w64_id (n := (bts (gd l i) : Int)) (by omega) (by omega), if_neg (by omega)]
    congr 3
    omega
  · obtain ⟨h2, h3, h4⟩ := bts_ok (vpc_gd hv hi)
    obtain ⟨v1, v2, v3⟩ := vpp_ok (vpc_gd hv hi)
    simp only
    rw [at_gd hi, Option.bind_some, div_ok (by omega), Option.bind_some, Option.bind_some, mod_ok (by omega), Option.bind_some]
    have q0 : (0 : Int) ≤ (j : Int) / (gd l i).Beats := Int.ediv_nonneg (by omega) (by omega)
    have q1 : (j : Int) / (gd l i).Beats ≤ (j : Int) := Int.ediv_le_self _ (by omega)
    have e1 : IntKind.wrap .i64 ((j : Int).tdiv (gd l i).Beats) = (j : Int) / (gd l i).Beats := by
      rw [Int.tdiv_eq_ediv_of_nonneg (by omega)]; exact w64_id (by omega) (by omega)
    have e2 : (j : Int).tmod (gd l i).Beats = (j : Int) % (gd l i).Beats := Int.tmod_eq_emod_of_nonneg (by omega)
    rw [e1, e2]
    exact wp_some rfl
/-- the place of a beat, told -/
def PL (l : List GPart) (b : Int) (r : Int × Int × Int × Int) : Prop :=
  if vpc l = true then (if 0 ≤ b ∧ b < (NB l : Int) then ∃ i j : Nat, i < l.length ∧ j < bts (gd l i) ∧ b = ((nb l i + j : Nat) : Int) ∧ r = ((i : Int), (j : Int) / (gd l i).Beats, (j : Int) % (gd l i).Beats, 0) else r = (0, 0, 0, 2)) else r = (0, 0, 0, 1)
theorem place_same {l : List GPart} (hl : l.length ≤ 1000000) (b : Int) : ∃ r, impl_PlaceOfBeat l b = some r ∧ spec_PlaceOfBeat l b = some r ∧ PL l b r := by
  unfold impl_PlaceOfBeat spec_PlaceOfBeat spec_l19Code PL
  rw [ValidPiece_eq hl, l19Ok_eq hl, Option.bind_some, Option.bind_some]
  cases hv : vpc l with
  | false => exact ⟨_, rfl, rfl, rfl⟩
  | true =>
    have hN := NB_bd hv
    simp only [if_true]
    rw [beatsOf_eq hv, l19Beats_eq hv, Option.bind_some, Option.bind_some, w64_id (n := ((NB l : Nat) : Int) - 1) (by omega) (by omega), within_d, l00In_d, Option.bind_some, Option.bind_some]
    by_cases hr : 0 ≤ b ∧ b < (NB l : Int)
    · rw [decide_eq_true (show 0 ≤ b ∧ b ≤ ((NB l : Nat) : Int) - 1 by omega)]
      simp only [if_true, Option.bind_some]
      obtain ⟨i, j, hi, hj, hk⟩ := part_of (l := l) (k := b.toNat) (by omega)
      obtain rfl : b = ((nb l i + j : Nat) : Int) := by omega
      have := place_loop hv hi hj
      exact ⟨_, this, this, by rw [if_pos hr]; exact ⟨i, j, hi, hj, rfl, rfl⟩⟩
    · rw [decide_eq_false (show ¬ (0 ≤ b ∧ b ≤ ((NB l : Nat) : Int) - 1) by omega)]
      exact ⟨_, rfl, rfl, by rw [if_neg hr]⟩
theorem place_at {l : List GPart} (hv : vpc l = true) {i j : Nat} (hi : i < l.length) (hj : j < bts (gd l i)) : impl_PlaceOfBeat l ((nb l i + j : Nat) : Int) = some ((i : Int), (j : Int) / (gd l i).Beats, (j : Int) % (gd l i).Beats, 0) := by
  have hl := vpc_len hv
  have hN := NB_bd hv
  have hm := nb_mono (l := l) (show i + 1 ≤ l.length by omega)
  rw [nb] at hm
  have hNe : NB l = nb l l.length := rfl
  unfold impl_PlaceOfBeat
  rw [ValidPiece_eq (by omega), hv, Option.bind_some, if_pos rfl, beatsOf_eq hv, Option.bind_some, w64_id (n := ((NB l : Nat) : Int) - 1) (by omega) (by omega), within_d, decide_eq_true (by omega), Option.bind_some, if_pos rfl]
  exact place_loop hv hi hj
/-- the beat at a place -/
def bop (l : List GPart) (p a b : Int) : Int × Int :=
  if vpc l = true then (if (0 ≤ p ∧ p < (l.length : Int)) ∧ (0 ≤ a ∧ a < (gd l p.toNat).Bars) ∧ 0 ≤ b ∧ b < (gd l p.toNat).Beats then ((nb l p.toNat : Int) + a * (gd l p.toNat).Beats + b, 0) else (0, 2)) else (0, 1)
theorem bop_bd {l : List GPart} (hv : vpc l = true) {p : Nat} (hp : p < l.length) {a b : Int} (ha : 0 ≤ a ∧ a < (gd l p).Bars) (hb : 0 ≤ b ∧ b < (gd l p).Beats) : 0 ≤ a * (gd l p).Beats ∧ a * (gd l p).Beats + b < (bts (gd l p) : Int) := by
  obtain ⟨h2, h3, h4⟩ := bts_ok (vpc_gd hv hp)
  have h5 : 0 ≤ a * (gd l p).Beats := Int.mul_nonneg ha.1 (by omega)
  have h6 : (a + 1) * (gd l p).Beats ≤ (gd l p).Bars * (gd l p).Beats := Int.mul_le_mul_of_nonneg_right (by omega) (by omega)
  rw [Int.add_mul, Int.one_mul] at h6
  omega
theorem at_gdI {l : List GPart} {p : Int} (h0 : 0 ≤ p) (h1 : p < (l.length : Int)) : at? l p = some (gd l p.toNat) := by
  have := at_gd (l := l) (i := p.toNat) (by omega)
  rwa [show ((p.toNat : Nat) : Int) = p by omega] at this
theorem bop_same {l : List GPart} (hl : l.length ≤ 1000000) {p a b : Int} (ha : -100 ≤ a ∧ a ≤ 1000) (hb : -100 ≤ b ∧ b ≤ 1000) : impl_BeatOfPlace l p a b = some (bop l p a b) ∧ spec_BeatOfPlace l p a b = some (bop l p a b) := by
  unfold impl_BeatOfPlace spec_BeatOfPlace bop
  rw [ValidPiece_eq hl, l19Ok_eq hl, Option.bind_some, Option.bind_some]
  cases hv : vpc l with
  | false => exact ⟨rfl, rfl⟩
  | true =>
    have hl2 := vpc_len hv
    simp only [if_true]
    rw [w64_id (n := (l.length : Int) - 1) (by omega) (by omega), within_d, l00In_d, Option.bind_some, Option.bind_some]
    by_cases h1 : 0 ≤ p ∧ p < (l.length : Int)
    · rw [decide_eq_true (show 0 ≤ p ∧ p ≤ (l.length : Int) - 1 by omega)]
      obtain ⟨v1, v2, v3⟩ := vpp_ok (vpc_gd hv (show p.toNat < l.length by omega))
      simp only [if_true]
      rw [at_gdI h1.1 h1.2]
      simp only [Option.bind_some]
      rw [w64_id (n := (gd l p.toNat).Bars - 1) (by omega) (by omega), w64_id (n := (gd l p.toNat).Beats - 1) (by omega) (by omega), within_d, l00In_d, within_d, l00In_d]
      simp only [Option.bind_some]
      by_cases h2 : 0 ≤ a ∧ a < (gd l p.toNat).Bars
      · rw [decide_eq_true (show 0 ≤ a ∧ a ≤ (gd l p.toNat).Bars - 1 by omega)]
        simp only [if_true, Option.bind_some]
        by_cases h3 : 0 ≤ b ∧ b < (gd l p.toNat).Beats
        · rw [decide_eq_true (show 0 ≤ b ∧ b ≤ (gd l p.toNat).Beats - 1 by omega), if_pos (show (0 ≤ p ∧ p < (l.length : Int)) ∧ (0 ≤ a ∧ a < (gd l p.toNat).Bars) ∧ 0 ≤ b ∧ b < (gd l p.toNat).Beats from ⟨h1, h2, h3⟩)]
          have hbd := bop_bd hv (show p.toNat < l.length by omega) h2 h3
          have hnb := nb_bd hv p.toNat (by omega)
          obtain ⟨g2, g3, g4⟩ := bts_ok (vpc_gd hv (show p.toNat < l.length by omega))
          have hs : sub? l 0 p = some (l.take p.toNat) := by
            rw [sub_ok (by omega) h1.1 (by omega)]; simp
          simp only [Bool.not_true, Option.bind_some, Bool.false_eq_true, if_false]
          rw [hs, Option.bind_some, Option.bind_some, beatsOf_take hv (by omega), l19Beats_take hv (by omega), Option.bind_some, w64_id (n := a * (gd l p.toNat).Beats) (by omega) (by omega), w64_id (n := (nb l p.toNat : Int) + a * (gd l p.toNat).Beats) (by omega) (by omega), w64_id (by omega) (by omega)]
          exact ⟨rfl, rfl⟩
        · rw [decide_eq_false (show ¬ (0 ≤ b ∧ b ≤ (gd l p.toNat).Beats - 1) by omega), if_neg (show ¬ ((0 ≤ p ∧ p < (l.length : Int)) ∧ (0 ≤ a ∧ a < (gd l p.toNat).Bars) ∧ 0 ≤ b ∧ b < (gd l p.toNat).Beats) from fun h => h3 h.2.2)]
          exact ⟨rfl, rfl⟩
      · rw [decide_eq_false (show ¬ (0 ≤ a ∧ a ≤ (gd l p.toNat).Bars - 1) by omega), if_neg (show ¬ ((0 ≤ p ∧ p < (l.length : Int)) ∧ (0 ≤ a ∧ a < (gd l p.toNat).Bars) ∧ 0 ≤ b ∧ b < (gd l p.toNat).Beats) from fun h => h2 h.2.1)]
        exact ⟨rfl, rfl⟩
    · rw [decide_eq_false (show ¬ (0 ≤ p ∧ p ≤ (l.length : Int) - 1) by omega), if_neg (show ¬ ((0 ≤ p ∧ p < (l.length : Int)) ∧ (0 ≤ a ∧ a < (gd l p.toNat).Bars) ∧ 0 ≤ b ∧ b < (gd l p.toNat).Beats) from fun h => h1 h.1)]
      exact ⟨rfl, rfl⟩
/- times -/
theorem time_same {l : List GPart} (hl : l.length ≤ 1000000) {b : Int} (hb : -9223372036854775808 ≤ b ∧ b ≤ 9223372036854775807) : ∃ r : GFraction × Int, impl_TimeOfBeat l b = some r ∧ spec_TimeOfBeat l b = some r ∧
    (r.2 = 0 → vpc l = true ∧ (0 ≤ b ∧ b < (NB l : Int)) ∧ us l ≠ 0 ∧ Red (Tbt (us l) l b.toNat) (us l) r.1) := by
  by_cases hv : vpc l = true
  · have hN := NB_bd hv
    have hl2 := vpc_len hv
    by_cases hr : 0 ≤ b ∧ b < (NB l : Int)
    · by_cases h0 : us l = 0
      · refine ⟨(GFraction.mk 0 0, 5), ?_, ?_, fun h => by simp at h⟩
        · unfold impl_TimeOfBeat impl_TimeOfBeat_1
          rw [beatsOf_eq hv, Option.bind_some, w64_id (n := ((NB l : Nat) : Int) - 1) (by omega) (by omega), within_d, Option.bind_some, decide_eq_true (by omega), timesOf_eq hl, Option.bind_some]
          unfold tms
          rw [if_pos hv, if_pos rfl, if_pos h0]; rfl
        · unfold spec_TimeOfBeat spec_l19Code
          rw [l19Ok_eq hl, hv, Option.bind_some, if_pos rfl, l19Beats_eq hv, Option.bind_some, w64_id (n := ((NB l : Nat) : Int) - 1) (by omega) (by omega), l00In_d, decide_eq_true (by omega), Option.bind_some, if_pos rfl, Option.bind_some, if_pos rfl, l19Parts_eq hv, Option.bind_some, if_pos h0]
          rfl
      · obtain ⟨k, rfl⟩ : ∃ k : Nat, b = (k : Int) := ⟨b.toNat, by omega⟩
        have hk : k < NB l := by omega
        obtain ⟨hu, hd⟩ := us_ok hv h0
        obtain ⟨f, hf, hfr⟩ := TimeOfBeat_eq hv h0 hk
        have hbT := T_big hv hu hd (show k ≤ NB l by omega)
        obtain ⟨g, hg, hgr⟩ := l02Make_eq (n := Tbt (us l) l k) (d := us l) (by omega) (by omega) (by omega)
        have hfg : g = f := Red.unique hgr.pos hfr.pos hgr.cop hfr.cop (by
          have h1 := hgr.eq
          have h2 := hfr.eq
          have : (g.Num * f.Den) * us l = (f.Num * g.Den) * us l := by
            calc (g.Num * f.Den) * us l = (g.Num * us l) * f.Den := by simp only [Int.mul_assoc, Int.mul_comm, Int.mul_left_comm]
              _ = (Tbt (us l) l k * g.Den) * f.Den := by rw [h1]
              _ = (Tbt (us l) l k * f.Den) * g.Den := by simp only [Int.mul_assoc, Int.mul_comm, Int.mul_left_comm]
              _ = (f.Num * us l) * g.Den := by rw [h2]
              _ = (f.Num * g.Den) * us l := by simp only [Int.mul_assoc, Int.mul_comm, Int.mul_left_comm]
          exact Int.eq_of_mul_eq_mul_right (show us l ≠ 0 from h0) this)
        subst hfg
        refine ⟨(g, 0), hf, ?_, fun _ => ⟨hv, hr, h0, by simpa using hfr⟩⟩
        unfold spec_TimeOfBeat spec_l19Code
        rw [l19Ok_eq hl, hv, Option.bind_some, if_pos rfl, l19Beats_eq hv, Option.bind_some, w64_id (n := ((NB l : Nat) : Int) - 1) (by omega) (by omega), l00In_d, decide_eq_true (by omega), Option.bind_some, if_pos rfl, Option.bind_some, if_pos rfl, l19Parts_eq hv, Option.bind_some, if_neg h0, Option.bind_some]
        simp only [if_true]
        rw [l19Units_eq hv hu hd (by omega), Option.bind_some, hg]; rfl
    · refine ⟨(GFraction.mk 0 0, 2), ?_, ?_, fun h => by simp at h⟩
      · unfold impl_TimeOfBeat impl_TimeOfBeat_1
        rw [beatsOf_eq hv, Option.bind_some, w64_id (n := ((NB l : Nat) : Int) - 1) (by omega) (by omega), within_d, Option.bind_some, decide_eq_false (by omega), timesOf_eq hl, Option.bind_some]
        unfold tms
        rw [if_pos hv]; rfl
      · unfold spec_TimeOfBeat spec_l19Code
        rw [l19Ok_eq hl, hv, Option.bind_some, if_pos rfl, l19Beats_eq hv, Option.bind_some, w64_id (n := ((NB l : Nat) : Int) - 1) (by omega) (by omega), l00In_d, decide_eq_false (by omega), Option.bind_some]
        rfl
  · have hv' : vpc l = false := by simpa using hv
    refine ⟨(GFraction.mk 0 0, 1), ?_, ?_, fun h => by simp at h⟩
    · unfold impl_TimeOfBeat impl_timesOf
      rw [ValidPiece_eq hl, hv', Option.bind_some]; rfl
    · unfold spec_TimeOfBeat spec_l19Code
      rw [l19Ok_eq hl, hv', Option.bind_some]; rfl
theorem red_ge {n d : Int} {f : GFraction} (hr : Red n d f) (hd : 0 < d) (s : Int) : s * f.Den ≤ f.Num ↔ s * d ≤ n := by
  have h1 := hr.eq
  have h2 := hr.pos
  constructor
  · intro h
    have := Int.mul_le_mul_of_nonneg_right h (show 0 ≤ d by omega)
    rw [h1, Int.mul_assoc, Int.mul_comm f.Den d, ← Int.mul_assoc] at this
    exact Int.le_of_mul_le_mul_right this h2
  · intro h
    have := Int.mul_le_mul_of_nonneg_right h (show 0 ≤ f.Den by omega)
    rw [← h1, Int.mul_assoc, Int.mul_comm d f.Den, ← Int.mul_assoc] at this
    exact Int.le_of_mul_le_mul_right this hd
/-- a step takes no more than three seconds -/
theorem step3 {l : List GPart} (h : vpc l = true) {u : Int} (hu : 1 ≤ u ∧ u ≤ 100000000) (hd : ∀ i, i < l.length → (gd l i).Tempo ∣ u) {k : Nat} (hk : k < NB l) : Tbt u l (k + 1) ≤ Tbt u l k + 3 * u := by
  obtain ⟨i, j, hi, hj, rfl⟩ := part_of hk
  obtain ⟨_, _, h3⟩ := vpp_ok (vpc_gd h hi)
  have e : Tbt u l (nb l i + j + 1) = Tbt u l (nb l i + j) + sa u l (nb l i + j) := rfl
  rw [e, sa_at u l i j hi hj]
  have : stp1 u (gd l i) ≤ 3 * u := by
    unfold stp1
    rw [Int.tdiv_eq_ediv_of_nonneg (by omega)]
    refine Int.le_of_lt_add_one ((Int.ediv_lt_iff_lt_mul (by omega)).2 ?_)
    have := Int.mul_le_mul_of_nonneg_left (show (20 : Int) ≤ (gd l i).Tempo by omega) (show (0 : Int) ≤ 3 * u + 1 by omega)
    omega
  omega
theorem T_le3 {l : List GPart} (h : vpc l = true) {u : Int} (hu : 1 ≤ u ∧ u ≤ 100000000) (hd : ∀ i, i < l.length → (gd l i).Tempo ∣ u) : ∀ {k : Nat}, k ≤ NB l → Tbt u l k ≤ 3 * u * k
  | 0, _ => by simp [Tbt, sm]
  | k + 1, hk => by
    have ih := T_le3 h hu hd (k := k) (by omega)
    have := step3 h hu hd (show k < NB l by omega)
    rw [Int.natCast_succ, Int.mul_add, Int.mul_one]; omega
/- draws -/
theorem l19Beat_ok {code : List Int} (hc : okL (okI .u8) code) (hl : code.length ≤ 4096) : wp (spec_DrawPlaceOfBeat code) fun r => r.1.length ≤ 13 ∧ -1 ≤ r.2 ∧ r.2 ≤ 28800 := by
  have key : wp (spec_l19Beat code) fun r => r.1.length ≤ 13 ∧ -1 ≤ r.2 ∧ r.2 ≤ 28800 := by
    unfold spec_l19Beat
    refine wp_from hc (by omega) fun s h => ?_
    refine wp_seq (l19Draw_ok h (by omega)) ?_
    rintro ⟨l, s1⟩ ⟨h1, h2⟩
    simp only at h1 h2 ⊢
    refine wp_seq (P := fun q : GL00Src × Bool => SrcOk 300 q.1 ∧ (q.2 = true → vpc l = true)) ?_ ?_
    · refine wp_one h1 (by omega) fun b s2 h3 => ?_
      refine wp_bif (fun _ => ?_) (fun _ => wp_some ⟨h3.mono (by omega), fun h => by simp at h⟩)
      rw [l19Ok_eq (by omega), Option.bind_some]
      exact wp_some ⟨h3.mono (by omega), fun h => h⟩
    · rintro ⟨s2, b⟩ ⟨h3, h4⟩
      simp only at h3 h4 ⊢
      refine wp_bif (fun hb => ?_) (fun _ => ?_)
      · have hv := h4 hb
        have hN := NB_bd hv
        rw [l19Beats_eq hv, Option.bind_some, Option.bind_some, w64_id (n := ((NB l : Nat) : Int) - 1) (by omega) (by omega)]
        refine wp_among h3 (by omega) (by simp) (by simp) fun v s3 hv2 h5 => wp_some ⟨h2, ?_⟩
        simp only [List.mem_cons, List.not_mem_nil, or_false] at hv2
        simp only
        rcases hv2 with rfl | rfl | rfl | rfl <;> omega
      · exact wp_pick h3 (by omega) fun v s3 v0 v1 h5 => wp_some ⟨h2, by simp only; omega, by simp only; omega⟩
  unfold spec_DrawPlaceOfBeat
  exact wp_seq key fun r hr => wp_some hr
theorem DrawPlace_ok {code : List Int} (hc : okL (okI .u8) code) (hl : code.length ≤ 4096) : wp (spec_DrawBeatOfPlace code) fun r => r.1.length ≤ 13 ∧ (-100 ≤ r.2.1 ∧ r.2.1 ≤ 1000) ∧ (-100 ≤ r.2.2.1 ∧ r.2.2.1 ≤ 1000) ∧ -100 ≤ r.2.2.2 ∧ r.2.2.2 ≤ 1000 := by
  unfold spec_DrawBeatOfPlace
  refine wp_from hc (by omega) fun s h => ?_
  refine wp_seq (l19Draw_ok h (by omega)) ?_
  rintro ⟨l, s1⟩ ⟨h1, h2⟩
  simp only at h1 h2 ⊢
  rw [w64_id (n := (l.length : Int) + 1) (by omega) (by omega)]
  have q : ∀ v : Int, 0 ≤ v → v < 16 → 0 ≤ v.tdiv 15 ∧ v.tdiv 15 ≤ 1 ∧ w64 (v.tdiv 15) = v.tdiv 15 := fun v a b => by
    rw [Int.tdiv_eq_ediv_of_nonneg a]
    exact ⟨by omega, by omega, w64_id (by omega) (by omega)⟩
  refine wp_pick h1 (by omega) fun a s2 a0 a1 k1 => wp_pick k1 (by omega) fun a' s3 a0' a1' k2 => wp_pick k2 (by omega) fun b s4 b0 b1 k3 => wp_pick k3 (by omega) fun b' s5 b0' b1' k4 => wp_pick k4 (by omega) fun c s6 c0 c1 k5 => wp_pick k5 (by omega) fun c' s7 c0' c1' k6 => wp_some ?_
  obtain ⟨x1, x2, x3⟩ := q a' (by omega) (by omega)
  obtain ⟨y1, y2, y3⟩ := q b' (by omega) (by omega)
  obtain ⟨z1, z2, z3⟩ := q c' (by omega) (by omega)
  simp only
  rw [x3, y3, z3, w64_id (n := a - a'.tdiv 15) (by omega) (by omega), w64_id (n := b - b'.tdiv 15) (by omega) (by omega), w64_id (n := c - c'.tdiv 15) (by omega) (by omega)]
  exact ⟨h2, by omega, by omega, by omega⟩
theorem laws_FnPieces_true {code : List Int} (hc : okL (okI .u8) code) : laws_FnPieces code = some true := by
  refine eq_of_wp ?_
  unfold laws_FnPieces laws_f6big
  rw [Option.bind_some]
  refine wp_bif (fun _ => wp_some rfl) (fun hbig => ?_)
  have hl : code.length ≤ 4096 := by simp at hbig; omega
  refine wp_seq (l19Beat_ok hc hl) ?_
  rintro ⟨l, b⟩ ⟨l1, b1, b2⟩
  simp only at l1 b1 b2 ⊢
  obtain ⟨r3, e3, e4, hPL⟩ := place_same (l := l) (by omega) b
  obtain ⟨r5, e5, e6, hT⟩ := time_same (l := l) (by omega) (b := b) (by omega)
  rw [e3, Option.bind_some, e4, Option.bind_some, e5, Option.bind_some, e6, Option.bind_some]
  have e7 : impl_BeatsOf l = some (if vpc l = true then ((NB l : Int), 0) else (0, 1)) := by
    unfold impl_BeatsOf
    rw [ValidPiece_eq (by omega), Option.bind_some]
    cases hv : vpc l with
    | false => rfl
    | true => simp only [if_true]; rw [beatsOf_eq hv]; rfl
  have e8 : spec_BeatsOf l = some (if vpc l = true then ((NB l : Int), 0) else (0, 1)) := by
    unfold spec_BeatsOf
    rw [l19Ok_eq (by omega), Option.bind_some]
    cases hv : vpc l with
    | false => rfl
    | true => simp only [if_true]; rw [l19Beats_eq hv]; rfl
  rw [e7, Option.bind_some, e8, Option.bind_some]
  refine wp_seq (DrawPlace_ok hc hl) ?_
  rintro ⟨a, p, x, y⟩ ⟨a1, p1, x1, y1⟩
  simp only at a1 p1 x1 y1 ⊢
  obtain ⟨e10, e11⟩ := bop_same (l := a) (by omega) (p := p) x1 y1
  rw [e10, Option.bind_some, e11, Option.bind_some, PieceText_eq (by omega), spec_PieceText_eq (by omega)]
  have e14 : spec_ValidPiece l = some (vpc l) := by unfold spec_ValidPiece; rw [l19Ok_eq (by omega)]; rfl
  rw [ValidPiece_eq (by omega), e14]
  simp only [if_true, beq_self_eq_true, Bool.and_self, Option.bind_some, Bool.not_true, Bool.false_eq_true, if_false]
  -- a place's beat has that place
  have h1 : (if (bop a p x y).2 = 0 then ((impl_PlaceOfBeat a (bop a p x y).1).bind fun r16 => if r16.2.2.2 = 0 then (if r16.1 = p then (if r16.2.1 = x then (if r16.2.2.1 = y then (some (Step.next () : Step Unit Empty Bool)) else some (.ret false)) else some (.ret false)) else some (.ret false)) else some (.ret false)) else some (.next ())) = some (.next ()) := by
    by_cases hz : (bop a p x y).2 = 0
    · rw [if_pos hz]
      unfold bop at hz ⊢
      by_cases hv : vpc a = true
      · rw [if_pos hv] at hz ⊢
        by_cases hin : (0 ≤ p ∧ p < (a.length : Int)) ∧ (0 ≤ x ∧ x < (gd a p.toNat).Bars) ∧ 0 ≤ y ∧ y < (gd a p.toNat).Beats
        · rw [if_pos hin]
          obtain ⟨hp, hx, hy⟩ := hin
          have hbd := bop_bd hv (show p.toNat < a.length by omega) hx hy
          obtain ⟨j, hj⟩ : ∃ j : Nat, x * (gd a p.toNat).Beats + y = (j : Int) := ⟨(x * (gd a p.toNat).Beats + y).toNat, by omega⟩
          have hpl := place_at hv (i := p.toNat) (j := j) (by omega) (by omega)
          have e : ((nb a p.toNat + j : Nat) : Int) = (nb a p.toNat : Int) + x * (gd a p.toNat).Beats + y := by omega
          rw [e] at hpl
          simp only
          rw [hpl, Option.bind_some]
          have hB : 0 < (gd a p.toNat).Beats := by omega
          have d1 : (j : Int) / (gd a p.toNat).Beats = x := by
            rw [← hj, Int.add_comm, Int.add_mul_ediv_right _ _ (by omega), Int.ediv_eq_zero_of_lt hy.1 hy.2]; omega
          have d2 : (j : Int) % (gd a p.toNat).Beats = y := by
            rw [← hj, Int.add_comm, Int.add_mul_emod_self_right, Int.emod_eq_of_lt hy.1 hy.2]
          simp only [if_true]
          rw [if_pos (by omega), if_pos d1, if_pos d2]
        · rw [if_neg hin] at hz; simp at hz
      · rw [if_neg hv] at hz; simp at hz
    · rw [if_neg hz]
  rw [h1, onS_next]
  refine wp_ite (fun hz => ?_) (fun _ => wp_some rfl)
  -- the place of the beat
  unfold PL at hPL
  have hv : vpc l = true := by
    refine Classical.byContradiction fun hn => ?_
    rw [if_neg hn] at hPL
    rw [hPL] at hz; simp at hz
  rw [if_pos hv] at hPL
  have hr : 0 ≤ b ∧ b < (NB l : Int) := by
    refine Classical.byContradiction fun hn => ?_
    rw [if_neg hn] at hPL
    rw [hPL] at hz; simp at hz
  rw [if_pos hr] at hPL
  obtain ⟨i, j, hi, hj, hb, rfl⟩ := hPL
  obtain ⟨v1, v2, v3⟩ := vpp_ok (vpc_gd hv hi)
  obtain ⟨g2, g3, g4⟩ := bts_ok (vpc_gd hv hi)
  have m0 : 0 ≤ (j : Int) % (gd l i).Beats := Int.emod_nonneg _ (by omega)
  have m1 : (j : Int) % (gd l i).Beats < (gd l i).Beats := Int.emod_lt_of_pos _ (by omega)
  have q0 : 0 ≤ (j : Int) / (gd l i).Beats := Int.ediv_nonneg (by omega) (by omega)
  have q1 : (j : Int) / (gd l i).Beats < (gd l i).Bars := by
    rw [Int.ediv_lt_iff_lt_mul (by omega)]; omega
  have hdm := Int.ediv_mul_add_emod (j : Int) (gd l i).Beats
  have hback : impl_BeatOfPlace l (i : Int) ((j : Int) / (gd l i).Beats) ((j : Int) % (gd l i).Beats) = some (b, 0) := by
    rw [(bop_same (l := l) (by omega) (p := (i : Int)) (a := (j : Int) / (gd l i).Beats) (b := (j : Int) % (gd l i).Beats) (by omega) (by omega)).1]
    unfold bop
    rw [if_pos hv, if_pos ⟨by omega, by simp only [Int.toNat_natCast]; omega, by simp only [Int.toNat_natCast]; omega⟩]
    simp only [Int.toNat_natCast]
    congr 2; omega
  simp only
  rw [hback, Option.bind_some]
  simp only [if_true, hv]
  rw [decide_eq_false (by omega)]
  simp only [Option.bind_some, Bool.false_eq_true, if_false]
  have hN := NB_bd hv
  rw [w64_id (n := b + 1) (by omega) (by omega)]
  by_cases hz5 : r5.2 = 0
  · rw [if_pos hz5, Option.bind_some]
    refine wp_bif (fun _ => wp_some rfl) (fun hnx => ?_)
    have hlt : b + 1 < (NB l : Int) := by simp at hnx; omega
    obtain ⟨_, _, h0, hred⟩ := hT hz5
    obtain ⟨hu, hd⟩ := us_ok hv h0
    obtain ⟨k, rfl⟩ : ∃ k : Nat, b = (k : Int) := ⟨b.toNat, by omega⟩
    obtain ⟨f, hf, hfr⟩ := TimeOfBeat_eq hv h0 (k := k + 1) (by omega)
    rw [show ((k + 1 : Nat) : Int) = (k : Int) + 1 by omega] at hf
    rw [hf, Option.bind_some]
    have T0 := T_big hv hu hd (show k ≤ NB l by omega)
    have T1 := T_big hv hu hd (show k + 1 ≤ NB l by omega)
    have Tm := T_lt hv hu hd (show k < k + 1 by omega) (show k + 1 ≤ NB l by omega)
    have Ts := step3 hv hu hd (show k < NB l by omega)
    have T3 := T_le3 hv hu hd (show k + 1 ≤ NB l by omega)
    have T4 := T_le3 hv hu hd (show k ≤ NB l by omega)
    have m3 : 3 * us l * ((k + 1 : Nat) : Int) ≤ 3 * us l * 28800 := Int.mul_le_mul_of_nonneg_left (by omega) (by omega)
    have m4 : 3 * us l * (k : Int) ≤ 3 * us l * 28800 := Int.mul_le_mul_of_nonneg_left (by omega) (by omega)
    simp only [Int.toNat_natCast] at hred
    have fd := hfr.den_le (by omega)
    have rd := hred.den_le (by omega)
    have fp := hfr.pos
    have rp := hred.pos
    have fn0 : 0 ≤ f.Num := by have := (red_ge hfr (by omega) 0).2 (by omega); omega
    have rn0 : 0 ≤ r5.1.Num := by have := (red_ge hred (by omega) 0).2 (by omega); omega
    have fn1 : f.Num ≤ 100000 * f.Den := (red_le hfr (by omega) 100000).2 (by omega)
    have rn1 : r5.1.Num ≤ 100000 * r5.1.Den := (red_le hred (by omega) 100000).2 (by omega)
    simp only [if_true]
    rw [if_neg (by omega), if_neg (by omega), if_neg (by omega), if_neg (by omega), w64_id (n := 100000 * f.Den) (by omega) (by omega), if_neg (by omega), w64_id (n := 100000 * r5.1.Den) (by omega) (by omega), decide_eq_false (by omega)]
    simp only [Option.bind_some, Bool.false_eq_true, if_false]
    rw [div_ok (by omega), Option.bind_some, div_ok (by omega), Option.bind_some]
    have c0 := Int.ediv_nonneg fn0 (show 0 ≤ f.Den by omega)
    have c1 := Int.ediv_le_self f.Den fn0
    have c2 := Int.ediv_nonneg rn0 (show 0 ≤ r5.1.Den by omega)
    have c3 := Int.ediv_le_self r5.1.Den rn0
    have w1 : IntKind.wrap .i64 (f.Num.tdiv f.Den) = f.Num / f.Den := by rw [Int.tdiv_eq_ediv_of_nonneg fn0]; exact w64_id (by omega) (by omega)
    have w2 : IntKind.wrap .i64 (r5.1.Num.tdiv r5.1.Den) = r5.1.Num / r5.1.Den := by rw [Int.tdiv_eq_ediv_of_nonneg rn0]; exact w64_id (by omega) (by omega)
    rw [w1, w2]
    -- the whole parts
    have A1 := (red_ge hred (by omega) (r5.1.Num / r5.1.Den)).1 (Int.ediv_mul_le _ (by omega))
    have B1 := (red_ge hfr (by omega) (f.Num / f.Den)).1 (Int.ediv_mul_le _ (by omega))
    have A2 : ¬ (r5.1.Num / r5.1.Den + 1) * us l ≤ Tbt (us l) l k := fun h => by
      have h1 := (red_ge hred (by omega) _).2 h
      have h2 := Int.lt_ediv_add_one_mul_self r5.1.Num rp
      omega
    have B2 : ¬ (f.Num / f.Den + 1) * us l ≤ Tbt (us l) l (k + 1) := fun h => by
      have h1 := (red_ge hfr (by omega) _).2 h
      have h2 := Int.lt_ediv_add_one_mul_self f.Num fp
      omega
    generalize r5.1.Num / r5.1.Den = A at *
    generalize f.Num / f.Den = B at *
    have hAB : A ≤ B := by
      refine Classical.byContradiction fun hc => B2 ?_
      have := Int.mul_le_mul_of_nonneg_right (show B + 1 ≤ A by omega) (show 0 ≤ us l by omega)
      omega
    have hBA : B ≤ A + 4 := by
      refine Classical.byContradiction fun hc => A2 ?_
      have h5 := Int.mul_le_mul_of_nonneg_right (show A + 4 ≤ B by omega) (show 0 ≤ us l by omega)
      rw [Int.add_mul] at h5 ⊢
      omega
    rw [if_pos hAB, Option.bind_some, Option.bind_some, w64_id (n := A + 4) (by omega) (by omega)]
    exact wp_some (by simp [hBA])
  · rw [if_neg hz5, Option.bind_some, if_pos rfl]
    exact wp_some rfl
end Go.Vs.G

