/- Plain facts about the typed functions, up to the law: no program in sight. No conditions. -/
import Derived.Test.YtiefnapeghkjnaaV5
import Derived.Test.YtiefnapeghkjnaaDLTempos
namespace Go.Vs
open Go

section
variable {α β S B R : Type}

open Classical in
/-- a loop that looks at each round for a reason to stop -/
theorem scan {body : Int → Option (Step Int Unit R)} {kb : Unit → Option β} {kr : R → Option β} {s n : Nat} {c : Nat → Bool} {r : R} (hs : s ≤ n) (hn : n < 9223372036854775807)
    (hb : ∀ i : Nat, s ≤ i → i < n → body (i : Int) = some (if c i = true then .next ((i : Int) + 1) else .ret r)) (he : body (n : Int) = some (.brk ())) :
    onL (loop body loopLim (s : Int)) kb kr = if ∀ i, s ≤ i → i < n → c i = true then kb () else kr r := by
  by_cases h : ∀ i, s ≤ i → i < n → c i = true
  · rw [if_pos h]
    have := loop_brk (body := body) (fun j => ((s + j : Nat) : Int)) (b := ()) (n - s) (by omega) (fun j hj => by
      rw [hb (s + j) (by omega) (by omega), if_pos (h _ (by omega) (by omega))]; congr 2) (by rw [show s + (n - s) = n by omega]; exact he)
    simp only [Nat.add_zero] at this
    rw [this]; rfl
  · rw [if_neg h]
    have hex : ∃ k, s ≤ k ∧ k < n ∧ c k = false := by
      refine Classical.byContradiction fun hc => h fun i h1 h2 => ?_
      cases hci : c i with
      | true => rfl
      | false => exact absurd ⟨i, h1, h2, hci⟩ hc
    -- the first of them
    have hleast : ∃ k, (s ≤ k ∧ k < n ∧ c k = false) ∧ ∀ j, s ≤ j → j < k → c j = true := by
      obtain ⟨k, hk⟩ := hex
      induction k using Nat.strongRecOn with
      | _ k ih =>
        by_cases hall : ∀ j, s ≤ j → j < k → c j = true
        · exact ⟨k, hk, hall⟩
        · have : ∃ j, s ≤ j ∧ j < k ∧ c j = false := by
            refine Classical.byContradiction fun hc => hall fun i h1 h2 => ?_
            cases hci : c i with
            | true => rfl
            | false => exact absurd ⟨i, h1, h2, hci⟩ hc
          obtain ⟨j, h1, h2, h3⟩ := this
          exact ih j h2 ⟨h1, by omega, h3⟩
    obtain ⟨k, ⟨h1, h2, h3⟩, h4⟩ := hleast
    have := loop_ret' (body := body) (fun j => ((s + j : Nat) : Int)) (r := r) (k - s) (by omega) (fun j hj => by
      rw [hb (s + j) (by omega) (by omega), if_pos (h4 _ (by omega) (by omega))]; congr 2) (by
      rw [show s + (k - s) = k by omega, hb k h1 h2, h3]; rfl)
    simp only [Nat.add_zero] at this
    rw [this]; rfl
theorem w64_succ {i n : Nat} (h : i < n) (hn : n < 9223372036854775807) : w64 ((i : Int) + 1) = (i : Int) + 1 := w64_id (by omega) (by omega)
theorem at_of {l : List α} {i : Nat} (h : i < l.length) : at? l (i : Int) = some l[i] := at_nat h
/-- comparisons element by element -/
theorem eqS {f : α → α → Option Bool} {c : α → α → Bool} (a b : List α) (hf : ∀ x, x ∈ a → ∀ y, y ∈ b → f x y = some (c x y)) (ha : a.length < 9223372036854775807) :
    (if (a.length : Int) = (b.length : Int) then (onL (loop (S := Int) (B := Unit) (R := Bool) (fun (i1 : Int) => if i1 < (a.length : Int) then
      ((at? a i1).bind fun v1 => (at? b i1).bind fun v2 => (f v1 v2).bind fun r1 => if r1 then (some (.next (w64 (i1 + 1)))) else some (.ret false)) else some (.brk ())) loopLim 0) (fun (_ : Unit) => some true) (fun r => some r)) else some false)
      = some (decide (a.length = b.length) && (List.zipWith c a b).all id) := by
  by_cases hl : a.length = b.length
  · rw [if_pos (by omega)]
    have := scan (body := fun (i1 : Int) => if i1 < (a.length : Int) then
      ((at? a i1).bind fun v1 => (at? b i1).bind fun v2 => (f v1 v2).bind fun r1 => if r1 then (some (.next (w64 (i1 + 1)))) else some (.ret false)) else some (.brk ()))
      (kb := fun (_ : Unit) => some true) (kr := fun r => some r) (s := 0) (n := a.length) (c := fun i => if h : i < a.length ∧ i < b.length then c a[i] b[i] else true) (r := false) (by omega) ha ?_ (by simp)
    · simp only [Int.natCast_zero] at this
      refine this.trans ?_
      split
      · rename_i h
        congr 1
        symm
        simp only [Bool.and_eq_true, decide_eq_true_eq, hl, true_and, List.all_eq_true, id]
        intro x hx
        obtain ⟨i, hi, rfl⟩ := List.getElem_of_mem hx
        simp only [List.length_zipWith] at hi
        have := h i (by omega) (by omega)
        simpa [show i < a.length ∧ i < b.length by omega] using this
      · rename_i h
        congr 1
        symm
        simp only [Bool.and_eq_false_iff]
        right
        refine Classical.byContradiction fun hc => h fun i _ hi => ?_
        have hall : (List.zipWith c a b).all id = true := by simpa using hc
        rw [List.all_eq_true] at hall
        have hi2 : i < a.length ∧ i < b.length := ⟨hi, by omega⟩
        have := hall (c a[i] b[i]) (by
          rw [List.mem_iff_getElem]
          exact ⟨i, by simp; omega, by simp⟩)
        simpa [hi2] using this
    · intro i _ hi
      have hib : i < b.length := by omega
      have h1 : (i : Int) < (a.length : Int) := by omega
      simp only [h1, if_true, at_of hi, at_of hib, Option.bind_some, hf _ (List.getElem_mem hi) _ (List.getElem_mem hib), hi, hib, and_self, dite_true]
      split
      · rw [w64_id (by omega) (by omega)]
      · rfl
  · rw [if_neg (by omega)]
    simp [hl]
theorem zip_eq [DecidableEq α] {c : α → α → Bool} (hc : ∀ x y, c x y = decide (x = y)) : ∀ (a b : List α), (decide (a.length = b.length) && (List.zipWith c a b).all id) = decide (a = b)
  | [], [] => by simp
  | [], _ :: _ => by simp
  | _ :: _, [] => by simp
  | x :: a, y :: b => by
    have ih := zip_eq hc a b
    simp only [List.length_cons, Nat.add_right_cancel_iff, List.zipWith_cons_cons, List.all_cons, id, List.cons.injEq, hc] at ih ⊢
    by_cases hxy : x = y
    · simp [hxy, ih]
    · simp [hxy]
end
/-- the same with a proposition for a test -/
theorem eqSp {α : Type} [DecidableEq α] (a b : List α) (ha : a.length < 9223372036854775807) :
    (if (a.length : Int) = (b.length : Int) then (onL (loop (S := Int) (B := Unit) (R := Bool) (fun (i1 : Int) => if i1 < (a.length : Int) then
      ((at? a i1).bind fun v1 => (at? b i1).bind fun v2 => if v1 = v2 then (some (.next (w64 (i1 + 1)))) else some (.ret false)) else some (.brk ())) loopLim 0) (fun (_ : Unit) => some true) (fun r => some r)) else some false)
      = some (decide (a = b)) := by
  rw [← zip_eq (c := fun x y => decide (x = y)) (fun _ _ => rfl), ← eqS (f := fun x y => some (decide (x = y))) (c := fun x y => decide (x = y)) a b (fun _ _ _ _ => rfl) ha]
  congr 3
  funext i
  split
  · congr 1; funext v1; congr 1; funext v2
    simp only [Option.bind_some, decide_eq_true_eq]
  · rfl
end Go.Vs

namespace Go.Vs.G
open Go Go.Vs

/-- a source that can still be asked; B bounds the place that it has come to -/
structure SrcOk (B : Int) (s : GL00Src) : Prop where
  bytes : ∀ x, x ∈ s.code → 0 ≤ x ∧ x ≤ 255
  len : s.code.length ≤ 1000000
  at0 : 0 ≤ s.at_
  atB : s.at_ ≤ B
theorem SrcOk.mono {B B' : Int} {s : GL00Src} (h : SrcOk B s) (hB : B ≤ B') : SrcOk B' s := ⟨h.bytes, h.len, h.at0, Int.le_trans h.atB hB⟩
theorem srcOk_from {code : List Int} (h : okL (okI .u8) code) (hl : code.length ≤ 1000000) : SrcOk 0 (GL00Src.mk code 0 0) :=
  ⟨fun x hx => okU8 (h.2 x hx), hl, by simp, by simp⟩
theorem shr40 (n : Int) : shr? .u64 n 40 = some (n.fdiv (2 ^ 40)) := by
  simp [shr?, IntKind.bits]
theorem and255 (n : Int) : 0 ≤ bit_and .u64 n 255 ∧ bit_and .u64 n 255 ≤ 255 := by
  unfold bit_and
  rw [wu64_def]
  have h : (BitVec.ofInt IntKind.u64.bits n &&& BitVec.ofInt IntKind.u64.bits 255).toNat ≤ 255 := by
    rw [BitVec.toNat_and]
    exact Nat.le_trans Nat.and_le_right (by decide)
  omega
theorem next_ok {B : Int} {s : GL00Src} (h : SrcOk B s) (hB : B ≤ 4611686018427387904) : ∃ v s', spec_l00Src_next s = some (v, s') ∧ 0 ≤ v ∧ v ≤ 255 ∧ SrcOk (B + 1) s' := by
  have h1 := h.at0
  have h2 := h.atB
  have h3 := h.len
  have hat : w64 (s.at_ + 1) = s.at_ + 1 := w64_id (by omega) (by omega)
  have hb : ∃ b, (if s.at_ < (s.code.length : Int) then ((at? s.code s.at_).bind fun v1 => some (w64 v1)) else some 0) = some b ∧ 0 ≤ b ∧ b ≤ 255 := by
    split
    · rename_i hlt
      rw [at_ok h1 (by omega), Option.bind_some]
      obtain ⟨g1, g2⟩ := h.bytes s.code[s.at_.toNat] (List.getElem_mem (by omega))
      exact ⟨_, rfl, by rw [w64_id (by omega) (by omega)]; omega, by rw [w64_id (by omega) (by omega)]; omega⟩
    · exact ⟨0, rfl, by omega, by omega⟩
  obtain ⟨b, hb, b0, b1⟩ := hb
  unfold spec_l00Src_next
  rw [hb, Option.bind_some, hat]
  split
  · exact ⟨_, _, rfl, b0, b1, ⟨h.bytes, h.len, by simp only; omega, by simp only; omega⟩⟩
  · rw [shr40, Option.bind_some]
    have := and255 ((IntKind.wrap .u64 ((IntKind.wrap .u64 ((IntKind.wrap .u64 (s.seed * 6364136223846793005)) + (IntKind.wrap .u64 b))) + 1442695040888963407)).fdiv (2 ^ 40))
    exact ⟨_, _, rfl, by rw [w64_id (by omega) (by omega)]; omega, by rw [w64_id (by omega) (by omega)]; omega, ⟨h.bytes, h.len, by simp only; omega, by simp only; omega⟩⟩
theorem pick_ok {B : Int} {s : GL00Src} (h : SrcOk B s) (hB : B ≤ 4611686018427387000) (n : Int) : ∃ v s', spec_l00Src_pick s n = some (v, s') ∧ 0 ≤ v ∧ (v = 0 ∨ v < n) ∧ SrcOk (B + 2) s' := by
  unfold spec_l00Src_pick
  by_cases hn : n ≤ 1
  · rw [if_pos hn]; exact ⟨0, s, rfl, by omega, .inl rfl, h.mono (by omega)⟩
  · rw [if_neg hn]
    obtain ⟨v, s1, e1, v0, v1, k1⟩ := next_ok h (by omega)
    rw [e1, Option.bind_some]
    by_cases h2 : n > 200
    · rw [if_pos h2]
      obtain ⟨u, s2, e2, u0, u1, k2⟩ := next_ok k1 (by omega)
      simp only
      rw [e2, Option.bind_some, mod_ok (by omega), Option.bind_some, w64_id (n := v * 256) (by omega) (by omega), w64_id (by simp only; omega) (by simp only; omega)]
      have e : (v * 256 + u).tmod n = (v * 256 + u) % n := Int.tmod_eq_emod_of_nonneg (by omega)
      refine ⟨_, _, rfl, ?_, ?_, by rw [show B + 2 = B + 1 + 1 by omega]; exact k2⟩
      · simp only [e]; exact Int.emod_nonneg _ (by omega)
      · simp only [e]; right; exact Int.emod_lt_of_pos _ (by omega)
    · rw [if_neg h2, mod_ok (by omega), Option.bind_some]
      simp only
      have e : v.tmod n = v % n := Int.tmod_eq_emod_of_nonneg (by omega)
      refine ⟨_, _, rfl, ?_, ?_, k1.mono (by omega)⟩
      · rw [e]; exact Int.emod_nonneg _ (by omega)
      · rw [e]; right; exact Int.emod_lt_of_pos _ (by omega)
/-- one of some numbers -/
theorem among_ok {B : Int} {s : GL00Src} (h : SrcOk B s) (hB : B ≤ 4611686018427387000) {l : List Int} (hl : 1 ≤ l.length) (hl2 : l.length ≤ 1000) : ∃ v s', spec_l00Src_among s l = some (v, s') ∧ v ∈ l ∧ SrcOk (B + 2) s' := by
  unfold spec_l00Src_among
  obtain ⟨v, s1, e1, v0, v1, k1⟩ := pick_ok h hB (l.length : Int)
  rw [e1, Option.bind_some]
  simp only
  rw [at_ok v0 (by omega), Option.bind_some]
  exact ⟨_, _, rfl, List.getElem_mem _, k1⟩
end Go.Vs.G

namespace Go.Vs.G
open Go Go.Vs

theorem gcd_tmod (a b : Int) : Int.gcd b (a.tmod b) = Int.gcd a b := by
  rw [Int.gcd_comm b, Int.gcd, Int.natAbs_tmod, Int.gcd, Nat.gcd_comm a.natAbs, Nat.gcd_rec b.natAbs a.natAbs]
theorem tmod_lt (a b : Int) (hb : b ≠ 0) : (a.tmod b).natAbs < b.natAbs := by
  rw [Int.natAbs_tmod]; exact Nat.mod_lt _ (by omega)
theorem gcdLoop {a b : Int} {kb : Int → Option Int} {kr : Empty → Option Int} {Q : Int → Prop} (hb : b.natAbs < 9223372036854775808)
    (hk : ∀ g : Int, g.natAbs = Int.gcd a b → (0 ≤ a → 0 ≤ b → 0 ≤ g) → wp (kb g) Q) :
    wp (onL (loop (S := (Int × Int)) (B := Int) (R := Empty) (fun ((a2, b2) : Int × Int) => if b2 = 0 then (some (.brk a2)) else (mod? a2 b2).bind fun q1 => some (.next (b2, q1))) loopLim (a, b)) kb kr) Q := by
  refine wp_loop (fun s : Int × Int => Int.gcd s.1 s.2 = Int.gcd a b ∧ s.2.natAbs ≤ b.natAbs ∧ (0 ≤ a → 0 ≤ b → 0 ≤ s.1 ∧ 0 ≤ s.2)) (fun s => s.2.natAbs) ⟨rfl, Nat.le_refl _, fun h1 h2 => ⟨h1, h2⟩⟩ (by simp only; omega) ?_
  rintro ⟨a2, b2⟩ ⟨h1, h2, h3⟩
  simp only at h1 h2 h3 ⊢
  refine wp_ite (fun h => ?_) (fun h => ?_)
  · subst h
    exact wp_some (hk a2 (by rw [← h1]; simp) (fun g1 g2 => (h3 g1 g2).1))
  · rw [mod_ok h, Option.bind_some]
    have ht := tmod_lt a2 b2 h
    refine wp_some ⟨⟨by simp only; rw [gcd_tmod, h1], by simp only; omega, fun g1 g2 => ⟨(h3 g1 g2).2, Int.tmod_nonneg _ (h3 g1 g2).1⟩⟩, by simp only; omega⟩
theorem gcd_le {a b : Int} {B : Nat} (ha : a.natAbs ≤ B) (hb : b.natAbs ≤ B) : Int.gcd a b ≤ B := by
  by_cases h : a = 0
  · subst h; simpa using hb
  · exact Nat.le_trans (Nat.gcd_le_left _ (by omega)) ha
theorem impl_gcd_eq {a b : Int} (ha : a.natAbs ≤ 9223372036854775807) (hb : b.natAbs ≤ 9223372036854775807) : impl_gcd a b = some (Int.gcd a b : Int) := by
  refine eq_of_wp ?_
  unfold impl_gcd
  refine gcdLoop (by omega) fun g hg _ => wp_some ?_
  have := gcd_le ha hb
  rw [imax_def, w64_id (by omega) (by omega)]; omega
theorem spec_l00Gcd_eq {a b : Int} (ha : 0 ≤ a) (hb : 0 ≤ b) (hb2 : b.natAbs ≤ 9223372036854775807) : spec_l00Gcd a b = some (Int.gcd a b : Int) := by
  refine eq_of_wp ?_
  unfold spec_l00Gcd
  refine gcdLoop (by omega) fun g hg h0 => wp_some ?_
  have := h0 ha hb
  omega
/-- f is n / d in lowest terms -/
structure Red (n d : Int) (f : GFraction) : Prop where
  pos : 0 < f.Den
  cop : Int.gcd f.Num f.Den = 1
  eq : f.Num * d = n * f.Den
theorem dvd_of_cop {a b c : Int} (h : Int.gcd a b = 1) (hd : b ∣ a * c) : b ∣ c := by
  rw [← Int.natAbs_dvd_natAbs] at hd ⊢
  rw [Int.natAbs_mul] at hd
  have : Nat.Coprime b.natAbs a.natAbs := by rw [Nat.coprime_comm]; exact h
  exact this.dvd_of_dvd_mul_left hd
theorem Red.den_dvd {n d : Int} {f : GFraction} (h : Red n d f) : f.Den ∣ d := dvd_of_cop h.cop ⟨n, by rw [h.eq, Int.mul_comm]⟩
theorem Red.den_le {n d : Int} {f : GFraction} (h : Red n d f) (hd : d ≠ 0) : f.Den ≤ d.natAbs := by
  have := Nat.le_of_dvd (by omega) (Int.natAbs_dvd_natAbs.2 h.den_dvd)
  have := h.pos
  omega
theorem Red.unique {f g : GFraction} (hf : 0 < f.Den) (hg : 0 < g.Den) (cf : Int.gcd f.Num f.Den = 1) (cg : Int.gcd g.Num g.Den = 1) (h : f.Num * g.Den = g.Num * f.Den) : f = g := by
  have h1 : f.Den ∣ g.Den := dvd_of_cop cf ⟨g.Num, by rw [h, Int.mul_comm]⟩
  have h2 : g.Den ∣ f.Den := dvd_of_cop cg ⟨f.Num, by rw [← h, Int.mul_comm]⟩
  have hd : f.Den = g.Den := Int.le_antisymm (Int.le_of_dvd hg h1) (Int.le_of_dvd hf h2)
  have hn : f.Num = g.Num := by
    rw [hd] at h
    exact Int.eq_of_mul_eq_mul_right (by omega) h
  cases f; cases g
  simp_all
theorem pos_of_mul {g q : Int} (hg : 0 < g) (h : 0 < g * q) : 0 < q := by
  refine Classical.byContradiction fun hc => ?_
  have := Int.mul_nonneg (a := g) (b := -q) (by omega) (by omega)
  rw [Int.mul_neg] at this
  omega
theorem div_gcd {a b : Int} (g : Int) (hg : 0 < g) (hgd : g = (Int.gcd a b : Int)) : ∃ p q, a = g * p ∧ b = g * q ∧ Int.gcd p q = 1 := by
  have h1 : g ∣ a := by rw [hgd]; exact Int.gcd_dvd_left ..
  have h2 : g ∣ b := by rw [hgd]; exact Int.gcd_dvd_right ..
  obtain ⟨p, rfl⟩ := h1
  obtain ⟨q, rfl⟩ := h2
  refine ⟨p, q, rfl, rfl, ?_⟩
  rw [Int.gcd_mul_left] at hgd
  have h3 : (g.natAbs : Int) = g := by omega
  have h4 : g.natAbs * 1 = g.natAbs * p.gcd q := by
    have : (g.natAbs * p.gcd q : Nat) = g.natAbs := by omega
    omega
  exact (Nat.eq_of_mul_eq_mul_left (by omega) h4).symm
theorem impl_lowest_eq {n d : Int} (hd : d ≠ 0) (hn1 : n.natAbs ≤ 9223372036854775807) (hd1 : d.natAbs ≤ 9223372036854775807) : ∃ f, impl_lowest n d = some f ∧ Red n d f := by
  have hw1 : w64 (0 - n) = 0 - n := w64_id (by omega) (by omega)
  have hw2 : w64 (0 - d) = 0 - d := w64_id (by omega) (by omega)
  have hs : ∃ n' d', (if d < 0 then some (w64 (0 - n), w64 (0 - d)) else some (n, d)) = some (n', d') ∧ 0 < d' ∧ n'.natAbs ≤ 9223372036854775807 ∧ d'.natAbs ≤ 9223372036854775807 ∧ n' * d = n * d' := by
    split
    · refine ⟨_, _, rfl, by omega, by omega, by omega, ?_⟩
      rw [hw1, hw2]; simp [Int.neg_mul, Int.mul_neg]
    · exact ⟨_, _, rfl, by omega, hn1, hd1, rfl⟩
  obtain ⟨n', d', h1, h2, h3, h4, h5⟩ := hs
  unfold impl_lowest
  rw [h1, Option.bind_some]
  simp only
  rw [impl_gcd_eq h3 h4, Option.bind_some]
  have hg : 0 < (Int.gcd n' d' : Int) := by
    have : Int.gcd n' d' ≠ 0 := by
      intro h; rw [Int.gcd_eq_zero_iff] at h; omega
    omega
  obtain ⟨p, q, hp, hq, hpq⟩ := div_gcd _ hg rfl
  generalize (Int.gcd n' d' : Int) = g at hg hp hq
  subst hp hq
  rw [div_ok (by omega), Option.bind_some, div_ok (by omega), Option.bind_some]
  rw [Int.mul_tdiv_cancel_left _ (by omega), Int.mul_tdiv_cancel_left _ (by omega)]
  have hbp : p.natAbs ≤ (g * p).natAbs := by rw [Int.natAbs_mul]; exact Nat.le_mul_of_pos_left _ (by omega)
  have hbq : q.natAbs ≤ (g * q).natAbs := by rw [Int.natAbs_mul]; exact Nat.le_mul_of_pos_left _ (by omega)
  have e1 : IntKind.wrap .i64 p = p := w64_id (by omega) (by omega)
  have e2 : IntKind.wrap .i64 q = q := w64_id (by omega) (by omega)
  rw [e1, e2]
  refine ⟨_, rfl, pos_of_mul hg h2, hpq, ?_⟩
  · simp only
    have : g * (p * d) = g * (n * q) := by rw [← Int.mul_assoc, h5, ← Int.mul_assoc, ← Int.mul_assoc, Int.mul_comm g n]
    exact Int.eq_of_mul_eq_mul_left (by omega) this
theorem l02Make_eq {n d : Int} (hd : 0 < d) (hn1 : n.natAbs ≤ 9223372036854775807) (hd1 : d ≤ 9223372036854775807) : ∃ f, spec_l02Make n d = some f ∧ Red n d f := by
  unfold spec_l02Make
  have hs : spec_l00Size n = some (n.natAbs : Int) := by
    unfold spec_l00Size; split
    · rw [w64_id (by omega) (by omega)]; congr 1; omega
    · congr 1; omega
  rw [hs, Option.bind_some, spec_l00Gcd_eq (by omega) (by omega) (by omega), Option.bind_some]
  have hg0 : Int.gcd (n.natAbs : Int) d = Int.gcd n d := by simp [Int.gcd]
  rw [hg0]
  have hg : 0 < (Int.gcd n d : Int) := by
    have : Int.gcd n d ≠ 0 := by
      intro h; rw [Int.gcd_eq_zero_iff] at h; omega
    omega
  obtain ⟨p, q, hp, hq, hpq⟩ := div_gcd _ hg rfl
  generalize (Int.gcd n d : Int) = g at hg hp hq
  subst hp hq
  rw [div_ok (by omega), Option.bind_some, div_ok (by omega), Option.bind_some]
  rw [Int.mul_tdiv_cancel_left _ (by omega), Int.mul_tdiv_cancel_left _ (by omega)]
  have hbp : p.natAbs ≤ (g * p).natAbs := by rw [Int.natAbs_mul]; exact Nat.le_mul_of_pos_left _ (by omega)
  have hbq : q.natAbs ≤ (g * q).natAbs := by rw [Int.natAbs_mul]; exact Nat.le_mul_of_pos_left _ (by omega)
  have e1 : IntKind.wrap .i64 p = p := w64_id (by omega) (by omega)
  have e2 : IntKind.wrap .i64 q = q := w64_id (by omega) (by omega)
  rw [e1, e2]
  refine ⟨_, rfl, pos_of_mul hg hd, hpq, ?_⟩
  simp only
  rw [← Int.mul_assoc, Int.mul_comm p g]
end Go.Vs.G

namespace Go.Vs.G
open Go Go.Vs

theorem Red.same {n d : Int} {f g : GFraction} (hf : Red n d f) (hg : Red n d g) (hd : d ≠ 0) : f = g := by
  refine Red.unique hf.pos hg.pos hf.cop hg.cop ?_
  have e1 := hf.eq
  have e2 := hg.eq
  refine Int.eq_of_mul_eq_mul_left (a := d) hd ?_
  calc d * (f.Num * g.Den) = (f.Num * d) * g.Den := by simp only [Int.mul_assoc, Int.mul_comm, Int.mul_left_comm]
    _ = (g.Num * d) * f.Den := by rw [e1, e2]; simp only [Int.mul_assoc, Int.mul_comm, Int.mul_left_comm]
    _ = d * (g.Num * f.Den) := by simp only [Int.mul_assoc, Int.mul_comm, Int.mul_left_comm]
/- counting -/
/- the same on both sides -/
/- draws -/
theorem one_ok {B : Int} {s : GL00Src} (h : SrcOk B s) (hB : B ≤ 4611686018427387000) (n : Int) : ∃ v s', spec_l00Src_one s n = some (v, s') ∧ SrcOk (B + 2) s' := by
  unfold spec_l00Src_one
  obtain ⟨v, s1, e1, _, _, k1⟩ := pick_ok h hB n
  rw [e1]; exact ⟨_, _, rfl, k1⟩
end Go.Vs.G

namespace Go.Vs
open Go

section
variable {α β γ R : Type}

theorem take_succ_map {g : α → β} {l : List α} {j : Nat} (hj : j < l.length) : (l.take j).map g ++ [g l[j]] = (l.take (j + 1)).map g := by
  rw [List.take_add_one, List.getElem?_eq_getElem hj, List.map_append]; rfl
/-- a list of which all fit, asked by a loop -/
theorem allS {f : α → Option Bool} (c : α → Bool) (l : List α) (hf : ∀ x, x ∈ l → f x = some (c x)) (hl : l.length < 9223372036854775807) {r : R}
    {body : Int → Option (Step Int Unit R)} {kb : Unit → Option γ} {kr : R → Option γ}
    (hb : ∀ (i : Int), body i = if i < (l.length : Int) then ((at? l i).bind fun v => (f v).bind fun q => if q = true then some (.next (w64 (i + 1))) else some (.ret r)) else some (.brk ())) :
    onL (loop body loopLim 0) kb kr = if ∀ x, x ∈ l → c x = true then kb () else kr r := by
  have := scan (body := body) (kb := kb) (kr := kr) (s := 0) (n := l.length) (c := fun i => if h : i < l.length then c l[i] else true) (r := r) (by omega) hl (fun i _ hi => by
    rw [hb, if_pos (by omega), at_of hi, Option.bind_some, hf _ (List.getElem_mem hi), Option.bind_some, w64_id (by omega) (by omega)]
    simp only [hi, dif_pos]
    cases c l[i] <;> rfl) (by rw [hb, if_neg (by omega)])
  simp only [Int.natCast_zero] at this
  rw [this]
  have e : (∀ i, 0 ≤ i → i < l.length → (if h : i < l.length then c l[i] else true) = true) ↔ ∀ x, x ∈ l → c x = true := by
    constructor
    · intro h x hx
      obtain ⟨i, hi, rfl⟩ := List.getElem_of_mem hx
      have := h i (by omega) hi
      simpa [hi] using this
    · intro h i _ hi
      simp [hi, h _ (List.getElem_mem hi)]
  split
  · rename_i h; rw [if_pos (e.1 h)]
  · rename_i h; rw [if_neg (fun h2 => h (e.2 h2))]
/-- the library's IndexFunc -/
theorem idxFS {f : α → Option Bool} (c : α → Bool) (l : List α) (hf : ∀ x, x ∈ l → f x = some (c x)) (hl : l.length < 9223372036854775807)
    {body : Int → Option (Step Int Unit Int)}
    (hb : ∀ (i : Int), body i = if i < (l.length : Int) then ((at? l i).bind fun v => (f v).bind fun r => if r = true then some (.ret i) else some (.next (w64 (i + 1)))) else some (.brk ())) :
    wp (onL (loop body loopLim 0) (fun (_ : Unit) => some (-1 : Int)) (fun r => some r)) fun r => (r = -1 ∧ l.any c = false) ∨ (∃ k : Nat, r = (k : Int) ∧ ∃ h : k < l.length, c l[k] = true ∧ (∀ j (h2 : j < k), c (l[j]'(by omega)) = false) ∧ l.any c = true) := by
  refine wp_loop (fun t : Int => ∃ k : Nat, t = (k : Int) ∧ k ≤ l.length ∧ ∀ j (h2 : j < k) (h3 : j < l.length), c l[j] = false) (fun t => (l.length - t).toNat) ⟨0, rfl, by omega, fun j hj => by omega⟩ (by omega) ?_
  rintro i ⟨k, rfl, hk, hall⟩
  rw [hb]
  refine wp_ite (fun h => ?_) (fun h => ?_)
  · have hk2 : k < l.length := by omega
    rw [at_of hk2, Option.bind_some, hf _ (List.getElem_mem hk2), Option.bind_some]
    refine wp_ite (fun h3 => ?_) (fun h3 => ?_)
    · exact wp_some (wp_some (.inr ⟨k, rfl, hk2, h3, fun j hj => hall j hj (by omega), List.any_eq_true.2 ⟨_, List.getElem_mem hk2, h3⟩⟩))
    · rw [w64_succ hk2 (by omega)]
      refine wp_some ⟨⟨k + 1, rfl, by omega, fun j hj hj2 => ?_⟩, by omega⟩
      rcases Nat.lt_or_ge j k with h4 | h4
      · exact hall j h4 hj2
      · obtain rfl : j = k := by omega
        simpa using h3
  · obtain rfl : k = l.length := by omega
    refine wp_some (wp_some (.inl ⟨rfl, ?_⟩))
    refine Bool.eq_false_iff.2 fun hc => ?_
    obtain ⟨x, hx, hx2⟩ := List.any_eq_true.1 hc
    obtain ⟨j, hj, rfl⟩ := List.getElem_of_mem hx
    rw [hall j hj hj] at hx2
    cases hx2
/-- the library's ContainsFunc -/
theorem contS {f : α → Option Bool} (c : α → Bool) (l : List α) (hf : ∀ x, x ∈ l → f x = some (c x)) (hl : l.length < 9223372036854775807)
    {body : Int → Option (Step Int Unit Int)}
    (hb : ∀ (i : Int), body i = if i < (l.length : Int) then ((at? l i).bind fun v => (f v).bind fun r => if r = true then some (.ret i) else some (.next (w64 (i + 1)))) else some (.brk ())) :
    ((onL (loop body loopLim 0) (fun (_ : Unit) => some (-1 : Int)) (fun r => some r)).bind fun r => some (decide (r ≥ 0))) = some (l.any c) := by
  obtain ⟨r, h1, h2⟩ := idxFS c l hf hl hb
  rw [h1, Option.bind_some]
  rcases h2 with ⟨rfl, h⟩ | ⟨k, rfl, _, _, _, h⟩
  · rw [h]; rfl
  · rw [h, decide_eq_true (by omega)]
/-- a loop whose state at each round is told -/
theorem wp_cnt {S B : Type} {Q : γ → Prop} {body : S → Option (Step S B R)} {kb : B → Option γ} {kr : R → Option γ} {s0 : S} (st : Nat → S) (n : Nat) (h0 : s0 = st 0) (hn : n < 18446744073709551616)
    (hs : ∀ k, k < n → body (st k) = some (.next (st (k + 1)))) {b : B} (he : body (st n) = some (.brk b)) (hq : wp (kb b) Q) : wp (onL (loop body loopLim s0) kb kr) Q := by
  rw [h0, loop_brk st n hn hs he]; exact hq
end
end Go.Vs

namespace Go.Vs
theorem wp_seq {α β : Type} {A : Option β} {k : β → Option α} {P : β → Prop} {Q : α → Prop} (h : wp A P) (hk : ∀ x, P x → wp (k x) Q) : wp (A.bind k) Q := by
  obtain ⟨x, rfl, hx⟩ := h; exact hk x hx
end Go.Vs
namespace Go.Vs.G
open Go Go.Vs

section
variable {α : Type} {Q : α → Prop} {B : Int} {s : GL00Src}
theorem wp_pick {n : Int} {k : Int × GL00Src → Option α} (h : SrcOk B s) (hB : B ≤ 4611686018427387000) (hk : ∀ v s', 0 ≤ v → (v = 0 ∨ v < n) → SrcOk (B + 2) s' → wp (k (v, s')) Q) : wp ((spec_l00Src_pick s n).bind k) Q := by
  obtain ⟨v, s', e, h0, h1, h2⟩ := pick_ok h hB n
  rw [e]; exact hk v s' h0 h1 h2
theorem wp_one {n : Int} {k : Bool × GL00Src → Option α} (h : SrcOk B s) (hB : B ≤ 4611686018427387000) (hk : ∀ v s', SrcOk (B + 2) s' → wp (k (v, s')) Q) : wp ((spec_l00Src_one s n).bind k) Q := by
  obtain ⟨v, s', e, h2⟩ := one_ok h hB n
  rw [e]; exact hk v s' h2
theorem wp_among {l : List Int} {k : Int × GL00Src → Option α} (h : SrcOk B s) (hB : B ≤ 4611686018427387000) (hl : 1 ≤ l.length) (hl2 : l.length ≤ 1000) (hk : ∀ v s', v ∈ l → SrcOk (B + 2) s' → wp (k (v, s')) Q) : wp ((spec_l00Src_among s l).bind k) Q := by
  obtain ⟨v, s', e, h1, h2⟩ := among_ok h hB hl hl2
  rw [e]; exact hk v s' h1 h2
theorem wp_from {code : List Int} {k : GL00Src → Option α} (h : okL (okI .u8) code) (hl : code.length ≤ 1000000) (hk : ∀ s, SrcOk 0 s → wp (k s) Q) : wp ((spec_l00From code).bind k) Q := hk _ (srcOk_from h hl)
theorem wp_bif {b : Bool} {A A' : Option α} (h1 : b = true → wp A Q) (h2 : b = false → wp A' Q) : wp (if b = true then A else A') Q := by
  cases b
  · exact h2 rfl
  · exact h1 rfl
end
end Go.Vs.G

namespace Go.Vs
open Go
section
variable {α : Type} [Inhabited α]
def gd (l : List α) (i : Nat) : α := l.getD i default
theorem gd_of {l : List α} {i : Nat} (h : i < l.length) : gd l i = l[i] := by unfold gd; simp [h]
theorem at_gd {l : List α} {i : Nat} (h : i < l.length) : at? l (i : Int) = some (gd l i) := by rw [at_of h, gd_of h]
theorem gd_mem {l : List α} {i : Nat} (h : i < l.length) : gd l i ∈ l := by rw [gd_of h]; exact List.getElem_mem h
end
end Go.Vs
namespace Go.Vs.G
open Go Go.Vs
def vpt (p : GPoint) : Bool := decide (0 ≤ p.X ∧ p.X ≤ 1000) && decide (0 ≤ p.Y ∧ p.Y ≤ 1000)
def vps (j : List GPoint) : Bool := decide (1 ≤ j.length ∧ j.length ≤ 8) && j.all vpt
theorem within_d (n a b : Int) : impl_within n a b = some (decide (a ≤ n ∧ n ≤ b)) := by
  unfold impl_within
  by_cases h : n ≥ a
  · rw [if_pos h]; exact congrArg some (decide_eq_decide.2 (by omega))
  · rw [if_neg h, decide_eq_false (by omega)]
theorem l00In_d (n a b : Int) : spec_l00In n a b = some (decide (a ≤ n ∧ n ≤ b)) := by
  unfold spec_l00In
  by_cases h : n ≥ a
  · rw [if_pos h]; exact congrArg some (decide_eq_decide.2 (by omega))
  · rw [if_neg h, decide_eq_false (by omega)]
/- what lies between -/
section
variable {a b : List GPoint} (ha : vps a = true) (hb : vps b = true) (hl : a.length = b.length) {p n : Int} (hp : 0 ≤ p ∧ p ≤ n) (hn : 1 ≤ n ∧ n ≤ 10000)
include ha hb hl hp hn
end
end Go.Vs.G

namespace Go.Vs
open Go
/-- a sum -/
def sm (f : Nat → Int) : Nat → Int
  | 0 => 0
  | k + 1 => sm f k + f k
theorem sm_bd {f : Nat → Int} {lo hi : Int} : ∀ {k : Nat}, (∀ i, i < k → lo ≤ f i ∧ f i ≤ hi) → lo * k ≤ sm f k ∧ sm f k ≤ hi * k
  | 0, _ => by simp [sm]
  | k + 1, h => by
    have h1 := sm_bd (k := k) fun i hi => h i (by omega)
    have h2 := h k (by omega)
    rw [sm, Int.natCast_succ, Int.mul_add, Int.mul_add]; omega
def ab (x : Int) : Int := if x < 0 then 0 - x else x
end Go.Vs
namespace Go.Vs.G
open Go Go.Vs
def vlp (l : List Int) : Bool := decide (1 ≤ l.length ∧ l.length ≤ 60) && l.all fun x => decide (0 ≤ x ∧ x ≤ 1000)
/- turned -/
end Go.Vs.G

namespace Go.Vs.G
open Go Go.Vs
def vpp (p : GPart) : Bool := decide ((1 ≤ p.Bars ∧ p.Bars ≤ 200) ∧ (1 ≤ p.Beats ∧ p.Beats ≤ 12) ∧ 20 ≤ p.Tempo ∧ p.Tempo ≤ 300)
theorem vpp_ok {p : GPart} (h : vpp p = true) : (1 ≤ p.Bars ∧ p.Bars ≤ 200) ∧ (1 ≤ p.Beats ∧ p.Beats ≤ 12) ∧ 20 ≤ p.Tempo ∧ p.Tempo ≤ 300 := of_decide_eq_true h
theorem validPart_eq (p : GPart) : impl_validPart p = some (vpp p) := by
  unfold impl_validPart vpp
  rw [within_d, within_d, within_d, Option.bind_some, Option.bind_some, Option.bind_some]
  by_cases h1 : 1 ≤ p.Bars ∧ p.Bars ≤ 200
  · rw [if_pos (decide_eq_true h1)]
    by_cases h2 : 1 ≤ p.Beats ∧ p.Beats ≤ 12
    · rw [if_pos (decide_eq_true h2)]; exact congrArg some (decide_eq_decide.2 (by omega))
    · rw [if_neg (by simpa using h2), decide_eq_false (by omega)]
  · rw [if_neg (by simpa using h1), decide_eq_false (by omega)]
theorem l19One_eq (p : GPart) : spec_l19One p = some (vpp p) := by
  unfold spec_l19One vpp
  rw [l00In_d, l00In_d, l00In_d, Option.bind_some, Option.bind_some, Option.bind_some]
  by_cases h1 : 1 ≤ p.Bars ∧ p.Bars ≤ 200
  · rw [if_pos (decide_eq_true h1)]
    by_cases h2 : 1 ≤ p.Beats ∧ p.Beats ≤ 12
    · rw [if_pos (decide_eq_true h2)]; exact congrArg some (decide_eq_decide.2 (by omega))
    · rw [if_neg (by simpa using h2), decide_eq_false (by omega)]
  · rw [if_neg (by simpa using h1), decide_eq_false (by omega)]
def vpc (l : List GPart) : Bool := decide (1 ≤ l.length ∧ l.length ≤ 12) && l.all vpp
theorem ValidPiece_eq {l : List GPart} (hl : l.length ≤ 1000000) : impl_ValidPiece l = some (vpc l) := by
  unfold impl_ValidPiece vpc
  have hcf : slices_ContainsFunc_impl_Part_impl_Part_803 l (fun a0 => impl_ValidPiece_1 a0) = some (l.any fun p => !vpp p) := by
    unfold slices_ContainsFunc_impl_Part_impl_Part_803 slices_IndexFunc_impl_Part_impl_Part_825
    refine contS (fun p => !vpp p) l (fun p hp => ?_) (by omega) (fun _ => rfl)
    unfold impl_ValidPiece_1
    rw [validPart_eq, Option.bind_some]
  rw [hcf, Option.bind_some]
  have e : (!l.any fun p => !vpp p) = l.all vpp := by rw [List.not_any_eq_all_not]; simp
  rw [e]
  by_cases h1 : 1 ≤ l.length
  · by_cases h2 : l.length ≤ 12
    · rw [if_pos (by omega), if_pos (by omega), decide_eq_true ⟨h1, h2⟩, Bool.true_and]
    · rw [if_pos (by omega), if_neg (by omega), decide_eq_false (by omega), Bool.false_and]
  · rw [if_neg (by omega), decide_eq_false (by omega), Bool.false_and]
theorem l19Ok_eq {l : List GPart} (hl : l.length ≤ 1000000) : spec_l19Ok l = some (vpc l) := by
  unfold spec_l19Ok
  rw [allS vpp l (f := fun x => some (vpp x)) (fun _ _ => rfl) (by omega) (r := false)]
  · rw [l00In_d, Option.bind_some]
    unfold vpc
    by_cases h : ∀ x, x ∈ l → vpp x = true
    · rw [if_pos h, List.all_eq_true.2 h, Bool.and_true]; exact congrArg some (decide_eq_decide.2 (by omega))
    · rw [if_neg h]
      have : (l.all vpp) = false := by rw [Bool.eq_false_iff]; exact fun hc => h (List.all_eq_true.1 hc)
      rw [this, Bool.and_false]
  · intro i
    by_cases hi : i < (l.length : Int)
    · rw [if_pos hi, if_pos hi]
      cases ha : at? l i with
      | none => rfl
      | some v => simp only [Option.bind_some, l19One_eq]
    · rw [if_neg hi, if_neg hi]
theorem vpc_len {l : List GPart} (h : vpc l = true) : 1 ≤ l.length ∧ l.length ≤ 12 := by
  unfold vpc at h
  simp only [Bool.and_eq_true, decide_eq_true_eq, List.all_eq_true] at h
  exact h.1
theorem vpc_gd {l : List GPart} (h : vpc l = true) {i : Nat} (hi : i < l.length) : vpp (gd l i) = true := by
  unfold vpc at h
  simp only [Bool.and_eq_true, decide_eq_true_eq, List.all_eq_true] at h
  exact h.2 _ (gd_mem hi)
/- beats -/
def bts (p : GPart) : Nat := (p.Bars * p.Beats).toNat
theorem bts_ok {p : GPart} (h : vpp p = true) : (bts p : Int) = p.Bars * p.Beats ∧ 1 ≤ bts p ∧ bts p ≤ 2400 := by
  obtain ⟨h1, h2, h3⟩ := vpp_ok h
  have b1 : 0 < p.Bars * p.Beats := Int.mul_pos (by omega) (by omega)
  have b2 : p.Bars * p.Beats ≤ 200 * 12 := Int.mul_le_mul h1.2 h2.2 (by omega) (by omega)
  unfold bts
  omega
def nb (l : List GPart) : Nat → Nat
  | 0 => 0
  | i + 1 => nb l i + bts (gd l i)
theorem nb_cons (p : GPart) (l : List GPart) : ∀ i, nb (p :: l) (i + 1) = bts p + nb l i
  | 0 => by simp [nb, gd]
  | i + 1 => by rw [nb, nb_cons p l i, nb]; simp only [gd, List.getD_cons_succ]; omega
theorem nb_mono {l : List GPart} {i j : Nat} (h : i ≤ j) : nb l i ≤ nb l j := by
  induction j with
  | zero => rw [show i = 0 by omega]; exact Nat.le_refl _
  | succ j ih =>
    rcases Nat.lt_or_ge i (j + 1) with h1 | h1
    · have := ih (by omega); rw [nb]; omega
    · rw [show i = j + 1 by omega]; exact Nat.le_refl _
theorem nb_bd {l : List GPart} (h : vpc l = true) : ∀ i, i ≤ l.length → i ≤ nb l i ∧ nb l i ≤ 2400 * i
  | 0, _ => by simp [nb]
  | i + 1, hi => by
    have h1 := nb_bd h i (by omega)
    have h2 := bts_ok (vpc_gd h (show i < l.length by omega))
    rw [nb]; omega
/-- all beats -/
abbrev NB (l : List GPart) : Nat := nb l l.length
theorem NB_bd {l : List GPart} (h : vpc l = true) : 1 ≤ NB l ∧ NB l ≤ 28800 := by
  have h1 := nb_bd h l.length (Nat.le_refl _)
  have h2 := vpc_len h
  unfold NB; omega
section
variable {l : List GPart} (h : vpc l = true)
include h
theorem beatsOf_eq : impl_beatsOf l = some (NB l : Int) := by
  obtain ⟨l1, l2⟩ := vpc_len h
  unfold impl_beatsOf
  refine eq_of_wp ?_
  refine wp_cnt (fun k => ((nb l k : Int), (k : Int))) l.length rfl (by omega) (fun k hk => ?_) (b := (NB l : Int)) ?_ (wp_some rfl)
  · have h1 := nb_bd h k (by omega)
    obtain ⟨h2, h3, h4⟩ := bts_ok (vpc_gd h hk)
    simp only
    rw [if_pos (by omega), at_gd hk, Option.bind_some, ← h2, w64_id (n := (bts (gd l k) : Int)) (by omega) (by omega), w64_id (by omega) (by omega), w64_id (by omega) (by omega), nb, Int.natCast_add]; rfl
  · simp only; rw [if_neg (by omega)]
theorem l19Beats_eq : spec_l19Beats l = some (NB l : Int) := by
  obtain ⟨l1, l2⟩ := vpc_len h
  unfold spec_l19Beats
  refine eq_of_wp ?_
  refine wp_cnt (fun k => ((nb l k : Int), (k : Int))) l.length rfl (by omega) (fun k hk => ?_) (b := (NB l : Int)) ?_ (wp_some rfl)
  · have h1 := nb_bd h k (by omega)
    obtain ⟨h2, h3, h4⟩ := bts_ok (vpc_gd h hk)
    simp only
    rw [if_pos (by omega), at_gd hk, Option.bind_some, Option.bind_some, ← h2, w64_id (n := (bts (gd l k) : Int)) (by omega) (by omega), w64_id (by omega) (by omega), w64_id (by omega) (by omega), nb, Int.natCast_add]; rfl
  · simp only; rw [if_neg (by omega)]
end
/- the common part of a second -/
theorem lcm_ok {a b : Int} (ha : 1 ≤ a ∧ a ≤ 100000000) (hb : 1 ≤ b ∧ b ≤ 1000) : ∃ m, impl_commonLength a b = some m ∧ ((spec_l00Gcd a b).bind fun r1 => (div? .i64 a r1).bind fun q1 => some (w64 (q1 * b))) = some m ∧ a ∣ m ∧ b ∣ m ∧ 1 ≤ m := by
  have hg : 0 < (Int.gcd a b : Int) := by
    have := Int.gcd_pos_of_ne_zero_left b (show a ≠ 0 by omega)
    omega
  obtain ⟨p, q, h1, h2, _⟩ := div_gcd (a := a) (b := b) _ hg rfl
  have hp := pos_of_mul hg (show 0 < (Int.gcd a b : Int) * p by omega)
  have hq := pos_of_mul hg (show 0 < (Int.gcd a b : Int) * q by omega)
  have hd : a.tdiv (Int.gcd a b : Int) = p := by
    rw [Int.tdiv_eq_ediv_of_nonneg (by omega)]
    exact Int.ediv_eq_of_eq_mul_right (by omega) h1
  have hpa : p ≤ a := by
    have := Int.mul_le_mul_of_nonneg_right (show (1 : Int) ≤ (Int.gcd a b : Int) by omega) (show 0 ≤ p by omega)
    omega
  have hm1 : 0 < p * b := Int.mul_pos hp (by omega)
  have hm3 : p * b ≤ 100000000 * 1000 := Int.mul_le_mul (by omega) hb.2 (by omega) (by omega)
  refine ⟨p * b, ?_, ?_, ⟨q, ?_⟩, ⟨p, Int.mul_comm _ _⟩, by omega⟩
  · unfold impl_commonLength
    rw [impl_gcd_eq (by omega) (by omega), Option.bind_some, div_ok (by omega), Option.bind_some, hd]
    show some (w64 (w64 p * b)) = _
    rw [w64_id (n := p) (by omega) (by omega), w64_id (by omega) (by omega)]
  · rw [spec_l00Gcd_eq (by omega) (by omega) (by omega), Option.bind_some, div_ok (by omega), Option.bind_some, hd]
    show some (w64 (w64 p * b)) = _
    rw [w64_id (n := p) (by omega) (by omega), w64_id (by omega) (by omega)]
  · calc p * b = p * ((Int.gcd a b : Int) * q) := by rw [← h2]
      _ = ((Int.gcd a b : Int) * p) * q := by simp only [Int.mul_assoc, Int.mul_comm, Int.mul_left_comm]
      _ = a * q := by rw [← h1]
def lc (a b : Int) : Int := (impl_commonLength a b).getD 0
theorem lc_ok {a b : Int} (ha : 1 ≤ a ∧ a ≤ 100000000) (hb : 1 ≤ b ∧ b ≤ 1000) : impl_commonLength a b = some (lc a b) ∧ ((spec_l00Gcd a b).bind fun r1 => (div? .i64 a r1).bind fun q1 => some (w64 (q1 * b))) = some (lc a b) ∧ a ∣ lc a b ∧ b ∣ lc a b ∧ 1 ≤ lc a b := by
  obtain ⟨m, h1, h2, h3⟩ := lcm_ok ha hb
  have : lc a b = m := by unfold lc; rw [h1]; rfl
  rw [this]; exact ⟨h1, h2, h3⟩
def uf (l : List GPart) : Nat → Option Int
  | 0 => some 1
  | k + 1 => match uf l k with
    | none => none
    | some u => if lc u (gd l k).Tempo > 100000000 then none else some (lc u (gd l k).Tempo)
theorem uf_none {l : List GPart} : ∀ {k j : Nat}, k ≤ j → uf l k = none → uf l j = none := by
  intro k j hkj h
  induction j with
  | zero => rw [show k = 0 by omega] at h; exact h
  | succ j ih =>
    rcases Nat.lt_or_ge k (j + 1) with h1 | h1
    · rw [uf, ih (by omega)]
    · rw [show j + 1 = k by omega]; exact h
theorem uf_ok {l : List GPart} (h : vpc l = true) : ∀ {k : Nat} {u : Int}, k ≤ l.length → uf l k = some u → (1 ≤ u ∧ u ≤ 100000000) ∧ ∀ i, i < k → (gd l i).Tempo ∣ u
  | 0, u, _, hu => by simp only [uf, Option.some.injEq] at hu; subst hu; exact ⟨by omega, fun i hi => by omega⟩
  | k + 1, u, hk, hu => by
    rw [uf] at hu
    split at hu
    · cases hu
    · rename_i v hv
      obtain ⟨h1, h2⟩ := uf_ok h (by omega) hv
      obtain ⟨_, _, h3⟩ := vpp_ok (vpc_gd h (show k < l.length by omega))
      obtain ⟨_, _, g3, g4, g5⟩ := lc_ok h1 (b := (gd l k).Tempo) (by omega)
      split at hu
      · cases hu
      · rename_i hc
        cases hu
        refine ⟨by omega, fun i hi => ?_⟩
        rcases Nat.lt_or_ge i k with hik | hik
        · exact Int.dvd_trans (h2 i hik) g3
        · rw [show i = k by omega]; exact g4
def us (l : List GPart) : Int := (uf l l.length).getD 0
theorem us_ok {l : List GPart} (h : vpc l = true) (h0 : us l ≠ 0) : (1 ≤ us l ∧ us l ≤ 100000000) ∧ ∀ i, i < l.length → (gd l i).Tempo ∣ us l := by
  unfold us at h0 ⊢
  cases hu : uf l l.length with
  | none => rw [hu] at h0; exact absurd rfl h0
  | some u => exact uf_ok h (Nat.le_refl _) hu
section
variable {l : List GPart} (h : vpc l = true)
include h
theorem unitsOf_eq : impl_unitsOf l = some (us l) := by
  obtain ⟨l1, l2⟩ := vpc_len h
  unfold impl_unitsOf
  refine eq_of_wp ?_
  refine wp_loop (fun s : Int × Int => ∃ k : Nat, s.2 = (k : Int) ∧ k ≤ l.length ∧ uf l k = some s.1) (fun s => (l.length - s.2).toNat) ⟨0, rfl, by omega, rfl⟩ (by simp only; omega) ?_
  rintro ⟨u, x⟩ ⟨k, rfl, hk, hu⟩
  simp only at hu ⊢
  refine wp_ite (fun hx => ?_) (fun hx => ?_)
  · have hk2 : k < l.length := by omega
    obtain ⟨g1, _⟩ := uf_ok h hk hu
    obtain ⟨_, _, g3⟩ := vpp_ok (vpc_gd h hk2)
    obtain ⟨e1, _, _, _, e5⟩ := lc_ok g1 (b := (gd l k).Tempo) (by omega)
    rw [at_gd hk2, Option.bind_some, e1, Option.bind_some, w64_id (by omega) (by omega)]
    have hn : uf l (k + 1) = if lc u (gd l k).Tempo > 100000000 then none else some (lc u (gd l k).Tempo) := by rw [uf, hu]
    refine wp_ite (fun hc => ?_) (fun hc => ?_)
    · rw [if_pos hc] at hn
      refine wp_some (wp_some ?_)
      unfold us; rw [uf_none hk2 hn]; rfl
    · rw [if_neg hc] at hn
      exact wp_some ⟨⟨k + 1, by simp only; omega, hk2, hn⟩, by simp only; omega⟩
  · refine wp_some (wp_some ?_)
    obtain rfl : k = l.length := by omega
    unfold us; rw [hu]; rfl
theorem l19Parts_eq : spec_l19Parts l = some (us l) := by
  obtain ⟨l1, l2⟩ := vpc_len h
  unfold spec_l19Parts
  refine eq_of_wp ?_
  refine wp_loop (fun s : Int × Int => ∃ k : Nat, s.2 = (k : Int) ∧ k ≤ l.length ∧ uf l k = some s.1) (fun s => (l.length - s.2).toNat) ⟨0, rfl, by omega, rfl⟩ (by simp only; omega) ?_
  rintro ⟨u, x⟩ ⟨k, rfl, hk, hu⟩
  simp only at hu ⊢
  refine wp_ite (fun hx => ?_) (fun hx => ?_)
  · have hk2 : k < l.length := by omega
    obtain ⟨g1, _⟩ := uf_ok h hk hu
    obtain ⟨_, _, g3⟩ := vpp_ok (vpc_gd h hk2)
    obtain ⟨_, e1, _, _, e5⟩ := lc_ok g1 (b := (gd l k).Tempo) (by omega)
    simp only [Option.bind_eq_some_iff, Option.some.injEq] at e1
    obtain ⟨r1, e2, q1, e3, e4⟩ := e1
    rw [at_gd hk2, Option.bind_some, e2, Option.bind_some, e3, Option.bind_some, Option.bind_some, e4, w64_id (n := (k : Int) + 1) (by omega) (by omega)]
    have hn : uf l (k + 1) = if lc u (gd l k).Tempo > 100000000 then none else some (lc u (gd l k).Tempo) := by rw [uf, hu]
    refine wp_ite (fun hc => ?_) (fun hc => ?_)
    · rw [if_pos hc] at hn
      refine wp_some (wp_some ?_)
      unfold us; rw [uf_none hk2 hn]; rfl
    · rw [if_neg hc] at hn
      exact wp_some ⟨⟨k + 1, by simp only; omega, hk2, hn⟩, by simp only; omega⟩
  · refine wp_some (wp_some ?_)
    obtain rfl : k = l.length := by omega
    unfold us; rw [hu]; rfl
end
/- the time of a beat -/
def stp1 (u : Int) (p : GPart) : Int := (60 * u).tdiv p.Tempo
def sa (u : Int) : List GPart → Nat → Int
  | [], _ => 0
  | p :: l, k => if k < bts p then stp1 u p else sa u l (k - bts p)
theorem sa_at (u : Int) : ∀ (l : List GPart) (i j : Nat), i < l.length → j < bts (gd l i) → sa u l (nb l i + j) = stp1 u (gd l i)
  | [], i, j, h, _ => by simp at h
  | p :: l, 0, j, _, hj => by
    have hg : gd (p :: l) 0 = p := rfl
    rw [hg] at hj ⊢
    rw [nb, Nat.zero_add, sa, if_pos hj]
  | p :: l, i + 1, j, hi, hj => by
    have hg : gd (p :: l) (i + 1) = gd l i := by simp [gd]
    rw [hg] at hj ⊢
    rw [nb_cons, sa, if_neg (by omega), show bts p + nb l i + j - bts p = nb l i + j by omega]
    exact sa_at u l i j (by simpa using hi) hj
def Tbt (u : Int) (l : List GPart) (k : Nat) : Int := sm (sa u l) k
theorem T_add (u : Int) {l : List GPart} {i : Nat} (hi : i < l.length) : ∀ r : Nat, r ≤ bts (gd l i) → Tbt u l (nb l i + r) = Tbt u l (nb l i) + r * stp1 u (gd l i)
  | 0, _ => by simp
  | r + 1, hr => by
    have := T_add u hi r (by omega)
    unfold Tbt at this ⊢
    rw [← Nat.add_assoc, sm, this, sa_at u l i r hi (by omega), Int.natCast_succ, Int.add_mul, Int.one_mul]; omega
theorem part_of {l : List GPart} {k : Nat} (hk : k < NB l) : ∃ i j, i < l.length ∧ j < bts (gd l i) ∧ k = nb l i + j := by
  have : ∀ n, k < nb l n → ∃ i j, i < n ∧ j < bts (gd l i) ∧ k = nb l i + j := by
    intro n
    induction n with
    | zero => intro h; simp [nb] at h
    | succ n ih =>
      intro h
      rcases Nat.lt_or_ge k (nb l n) with h1 | h1
      · obtain ⟨i, j, a, b, c⟩ := ih h1; exact ⟨i, j, by omega, b, c⟩
      · rw [nb] at h
        exact ⟨n, k - nb l n, by omega, by omega, by omega⟩
  exact this l.length hk
section
variable {l : List GPart} (h : vpc l = true) {u : Int} (hu : 1 ≤ u ∧ u ≤ 100000000)
include h hu
theorem stp1_bd {i : Nat} (hi : i < l.length) (hd : (gd l i).Tempo ∣ u) : 1 ≤ stp1 u (gd l i) ∧ stp1 u (gd l i) ≤ 300000000 := by
  obtain ⟨_, _, h3⟩ := vpp_ok (vpc_gd h hi)
  unfold stp1
  rw [Int.tdiv_eq_ediv_of_nonneg (by omega)]
  constructor
  · have : (gd l i).Tempo ≤ u := Int.le_of_dvd (by omega) hd
    exact (Int.le_ediv_iff_mul_le (by omega)).2 (by omega)
  · refine Int.le_of_lt_add_one ((Int.ediv_lt_iff_lt_mul (by omega)).2 ?_)
    have := Int.mul_le_mul_of_nonneg_left (show (20 : Int) ≤ (gd l i).Tempo by omega) (show (0 : Int) ≤ 300000001 by omega)
    omega
variable (hd : ∀ i, i < l.length → (gd l i).Tempo ∣ u)
include hd
theorem sa_bd {k : Nat} (hk : k < NB l) : 1 ≤ sa u l k ∧ sa u l k ≤ 300000000 := by
  obtain ⟨i, j, hi, hj, rfl⟩ := part_of hk
  rw [sa_at u l i j hi hj]
  exact stp1_bd h hu hi (hd i hi)
theorem T_bd {k : Nat} (hk : k ≤ NB l) : 0 ≤ Tbt u l k ∧ Tbt u l k ≤ 300000000 * k := by
  have := sm_bd (f := sa u l) (lo := 1) (hi := 300000000) (k := k) fun i hi => sa_bd h hu hd (by omega)
  unfold Tbt; omega
theorem T_lt {j k : Nat} (hjk : j < k) (hk : k ≤ NB l) : Tbt u l j < Tbt u l k := by
  induction k with
  | zero => omega
  | succ k ih =>
    have h1 := sa_bd h hu hd (show k < NB l by omega)
    have e : Tbt u l (k + 1) = Tbt u l k + sa u l k := rfl
    rcases Nat.lt_or_ge j k with h2 | h2
    · have := ih h2 (by omega); omega
    · rw [show j = k by omega]; omega
theorem beginsOf_eq : impl_beginsOf l u = some (tab (Tbt u l) (NB l + 1)) := by
  obtain ⟨l1, l2⟩ := vpc_len h
  have hN := NB_bd h
  have hN2 : nb l l.length ≤ 28800 := hN.2
  unfold impl_beginsOf
  refine eq_of_wp ?_
  refine wp_cnt (fun i => (tab (Tbt u l) (nb l i), Tbt u l (nb l i), (i : Int))) l.length rfl (by omega) (fun i hi => ?_) (b := (tab (Tbt u l) (NB l), Tbt u l (NB l))) ?_ ?_
  · obtain ⟨h2, h3, h4⟩ := bts_ok (vpc_gd h hi)
    obtain ⟨_, _, ht⟩ := vpp_ok (vpc_gd h hi)
    have hnb := nb_mono (l := l) (show i + 1 ≤ l.length by omega)
    rw [nb] at hnb
    simp only
    rw [if_pos (by omega), at_gd hi, Option.bind_some, ← h2, w64_id (n := (bts (gd l i) : Int)) (by omega) (by omega)]
    refine eq_of_wp ?_
    refine wp_cnt (fun j => (tab (Tbt u l) (nb l i + j), Tbt u l (nb l i + j), (j : Int))) (bts (gd l i)) rfl (by omega) (fun j hj => ?_) (b := (tab (Tbt u l) (nb l (i + 1)), Tbt u l (nb l (i + 1)))) ?_ ?_
    · have hb := T_bd h hu hd (show nb l i + (j + 1) ≤ NB l by unfold NB; omega)
      have hs := stp1_bd h hu hi (hd i hi)
      have e : Tbt u l (nb l i + (j + 1)) = Tbt u l (nb l i + j) + stp1 u (gd l i) := by
        rw [← Nat.add_assoc]
        show Tbt u l (nb l i + j) + sa u l (nb l i + j) = _
        rw [sa_at u l i j hi hj]
      have hb0 := T_bd h hu hd (show nb l i + j ≤ NB l by unfold NB; omega)
      simp only
      rw [if_pos (by omega), app_ok (by simp; omega), Option.bind_some, w64_id (n := 60 * u) (by omega) (by omega), div_ok (by omega), Option.bind_some]
      have e2 : IntKind.i64.wrap ((60 * u).tdiv (gd l i).Tempo) = stp1 u (gd l i) := by
        show w64 (stp1 u (gd l i)) = _
        exact w64_id (by omega) (by omega)
      rw [e2, ← e, w64_id (n := Tbt u l (nb l i + (j + 1))) (by omega) (by omega), w64_id (by omega) (by omega), ← tab_succ]; rfl
    · simp only; rw [if_neg (by omega)]; rfl
    · simp only
      rw [w64_id (by omega) (by omega)]
      exact wp_some rfl
  · simp only; rw [if_neg (by omega)]
  · simp only
    rw [app_ok (by simp; omega), Option.bind_some, ← tab_succ]
    exact wp_some rfl
theorem l19Units_eq {k : Nat} (hk : k ≤ NB l) : spec_l19Units l (k : Int) u = some (Tbt u l k) := by
  obtain ⟨l1, l2⟩ := vpc_len h
  have hN := NB_bd h
  have hN2 : nb l l.length ≤ 28800 := hN.2
  unfold spec_l19Units
  refine eq_of_wp ?_
  refine wp_loop (fun s : Int × Int × Int => ∃ i : Nat, s.2.2 = (i : Int) ∧ i ≤ l.length ∧ s.1 = ((k - nb l i : Nat) : Int) ∧ s.2.1 = Tbt u l (min k (nb l i))) (fun s => (l.length - s.2.2).toNat) ⟨0, rfl, by omega, by simp [nb], by simp [nb, Tbt, sm]⟩ (by simp only; omega) ?_
  rintro ⟨b, sum, x⟩ ⟨i, rfl, hi, rfl, rfl⟩
  simp only
  have hmin : ∀ a b : Int, spec_l00Min a b = some (min a b) := fun a b => by
    unfold spec_l00Min; split
    · exact congrArg some (by omega)
    · exact congrArg some (by omega)
  by_cases hx : (i : Int) < l.length
  · rw [if_pos hx, Option.bind_some]
    have hi2 : i < l.length := by omega
    by_cases hb : ((k - nb l i : Nat) : Int) > 0
    · obtain ⟨h2, h3, h4⟩ := bts_ok (vpc_gd h hi2)
      obtain ⟨_, _, ht⟩ := vpp_ok (vpc_gd h hi2)
      have hs := stp1_bd h hu hi2 (hd i hi2)
      rw [if_pos (decide_eq_true hb), at_gd hi2, Option.bind_some, Option.bind_some, ← h2, w64_id (n := (bts (gd l i) : Int)) (by omega) (by omega), hmin, Option.bind_some, Option.bind_some, w64_id (n := 60 * u) (by omega) (by omega), div_ok (by omega), Option.bind_some]
      have e2 : IntKind.i64.wrap ((60 * u).tdiv (gd l i).Tempo) = stp1 u (gd l i) := by
        show w64 (stp1 u (gd l i)) = _
        exact w64_id (by omega) (by omega)
      have hr : min ((k - nb l i : Nat) : Int) (bts (gd l i) : Int) = ((min (k - nb l i) (bts (gd l i)) : Nat) : Int) := by omega
      have hta := T_add u hi2 (min (k - nb l i) (bts (gd l i))) (by omega)
      have hb1 := T_bd h hu hd (k := nb l i + min (k - nb l i) (bts (gd l i))) (by omega)
      have hb0 := T_bd h hu hd (k := nb l i) (by omega)
      have hp : 0 ≤ ((min (k - nb l i) (bts (gd l i)) : Nat) : Int) * stp1 u (gd l i) := Int.mul_nonneg (by omega) (by omega)
      rw [e2, hr, show min k (nb l i) = nb l i by omega, w64_id (n := ((k - nb l i : Nat) : Int) - ((min (k - nb l i) (bts (gd l i)) : Nat) : Int)) (by omega) (by omega), w64_id (n := ((min (k - nb l i) (bts (gd l i)) : Nat) : Int) * stp1 u (gd l i)) (by omega) (by omega), ← hta,
        w64_id (n := Tbt u l (nb l i + min (k - nb l i) (bts (gd l i)))) (by omega) (by omega), w64_id (n := (i : Int) + 1) (by omega) (by omega)]
      refine wp_some ⟨⟨i + 1, by simp only; omega, hi2, ?_, ?_⟩, by simp only; omega⟩
      · simp only; rw [nb]; omega
      · simp only; rw [nb]; congr 1; omega
    · rw [if_neg (by simpa using hb)]
      refine wp_some (wp_some ?_)
      rw [show min k (nb l i) = k by omega]
  · rw [if_neg hx, Option.bind_some, if_neg (by decide)]
    refine wp_some (wp_some ?_)
    obtain rfl : i = l.length := by omega
    rw [show min k (nb l l.length) = k by unfold NB at hk; omega]
end
end Go.Vs.G

namespace Go.Vs
open Go
/-- a loop that lays g of each element -/
theorem mapK {α β R γ : Type} (g : α → β) (l : List α) (hl : l.length ≤ 1000000) {body : List β × Int → Option (Step (List β × Int) (List β) R)} {kb : List β → Option γ} {kr : R → Option γ}
    (hb : ∀ (k : Nat) (h : k < l.length) (out : List β), out.length ≤ 1000000 → body (out, (k : Int)) = some (.next (out ++ [g l[k]], (k : Int) + 1))) (he : ∀ out, body (out, (l.length : Int)) = some (.brk out)) :
    onL (loop body loopLim ([], 0)) kb kr = kb (l.map g) := by
  have := loop_brk (body := body) (fun j : Nat => ((l.take j).map g, (j : Int))) (b := l.map g) l.length (by omega) (fun j hj => by
    rw [hb j hj _ (by simp; omega), take_succ_map hj]; rfl) (by rw [he]; simp)
  simp only [List.take_zero, List.map_nil, Int.natCast_zero] at this
  rw [this]; rfl
end Go.Vs
namespace Go.Vs.G
open Go Go.Vs
def tms (l : List GPart) (b : Bool) : Int × List Int × Int :=
  if vpc l = true then (if b = true then (if us l = 0 then (0, [], 5) else (us l, tab (Tbt (us l) l) (NB l + 1), 0)) else (0, [], 2)) else (0, [], 1)
theorem timesOf_eq {l : List GPart} (hl : l.length ≤ 1000000) (b : Bool) : impl_timesOf l (some b) = some (tms l b) := by
  unfold impl_timesOf tms
  rw [ValidPiece_eq hl, Option.bind_some]
  cases hv : vpc l with
  | false => rfl
  | true =>
    simp only [if_true, Option.bind_some]
    cases b with
    | false => rfl
    | true =>
      simp only [if_true]
      rw [unitsOf_eq hv, Option.bind_some]
      by_cases h0 : us l = 0
      · rw [if_pos h0, if_pos h0]
      · obtain ⟨h1, h2⟩ := us_ok hv h0
        rw [if_neg h0, if_neg h0, beginsOf_eq hv h1 h2]; rfl
theorem at_T {l : List GPart} {u : Int} {k : Nat} (hk : k ≤ NB l) : at? (tab (Tbt u l) (NB l + 1)) (k : Int) = some (Tbt u l k) := by
  rw [tab_at (by omega) (by omega)]; rfl
/-- k is the beat of time x -/
def Pk (l : List GPart) (u x : Int) (k : Nat) : Prop := k < NB l ∧ Tbt u l k ≤ x ∧ x < Tbt u l (k + 1)
section
variable {l : List GPart} (h : vpc l = true) {u : Int} (hu : 1 ≤ u ∧ u ≤ 100000000) (hd : ∀ i, i < l.length → (gd l i).Tempo ∣ u)
include h hu hd
theorem T_le {j k : Nat} (hjk : j ≤ k) (hk : k ≤ NB l) : Tbt u l j ≤ Tbt u l k := by
  rcases Nat.lt_or_ge j k with h1 | h1
  · have := T_lt h hu hd h1 hk; omega
  · rw [show j = k by omega]; omega
theorem Pk_unique {x : Int} {a b : Nat} (ha : Pk l u x a) (hb : Pk l u x b) : a = b := by
  obtain ⟨a1, a2, a3⟩ := ha
  obtain ⟨b1, b2, b3⟩ := hb
  rcases Nat.lt_trichotomy a b with h1 | h1 | h1
  · have := T_le h hu hd (show a + 1 ≤ b by omega) (by omega); omega
  · exact h1
  · have := T_le h hu hd (show b + 1 ≤ a by omega) (by omega); omega
theorem T_big {k : Nat} (hk : k ≤ NB l) : 0 ≤ Tbt u l k ∧ Tbt u l k ≤ 8640000000000 := by
  have h1 := T_bd h hu hd hk
  have h2 := NB_bd h
  have h3 : ((NB l : Nat) : Int) ≤ 28800 := by omega
  omega
end
theorem BeatAt_same {l : List GPart} {sec : Int} (hl : l.length ≤ 1000000) : ∃ r : Int × Int, impl_BeatAt l sec = some r ∧ spec_BeatAt l sec = some r ∧
    (r.2 = 0 → vpc l = true ∧ us l ≠ 0 ∧ (0 ≤ sec ∧ sec ≤ 100000) ∧ ∃ k : Nat, r.1 = (k : Int) ∧ Pk l (us l) (sec * us l) k) ∧
    (r.2 = 3 → vpc l = true ∧ us l ≠ 0 ∧ (0 ≤ sec ∧ sec ≤ 100000) ∧ Tbt (us l) l (NB l) ≤ sec * us l) := by
  unfold impl_BeatAt spec_BeatAt impl_BeatAt_1
  rw [within_d, Option.bind_some, timesOf_eq hl, Option.bind_some, l19Ok_eq hl, Option.bind_some, l00In_d, Option.bind_some]
  unfold tms
  cases hv : vpc l with
  | false => exact ⟨(0, 1), rfl, rfl, fun hc => absurd hc (by decide), fun hc => absurd hc (by decide)⟩
  | true =>
    simp only [if_true]
    by_cases hs : 0 ≤ sec ∧ sec ≤ 100000
    · rw [decide_eq_true hs, if_pos rfl]
      simp only [if_true]
      rw [l19Parts_eq hv, Option.bind_some]
      by_cases h0 : us l = 0
      · rw [if_pos h0, if_pos h0]
        exact ⟨(0, 5), rfl, rfl, fun hc => absurd hc (by decide), fun hc => absurd hc (by decide)⟩
      · obtain ⟨hu, hd⟩ := us_ok hv h0
        have hN := NB_bd hv
        have hb := T_big hv hu hd (Nat.le_refl (NB l))
        have hx0 : 0 ≤ sec * us l := Int.mul_nonneg hs.1 (by omega)
        have hx1 : sec * us l ≤ 100000 * 100000000 := Int.mul_le_mul hs.2 hu.2 (by omega) (by omega)
        rw [if_neg h0, if_neg h0]
        simp only [if_true, tab_length]
        rw [w64_id (n := ((NB l + 1 : Nat) : Int) - 1) (by omega) (by omega), show ((NB l + 1 : Nat) : Int) - 1 = ((NB l : Nat) : Int) by omega, at_T (Nat.le_refl _), Option.bind_some, w64_id (n := sec * us l) (by omega) (by omega),
          l19Beats_eq hv, Option.bind_some, l19Units_eq hv hu hd (Nat.le_refl _), Option.bind_some]
        by_cases hbig : Tbt (us l) l (NB l) ≤ sec * us l
        · rw [if_pos hbig, if_pos hbig]
          exact ⟨(0, 3), rfl, rfl, fun hc => absurd hc (by decide), fun _ => ⟨by trivial, h0, hs, hbig⟩⟩
        · rw [if_neg (show ¬ (sec * us l ≥ Tbt (us l) l (NB l)) from hbig), if_neg hbig]
          have hi : wp (onL (loop (S := Int) (B := Int) (R := Empty) (fun (k1 : Int) =>
 (at? (tab (Tbt (us l) l) (NB l + 1)) (w64 (k1 + 1))).bind fun v2 =>
 if v2 ≤ sec * us l then
 (some (.next (w64 (k1 + 1))))
 else
 some (.brk k1)) loopLim 0)
 (fun (k2 : Int) => some (k2, (0 : Int))) Empty.elim) (fun r => ∃ k : Nat, r = ((k : Int), 0) ∧ Pk l (us l) (sec * us l) k) := by
            refine wp_loop (fun s : Int => ∃ k : Nat, s = (k : Int) ∧ k < NB l ∧ Tbt (us l) l k ≤ sec * us l) (fun s => (NB l - s).toNat) ⟨0, rfl, by omega, by rw [show Tbt (us l) l 0 = 0 from rfl]; exact hx0⟩ (by omega) ?_
            rintro s ⟨k, rfl, hk, hk2⟩
            rw [w64_id (n := (k : Int) + 1) (by omega) (by omega), show (k : Int) + 1 = ((k + 1 : Nat) : Int) by omega, at_T (show k + 1 ≤ NB l by omega), Option.bind_some]
            refine wp_ite (fun hc => wp_some ⟨⟨k + 1, rfl, ?_, hc⟩, by omega⟩) (fun hc => wp_some (wp_some ⟨k, rfl, hk, hk2, by omega⟩))
            rcases Nat.lt_or_ge (k + 1) (NB l) with h1 | h1
            · exact h1
            · rw [show k + 1 = NB l by omega] at hc; exact absurd hc hbig
          have hsp : wp (onL (loop (S := (Int × Int)) (B := Int) (R := Empty) (fun ((low1, high1) : Int × Int) =>
 if (w64 (high1 - low1)) > 1 then
 ((spec_l19Units l (w64 ((w64 (low1 + high1)).tdiv 2)) (us l)).bind fun r6 =>
 if r6 ≤ sec * us l then
 (some (.next (w64 ((w64 (low1 + high1)).tdiv 2), high1)))
 else
 some (.next (low1, w64 ((w64 (low1 + high1)).tdiv 2))))
 else
 some (.brk low1)) loopLim (0, ((NB l : Nat) : Int)))
 (fun (low2 : Int) => some (low2, (0 : Int))) Empty.elim) (fun r => ∃ k : Nat, r = ((k : Int), 0) ∧ Pk l (us l) (sec * us l) k) := by
            refine wp_loop (fun s : Int × Int => ∃ a b : Nat, s = ((a : Int), (b : Int)) ∧ a < b ∧ b ≤ NB l ∧ Tbt (us l) l a ≤ sec * us l ∧ sec * us l < Tbt (us l) l b) (fun s => (s.2 - s.1).toNat) ⟨0, NB l, rfl, by omega, Nat.le_refl _, by rw [show Tbt (us l) l 0 = 0 from rfl]; exact hx0, by omega⟩ (by simp only; omega) ?_
            rintro s ⟨a, b, rfl, hab, hbN, ha, hb2⟩
            simp only
            rw [w64_id (n := (b : Int) - a) (by omega) (by omega)]
            refine wp_ite (fun hc => ?_) (fun hc => wp_some (wp_some ⟨a, rfl, by omega, ha, by rw [show a + 1 = b by omega]; exact hb2⟩))
            rw [w64_id (n := (a : Int) + b) (by omega) (by omega), show ((a : Int) + b).tdiv 2 = (((a + b) / 2 : Nat) : Int) from by rw [Int.tdiv_eq_ediv_of_nonneg (by omega)]; omega, w64_id (by omega) (by omega), l19Units_eq hv hu hd (by omega), Option.bind_some]
            refine wp_ite (fun hc2 => wp_some ⟨⟨(a + b) / 2, b, rfl, by omega, hbN, hc2, hb2⟩, by simp only; omega⟩) (fun hc2 => wp_some ⟨⟨a, (a + b) / 2, rfl, by omega, by omega, ha, by omega⟩, by simp only; omega⟩)
          obtain ⟨r1, e1, k1, rfl, p1⟩ := hi
          obtain ⟨r2, e2, k2, rfl, p2⟩ := hsp
          have := Pk_unique hv hu hd p1 p2
          subst this
          exact ⟨_, e1, e2, fun _ => ⟨by trivial, h0, hs, k1, rfl, p1⟩, fun hc => absurd (show (0 : Int) = 3 from hc) (by decide)⟩
    · rw [decide_eq_false hs]
      exact ⟨(0, 2), rfl, rfl, fun hc => absurd hc (by decide), fun hc => absurd hc (by decide)⟩
/- the length -/
theorem red_le {n d : Int} {f : GFraction} (hr : Red n d f) (hd : 0 < d) (s : Int) : f.Num ≤ s * f.Den ↔ n ≤ s * d := by
  have he := hr.eq
  have hp := hr.pos
  constructor
  · intro h1
    have h2 := Int.mul_le_mul_of_nonneg_right h1 (show 0 ≤ d by omega)
    have h3 : n * f.Den ≤ (s * d) * f.Den := by
      rw [← he]; refine Int.le_trans h2 (Int.le_of_eq ?_); simp only [Int.mul_assoc, Int.mul_comm, Int.mul_left_comm]
    exact Int.le_of_mul_le_mul_right h3 hp
  · intro h1
    have h2 := Int.mul_le_mul_of_nonneg_right h1 (show 0 ≤ f.Den by omega)
    have h3 : f.Num * d ≤ (s * f.Den) * d := by
      rw [he]; refine Int.le_trans h2 (Int.le_of_eq ?_); simp only [Int.mul_assoc, Int.mul_comm, Int.mul_left_comm]
    exact Int.le_of_mul_le_mul_right h3 hd
theorem Length_eq {l : List GPart} (hl : l.length ≤ 1000000) : ∃ r : GFraction × Int, impl_LengthOfPiece l = some r ∧ spec_LengthOfPiece l = some r ∧ (vpc l = true → us l ≠ 0 → r.2 = 0 ∧ Red (Tbt (us l) l (NB l)) (us l) r.1) := by
  unfold impl_LengthOfPiece spec_LengthOfPiece impl_LengthOfPiece_1
  rw [timesOf_eq hl, Option.bind_some, l19Ok_eq hl, Option.bind_some]
  unfold tms
  cases hv : vpc l with
  | false => exact ⟨(GFraction.mk 0 0, 1), rfl, rfl, fun hc => by simp at hc⟩
  | true =>
    simp only [if_true]
    rw [l19Parts_eq hv, Option.bind_some]
    by_cases h0 : us l = 0
    · rw [if_pos h0, if_pos h0]
      exact ⟨(GFraction.mk 0 0, 5), rfl, rfl, fun _ hc => absurd h0 hc⟩
    · obtain ⟨hu, hd⟩ := us_ok hv h0
      have hN := NB_bd hv
      have hb := T_big hv hu hd (Nat.le_refl (NB l))
      rw [if_neg h0, if_neg h0]
      simp only [if_true, tab_length]
      rw [w64_id (n := ((NB l + 1 : Nat) : Int) - 1) (by omega) (by omega), show ((NB l + 1 : Nat) : Int) - 1 = ((NB l : Nat) : Int) by omega, at_T (Nat.le_refl _), Option.bind_some, l19Beats_eq hv, Option.bind_some, l19Units_eq hv hu hd (Nat.le_refl _), Option.bind_some]
      obtain ⟨f, hf, hr⟩ := impl_lowest_eq (n := Tbt (us l) l (NB l)) (d := us l) h0 (by omega) (by omega)
      obtain ⟨g, hg, hr2⟩ := l02Make_eq (n := Tbt (us l) l (NB l)) (d := us l) (by omega) (by omega) (by omega)
      have hfg : f = g := Red.unique hr.pos hr2.pos hr.cop hr2.cop (by
        have h1 := hr.eq
        have h2 := hr2.eq
        have : (f.Num * g.Den) * us l = (g.Num * f.Den) * us l := by
          calc (f.Num * g.Den) * us l = (f.Num * us l) * g.Den := by simp only [Int.mul_assoc, Int.mul_comm, Int.mul_left_comm]
            _ = (Tbt (us l) l (NB l) * f.Den) * g.Den := by rw [h1]
            _ = (Tbt (us l) l (NB l) * g.Den) * f.Den := by simp only [Int.mul_assoc, Int.mul_comm, Int.mul_left_comm]
            _ = (g.Num * us l) * f.Den := by rw [h2]
            _ = (g.Num * f.Den) * us l := by simp only [Int.mul_assoc, Int.mul_comm, Int.mul_left_comm]
        exact Int.eq_of_mul_eq_mul_right (show us l ≠ 0 from h0) this)
      subst hfg
      rw [hf, hg, Option.bind_some]
      exact ⟨_, rfl, rfl, fun _ _ => ⟨rfl, hr⟩⟩
theorem TimeOfBeat_eq {l : List GPart} (hv : vpc l = true) (h0 : us l ≠ 0) {k : Nat} (hk : k < NB l) : ∃ f, impl_TimeOfBeat l (k : Int) = some (f, 0) ∧ Red (Tbt (us l) l k) (us l) f := by
  obtain ⟨hu, hd⟩ := us_ok hv h0
  have hN := NB_bd hv
  have hb := T_big hv hu hd (show k ≤ NB l by omega)
  have hl := vpc_len hv
  unfold impl_TimeOfBeat impl_TimeOfBeat_1
  rw [beatsOf_eq hv, Option.bind_some, w64_id (n := ((NB l : Nat) : Int) - 1) (by omega) (by omega), within_d, Option.bind_some, decide_eq_true (by omega), timesOf_eq (by omega), Option.bind_some]
  unfold tms
  rw [if_pos hv, if_pos rfl, if_neg h0]
  simp only [if_true]
  rw [at_T (by omega), Option.bind_some]
  obtain ⟨f, hf, hr⟩ := impl_lowest_eq (n := Tbt (us l) l k) (d := us l) h0 (by omega) (by omega)
  rw [hf, Option.bind_some]
  exact ⟨f, rfl, hr⟩
/- the least tempo -/
theorem TempoFor_same (p : GPart) (sec : Int) : ∃ r : Int × Int, impl_TempoFor p sec = some r ∧ spec_TempoFor p sec = some r ∧ (r.2 = 0 → vpp p = true ∧ (1 ≤ sec ∧ sec ≤ 100000) ∧ (20 ≤ r.1 ∧ r.1 ≤ 300) ∧ 60 * (bts p : Int) ≤ sec * r.1) := by
  unfold impl_TempoFor spec_TempoFor
  rw [validPart_eq, l19One_eq, Option.bind_some, Option.bind_some, within_d, l00In_d, Option.bind_some, Option.bind_some]
  cases hv : vpp p with
  | false => exact ⟨(0, 1), rfl, rfl, fun hc => absurd hc (by decide)⟩
  | true =>
    simp only [if_true]
    by_cases hs : 1 ≤ sec ∧ sec ≤ 100000
    · rw [decide_eq_true hs]
      simp only [if_true]
      obtain ⟨h1, h2, h3⟩ := vpp_ok hv
      obtain ⟨g1, g2, g3⟩ := bts_ok hv
      have e1 : w64 (w64 (p.Bars * p.Beats) * 60) = 60 * (bts p : Int) := by
        rw [← g1, w64_id (n := (bts p : Int)) (by omega) (by omega), w64_id (by omega) (by omega)]; omega
      have e2 : w64 (w64 (60 * p.Bars) * p.Beats) = 60 * (bts p : Int) := by
        rw [w64_id (n := 60 * p.Bars) (by omega) (by omega), Int.mul_assoc, ← g1, w64_id (by omega) (by omega)]
      rw [e1, e2]
      have key : wp (onL (loop (S := Int) (B := Unit) (R := (Int × Int)) (fun (tempo1 : Int) =>
 if tempo1 ≤ 300 then
 (if 60 * (bts p : Int) ≤ (w64 (sec * tempo1)) then
 (some (.ret (tempo1, 0)))
 else
 some (.next (w64 (tempo1 + 1))))
 else
 some (.brk ())) loopLim 20)
 (fun (_ : Unit) => some (0, 3)) (fun r => some r)) (fun r => r.2 = 0 → (20 ≤ r.1 ∧ r.1 ≤ 300) ∧ 60 * (bts p : Int) ≤ sec * r.1) := by
        refine wp_loop (fun t : Int => 20 ≤ t ∧ t ≤ 301) (fun t => (301 - t).toNat) ⟨by omega, by omega⟩ (by omega) ?_
        rintro t ⟨t0, t1⟩
        have b1 := Int.mul_le_mul hs.2 t1 (by omega) (by omega)
        have b0 : 0 ≤ sec * t := Int.mul_nonneg (by omega) (by omega)
        rw [w64_id (n := sec * t) (by omega) (by omega)]
        refine wp_ite (fun hc => wp_ite (fun hc2 => wp_some (wp_some fun _ => ⟨⟨t0, hc⟩, hc2⟩)) (fun hc2 => wp_some ?_)) (fun hc => wp_some (wp_some fun hq => absurd hq (by decide)))
        simp only
        rw [w64_id (by omega) (by omega)]
        exact ⟨⟨by omega, by omega⟩, by omega⟩
      obtain ⟨r, hr, hp⟩ := key
      exact ⟨r, hr, hr, fun h0 => ⟨by trivial, hs, (hp h0).1, (hp h0).2⟩⟩
    · rw [decide_eq_false hs]
      exact ⟨(0, 2), rfl, rfl, fun hc => absurd hc (by decide)⟩
end Go.Vs.G

namespace Go.Vs
open Go
/-- the first least -/
def fm (d : Nat → Int) : Nat → Nat
  | 0 => 0
  | k + 1 => if d k < d (fm d k) then k else fm d k
theorem fm_spec (d : Nat → Int) : ∀ k, 1 ≤ k → fm d k < k ∧ (∀ j, j < k → d (fm d k) ≤ d j) ∧ ∀ j, j < fm d k → d (fm d k) < d j
  | 0, h => by omega
  | 1, _ => by
    have : fm d 1 = 0 := by rw [fm]; split <;> rfl
    rw [this]
    exact ⟨by omega, fun j hj => by rw [show j = 0 by omega]; omega, fun j hj => by omega⟩
  | k + 2, _ => by
    obtain ⟨h1, h2, h3⟩ := fm_spec d (k + 1) (by omega)
    rw [fm]
    split
    · rename_i hc
      refine ⟨by omega, fun j hj => ?_, fun j hj => ?_⟩
      · rcases Nat.lt_or_ge j (k + 1) with h4 | h4
        · have := h2 j h4; omega
        · rw [show j = k + 1 by omega]; omega
      · have := h2 j hj; omega
    · rename_i hc
      refine ⟨by omega, fun j hj => ?_, h3⟩
      rcases Nat.lt_or_ge j (k + 1) with h4 | h4
      · exact h2 j h4
      · rw [show j = k + 1 by omega]; omega
theorem fm_unique {d : Nat → Int} {k m : Nat} (hm : m < k) (h1 : ∀ j, j < k → d m ≤ d j) (h2 : ∀ j, j < m → d m < d j) : m = fm d k := by
  obtain ⟨g1, g2, g3⟩ := fm_spec d k (by omega)
  rcases Nat.lt_trichotomy m (fm d k) with h | h | h
  · have := g3 m h; have := h1 _ g1; omega
  · exact h
  · have := h2 _ h; have := g2 m hm; omega
end Go.Vs
namespace Go.Vs.G
open Go Go.Vs
theorem apart_big {a b : Int} (ha : -100000000000000 ≤ a ∧ a ≤ 100000000000000) (hb : -100000000000000 ≤ b ∧ b ≤ 100000000000000) : impl_apart a b = some (ab (a - b)) := by
  unfold impl_apart ab imax
  rw [w64_id (by omega) (by omega), w64_id (by omega) (by omega)]
  refine congrArg some ?_
  split <;> split <;> omega
def vsc (s : List Int) : Bool := decide (s.length ≤ 20) && s.all fun x => decide (0 ≤ x ∧ x ≤ 100000)
theorem FitCues_1_eq {s : List Int} (hl : s.length ≤ 1000000) : impl_FitCues_1 s = some (vsc s) := by
  unfold impl_FitCues_1 vsc
  have hcf : slices_ContainsFunc_int64_int64_796 s (fun a0 => impl_FitCues_1_1 a0) = some (s.any fun p => !decide (0 ≤ p ∧ p ≤ 100000)) := by
    unfold slices_ContainsFunc_int64_int64_796 slices_IndexFunc_int64_int64_818
    refine contS (fun p => !decide (0 ≤ p ∧ p ≤ 100000)) s (fun p hp => ?_) (by omega) (fun _ => rfl)
    unfold impl_FitCues_1_1
    rw [within_d, Option.bind_some]
  rw [hcf, Option.bind_some]
  have e : (!s.any fun p => !decide (0 ≤ p ∧ p ≤ 100000)) = s.all fun p => decide (0 ≤ p ∧ p ≤ 100000) := by rw [List.not_any_eq_all_not]; simp
  rw [e]
  by_cases h1 : s.length ≤ 20
  · rw [if_pos (by omega), decide_eq_true h1, Bool.true_and]
  · rw [if_neg (by omega), decide_eq_false h1, Bool.false_and]
/-- the nearest beat to a second -/
def nrb (l : List GPart) (v : Int) : Int := ((fm (fun j => ab (Tbt (us l) l j - v * us l)) (NB l) : Nat) : Int)
def fcs (l : List GPart) (s : List Int) : List Int × Int :=
  if vpc l = true then (if vsc s = true then (if us l = 0 then ([], 5) else (s.map (nrb l), 0)) else ([], 2)) else ([], 1)
theorem vsc_mem {s : List Int} (h : vsc s = true) {x : Int} (hx : x ∈ s) : 0 ≤ x ∧ x ≤ 100000 := by
  unfold vsc at h
  simp only [Bool.and_eq_true, decide_eq_true_eq, List.all_eq_true] at h
  exact h.2 x hx
theorem FitCues_eq {l : List GPart} {s : List Int} (hl : l.length ≤ 1000000) (hs : s.length ≤ 1000000) : impl_FitCues l s = some (fcs l s) := by
  unfold impl_FitCues fcs
  rw [FitCues_1_eq hs, timesOf_eq hl, Option.bind_some]
  unfold tms
  cases hv : vpc l with
  | false => rfl
  | true =>
    simp only [if_true]
    cases hsc : vsc s with
    | false => rfl
    | true =>
      simp only [if_true]
      by_cases h0 : us l = 0
      · rw [if_pos h0, if_pos h0]; rfl
      · obtain ⟨hu, hd⟩ := us_ok hv h0
        have hN := NB_bd hv
        rw [if_neg h0, if_neg h0]
        simp only [if_true, tab_length]
        rw [w64_id (n := ((NB l + 1 : Nat) : Int) - 1) (by omega) (by omega), show ((NB l + 1 : Nat) : Int) - 1 = ((NB l : Nat) : Int) by omega]
        rw [mapK (nrb l) s hs (fun k hk out ho => by
          have hvm := vsc_mem hsc (List.getElem_mem hk)
          have hx0 : 0 ≤ s[k] * us l := Int.mul_nonneg hvm.1 (by omega)
          have hx1 : s[k] * us l ≤ 100000 * 100000000 := Int.mul_le_mul hvm.2 hu.2 (by omega) (by omega)
          simp only
          rw [if_pos (by omega), at_of hk, Option.bind_some, w64_id (n := s[k] * us l) (by omega) (by omega)]
          refine eq_of_wp ?_
          refine wp_cnt (fun j => (((fm (fun j => ab (Tbt (us l) l j - s[k] * us l)) j : Nat) : Int), (j : Int))) (NB l) rfl (by omega) (fun j hj => ?_) (b := nrb l s[k]) ?_ ?_
          · have hfj : fm (fun j => ab (Tbt (us l) l j - s[k] * us l)) j ≤ j := by
              cases j with
              | zero => exact Nat.le_refl _
              | succ j => have := (fm_spec (fun j => ab (Tbt (us l) l j - s[k] * us l)) (j + 1) (by omega)).1; omega
            have b1 := T_big hv hu hd (show j ≤ NB l by omega)
            have b2 := T_big hv hu hd (show fm (fun j => ab (Tbt (us l) l j - s[k] * us l)) j ≤ NB l by omega)
            simp only
            rw [if_pos (by omega), at_T (by omega), Option.bind_some, apart_big (by omega) (by omega), Option.bind_some, at_T (by omega), Option.bind_some, apart_big (by omega) (by omega), Option.bind_some, w64_id (by omega) (by omega), fm]
            split
            · rfl
            · rfl
          · simp only; rw [if_neg (by omega)]; rfl
          · rw [app_ok (by simp; omega), Option.bind_some, w64_id (by omega) (by omega)]
            exact wp_some rfl) (fun out => by simp only; rw [if_neg (by omega)])]
theorem FitCues_spec {l : List GPart} {s : List Int} (hl : l.length ≤ 1000000) (hs : s.length ≤ 1000000) : spec_FitCues l s = some (fcs l s) := by
  unfold spec_FitCues fcs
  rw [l19Ok_eq hl, Option.bind_some]
  cases hv : vpc l with
  | false => rfl
  | true =>
    simp only [if_true]
    rw [allS (fun x => decide (0 ≤ x ∧ x ≤ 100000)) s (f := fun x => some (decide (0 ≤ x ∧ x ≤ 100000))) (fun _ _ => rfl) (by omega) (r := ([], 2)) (hb := fun i => by
      by_cases hi : i < (s.length : Int)
      · rw [if_pos hi, if_pos hi]
        cases ha : at? s i with
        | none => rfl
        | some v => simp only [Option.bind_some, l00In_d]
      · rw [if_neg hi, if_neg hi])]
    by_cases hall : ∀ x, x ∈ s → decide (0 ≤ x ∧ x ≤ 100000) = true
    · rw [if_pos hall]
      by_cases h20 : s.length ≤ 20
      · have hsc : vsc s = true := by unfold vsc; rw [decide_eq_true h20, List.all_eq_true.2 hall]; rfl
        rw [if_neg (by omega), hsc, if_pos rfl, l19Parts_eq hv, Option.bind_some]
        by_cases h0 : us l = 0
        · rw [if_pos h0, if_pos h0]
        · obtain ⟨hu, hd⟩ := us_ok hv h0
          have hN := NB_bd hv
          rw [if_neg h0, if_neg h0, l19Beats_eq hv, Option.bind_some]
          rw [mapK (nrb l) s hs (fun k hk out ho => by
            have hvm := vsc_mem hsc (List.getElem_mem hk)
            have hx0 : 0 ≤ s[k] * us l := Int.mul_nonneg hvm.1 (by omega)
            have hx1 : s[k] * us l ≤ 100000 * 100000000 := Int.mul_le_mul hvm.2 hu.2 (by omega) (by omega)
            simp only
            rw [if_pos (by omega), at_of hk]
            simp only [Option.bind_some]
            rw [w64_id (n := s[k] * us l) (by omega) (by omega), w64_id (n := (k : Int) + 1) (by omega) (by omega)]
            refine eq_of_wp ?_
            refine wp_loop (fun q : Int × Int => ∃ a b : Nat, q = ((a : Int), (b : Int)) ∧ a < b ∧ b ≤ NB l ∧ Tbt (us l) l a ≤ s[k] * us l ∧ (b = NB l ∨ s[k] * us l < Tbt (us l) l b)) (fun q => (q.2 - q.1).toNat) ⟨0, NB l, rfl, by omega, Nat.le_refl _, by rw [show Tbt (us l) l 0 = 0 from rfl]; exact hx0, .inl rfl⟩ (by simp only; omega) ?_
            rintro q ⟨a, b, rfl, hab, hbN, ha, hb2⟩
            simp only
            rw [w64_id (n := (b : Int) - a) (by omega) (by omega)]
            refine wp_ite (fun hc => ?_) (fun hc => wp_some ?_)
            · rw [w64_id (n := (a : Int) + b) (by omega) (by omega), show ((a : Int) + b).tdiv 2 = (((a + b) / 2 : Nat) : Int) from by rw [Int.tdiv_eq_ediv_of_nonneg (by omega)]; omega, w64_id (by omega) (by omega), l19Units_eq hv hu hd (by omega), Option.bind_some]
              refine wp_ite (fun hc2 => wp_some ⟨⟨(a + b) / 2, b, rfl, by omega, hbN, hc2, hb2⟩, by simp only; omega⟩) (fun hc2 => wp_some ⟨⟨a, (a + b) / 2, rfl, by omega, by omega, ha, .inr (by omega)⟩, by simp only; omega⟩)
            · have hb1 : b = a + 1 := by omega
              subst hb1
              have ba := T_big hv hu hd (show a ≤ NB l by omega)
              have ba1 := T_big hv hu hd hbN
              simp only
              rw [l19Units_eq hv hu hd (by omega), Option.bind_some, w64_id (n := (a : Int) + 1) (by omega) (by omega)]
              have hlow : ∀ j, j < a → Tbt (us l) l j < Tbt (us l) l a := fun j hj => T_lt hv hu hd hj (by omega)
              have hdl : ∀ j, j ≤ a → ab (Tbt (us l) l j - s[k] * us l) = s[k] * us l - Tbt (us l) l j := fun j hj => by
                have := T_le hv hu hd hj (by omega)
                unfold ab; split <;> omega
              have hmono : ∀ j, a + 1 ≤ j → j < NB l → s[k] * us l < Tbt (us l) l (a + 1) → ab (Tbt (us l) l (a + 1) - s[k] * us l) ≤ ab (Tbt (us l) l j - s[k] * us l) := fun j h1 h2 h3 => by
                have := T_le hv hu hd h1 (by omega)
                unfold ab; split <;> split <;> omega
              have fin : ∀ m : Nat, m = fm (fun j => ab (Tbt (us l) l j - s[k] * us l)) (NB l) → (some (Step.next (out ++ [(m : Int)], (k : Int) + 1)) : Option (Step (List Int × Int) (List Int) Empty)) = some (.next (out ++ [nrb l s[k]], (k : Int) + 1)) := fun m hm => by
                unfold nrb; rw [← hm]
              by_cases hlast : a + 1 < NB l
              · have hx : s[k] * us l < Tbt (us l) l (a + 1) := hb2.elim (fun h => absurd h (by omega)) id
                have hd1 : ab (Tbt (us l) l (a + 1) - s[k] * us l) = Tbt (us l) l (a + 1) - s[k] * us l := by unfold ab; split <;> omega
                have hda := hdl a (Nat.le_refl _)
                rw [if_pos (by omega), show (a : Int) + 1 = ((a + 1 : Nat) : Int) by omega, l19Units_eq hv hu hd (by omega), Option.bind_some, Option.bind_some, w64_id (n := Tbt (us l) l (a + 1) - s[k] * us l) (by omega) (by omega), w64_id (n := s[k] * us l - Tbt (us l) l a) (by omega) (by omega)]
                by_cases hcl : Tbt (us l) l (a + 1) - s[k] * us l < s[k] * us l - Tbt (us l) l a
                · rw [if_pos (decide_eq_true hcl), Option.bind_some, app_ok (by simp; omega), Option.bind_some]
                  refine wp_eq (fin (a + 1) (fm_unique hlast (fun j hj => ?_) (fun j hj => ?_))) rfl
                  · rcases Nat.lt_or_ge a j with h1 | h1
                    · exact hmono j h1 hj hx
                    · have := hdl j h1
                      have := T_le hv hu hd h1 (by omega)
                      omega
                  · have := hdl j (by omega)
                    have := T_le hv hu hd (show j ≤ a by omega) (by omega)
                    omega
                · rw [if_neg (by simpa using hcl), Option.bind_some, app_ok (by simp; omega), Option.bind_some]
                  refine wp_eq (fin a (fm_unique (by omega) (fun j hj => ?_) (fun j hj => ?_))) rfl
                  · rcases Nat.lt_or_ge a j with h1 | h1
                    · have := hmono j h1 hj hx
                      omega
                    · have := hdl j h1
                      have := T_le hv hu hd h1 (by omega)
                      omega
                  · have := hdl j (by omega)
                    have := hlow j hj
                    omega
              · have hda := hdl a (Nat.le_refl _)
                rw [if_neg (by omega), Option.bind_some, if_neg (by decide), Option.bind_some, app_ok (by simp; omega), Option.bind_some]
                refine wp_eq (fin a (fm_unique (by omega) (fun j hj => ?_) (fun j hj => ?_))) rfl
                · have := hdl j (by omega)
                  have := T_le hv hu hd (show j ≤ a by omega) (by omega)
                  omega
                · have := hdl j (by omega)
                  have := hlow j hj
                  omega) (fun out => by simp only; rw [if_neg (by omega)])]
      · have hsc : vsc s = false := by unfold vsc; rw [decide_eq_false h20, Bool.false_and]
        rw [if_pos (by omega), hsc]; rfl
    · rw [if_neg hall]
      have hsc : vsc s = false := by
        unfold vsc
        have : (s.all fun x => decide (0 ≤ x ∧ x ≤ 100000)) = false := by rw [Bool.eq_false_iff]; exact fun hc => hall (List.all_eq_true.1 hc)
        rw [this, Bool.and_false]
      rw [hsc]; rfl
end Go.Vs.G

namespace Go.Vs.G
open Go Go.Vs
theorem l19New_ok {B : Int} {s : GL00Src} (h : SrcOk B s) (hB : B ≤ 1000000) : wp (spec_l19New s) fun r => SrcOk (B + 6) r.2 := by
  unfold spec_l19New
  refine wp_pick h (by omega) fun v s1 _ _ h1 => ?_
  refine wp_among h1 (by omega) (by simp) (by simp) fun v2 s2 _ h2 => ?_
  refine wp_among h2 (by omega) (by simp) (by simp) fun v3 s3 _ h3 => ?_
  exact wp_some (h3.mono (by omega))
theorem l19Spoil_ok {B : Int} {s : GL00Src} (h : SrcOk B s) (hB : B ≤ 1000000) (x : GPart) : wp (spec_l19Spoil s x) fun r => SrcOk (B + 4) r.1 := by
  unfold spec_l19Spoil
  refine wp_pick h (by omega) fun v s1 _ _ h1 => ?_
  simp only
  refine wp_ite (fun _ => ?_) (fun _ => wp_ite (fun _ => ?_) (fun _ => wp_ite (fun _ => ?_) (fun _ => wp_some (h1.mono (by omega)))))
  · exact wp_among h1 (by omega) (by simp) (by simp) fun y s2 _ h2 => wp_some (h2.mono (by omega))
  · exact wp_among h1 (by omega) (by simp) (by simp) fun y s2 _ h2 => wp_some (h2.mono (by omega))
  · exact wp_among h1 (by omega) (by simp) (by simp) fun y s2 _ h2 => wp_some (h2.mono (by omega))
theorem l19Second_ok {B : Int} {s : GL00Src} (h : SrcOk B s) (hB : B ≤ 1000000) : wp (spec_l19Second s) fun r => SrcOk (B + 4) r.2 := by
  unfold spec_l19Second
  refine wp_one h (by omega) fun b s1 h1 => ?_
  refine wp_bif (fun _ => ?_) (fun _ => ?_)
  · exact wp_among h1 (by omega) (by simp) (by simp) fun y s2 _ h2 => wp_some (h2.mono (by omega))
  · exact wp_pick h1 (by omega) fun y s2 _ _ h2 => wp_some (h2.mono (by omega))
theorem l19Draw_ok {B : Int} {s : GL00Src} (h : SrcOk B s) (hB : B ≤ 100000) : wp (spec_l19Draw s) fun r => SrcOk (B + 200) r.2 ∧ r.1.length ≤ 13 := by
  unfold spec_l19Draw
  refine wp_pick h (by omega) fun v s1 v0 v1 h1 => ?_
  refine wp_one h1 (by omega) fun b1 s2 h2 => ?_
  simp only
  refine wp_seq (P := fun q : GL00Src × Int => SrcOk (B + 6) q.1 ∧ 0 ≤ q.2 ∧ q.2 ≤ 13) ?_ ?_
  · refine wp_bif (fun _ => ?_) (fun _ => wp_some ⟨h2.mono (by omega), ?_, ?_⟩)
    · refine wp_among h2 (by omega) (by simp) (by simp) fun x s3 hx h3 => wp_some ⟨h3.mono (by omega), ?_, ?_⟩
      · simp only [List.mem_cons, List.not_mem_nil, or_false] at hx
        rcases hx with rfl | rfl | rfl <;> simp
      · simp only [List.mem_cons, List.not_mem_nil, or_false] at hx
        rcases hx with rfl | rfl | rfl <;> simp
    · simp only; rw [w64_id (by omega) (by omega)]; omega
    · simp only; rw [w64_id (by omega) (by omega)]; omega
  · rintro ⟨s3, n⟩ ⟨h3, n0, n1⟩
    simp only at h3 n0 n1 ⊢
    refine wp_loop (fun q : GL00Src × List GPart × Int => SrcOk (B + 6 + 6 * (q.2.1.length : Int)) q.1 ∧ (q.2.1.length : Int) + q.2.2 = n ∧ 0 ≤ q.2.2) (fun q => q.2.2.toNat) ⟨by simpa using h3, by simp, n0⟩ (by simp only; omega) ?_
    rintro ⟨s4, out, k⟩ ⟨h4, h5, h6⟩
    simp only at h4 h5 h6 ⊢
    refine wp_ite (fun hk => ?_) (fun hk => ?_)
    · refine wp_seq (l19New_ok h4 (by omega)) ?_
      rintro ⟨x, s5⟩ h7
      simp only at h7 ⊢
      rw [app_ok (by simp; omega), Option.bind_some, w64_id (n := k - 1) (by omega) (by omega)]
      exact wp_some ⟨⟨h7.mono (by simp; omega), by simp; omega, by simp only; omega⟩, by simp only; omega⟩
    · refine wp_some ?_
      simp only
      refine wp_one h4 (by omega) fun b2 s5 h7 => ?_
      simp only
      refine wp_seq (P := fun o : List GPart => o.length ≤ 13) ?_ ?_
      · exact wp_bif (fun _ => wp_some (by simp)) (fun _ => wp_some (by omega))
      · intro out3 ho3
        refine wp_seq (P := fun q : GL00Src × Bool => SrcOk (B + 120) q.1 ∧ (q.2 = true → 0 < out3.length)) ?_ ?_
        · refine wp_ite (fun hn => ?_) (fun _ => wp_some ⟨h7.mono (by omega), fun hc => by simp at hc⟩)
          exact wp_one h7 (by omega) fun b s5 h8 => wp_some ⟨h8.mono (by omega), fun _ => by omega⟩
        · rintro ⟨s6, b⟩ ⟨h8, hb⟩
          simp only at h8 hb ⊢
          refine wp_bif (fun hbt => ?_) (fun _ => wp_some ⟨h8.mono (by omega), by simp only; omega⟩)
          have := hb hbt
          rw [at_ok (by omega) (by omega), Option.bind_some]
          refine wp_seq (l19Spoil_ok h8 (by omega) _) ?_
          rintro ⟨s7, y⟩ h9
          exact wp_some ⟨h9.mono (by omega), by simp; omega⟩
section
variable {code : List Int} (hc : okL (okI .u8) code) (hl : code.length ≤ 4096)
include hc hl
theorem DrawBeat_ok : wp (spec_DrawBeatAt code) fun r => r.1.length ≤ 13 := by
  unfold spec_DrawBeatAt
  refine wp_from hc (by omega) fun s h => ?_
  refine wp_seq (l19Draw_ok h (by omega)) ?_
  rintro ⟨l, s1⟩ ⟨h1, h2⟩
  simp only at h1 h2 ⊢
  exact wp_seq (l19Second_ok h1 (by omega)) fun r _ => wp_some h2
theorem DrawTempo_ok : wp (spec_DrawTempoFor code) fun _ => True := by
  unfold spec_DrawTempoFor
  refine wp_from hc (by omega) fun s h => ?_
  refine wp_seq (l19New_ok h (by omega)) ?_
  rintro ⟨x, s1⟩ h1
  simp only at h1 ⊢
  refine wp_one h1 (by omega) fun b s2 h2 => ?_
  refine wp_bif (fun _ => ?_) (fun _ => ?_)
  · refine wp_seq (l19Spoil_ok h2 (by omega) _) ?_
    rintro ⟨s3, y⟩ h3
    simp only at h3 ⊢
    exact wp_seq (l19Second_ok h3 (by omega)) fun r _ => wp_some trivial
  · exact wp_seq (l19Second_ok h2 (by omega)) fun r _ => wp_some trivial
theorem DrawCues_ok : wp (spec_DrawFitCues code) fun r => r.1.length ≤ 13 ∧ r.2.length ≤ 21 := by
  unfold spec_DrawFitCues
  refine wp_from hc (by omega) fun s h => ?_
  refine wp_seq (l19Draw_ok h (by omega)) ?_
  rintro ⟨l, s1⟩ ⟨h1, hll⟩
  simp only at h1 hll ⊢
  refine wp_pick h1 (by omega) fun v s2 v0 v1 h2 => ?_
  refine wp_one h2 (by omega) fun b s3 h3 => ?_
  simp only
  refine wp_seq (P := fun q : GL00Src × Int => SrcOk 300 q.1 ∧ 0 ≤ q.2 ∧ q.2 ≤ 21) ?_ ?_
  · refine wp_bif (fun _ => ?_) (fun _ => wp_some ⟨h3.mono (by omega), by simp only; omega, by simp only; omega⟩)
    refine wp_pick h3 (by omega) fun v2 s4 v2a v2b h4 => wp_some ⟨h4.mono (by omega), ?_, ?_⟩
    · simp only; rw [w64_id (by omega) (by omega)]; omega
    · simp only; rw [w64_id (by omega) (by omega)]; omega
  · rintro ⟨s4, n⟩ ⟨h4, n0, n1⟩
    simp only at h4 n0 n1 ⊢
    refine wp_loop (fun q : GL00Src × List Int × Int => SrcOk (300 + 6 * (q.2.1.length : Int)) q.1 ∧ (q.2.1.length : Int) + q.2.2 = n ∧ 0 ≤ q.2.2) (fun q => q.2.2.toNat) ⟨by simpa using h4, by simp, n0⟩ (by simp only; omega) ?_
    rintro ⟨s5, out, k⟩ ⟨h5, h6, h7⟩
    simp only at h5 h6 h7 ⊢
    refine wp_ite (fun hk => ?_) (fun hk => ?_)
    · refine wp_pick h5 (by omega) fun x s6 _ _ h8 => ?_
      simp only
      rw [app_ok (by simp; omega), Option.bind_some, w64_id (n := k - 1) (by omega) (by omega)]
      exact wp_some ⟨⟨h8.mono (by simp; omega), by simp; omega, by simp only; omega⟩, by simp only; omega⟩
    · refine wp_some ?_
      simp only
      refine wp_seq (P := fun q : GL00Src × Bool => SrcOk 600 q.1 ∧ (q.2 = true → 0 < n)) ?_ ?_
      · refine wp_ite (fun hn => ?_) (fun _ => wp_some ⟨h5.mono (by omega), fun hc => by simp at hc⟩)
        exact wp_one h5 (by omega) fun b s6 h8 => wp_some ⟨h8.mono (by omega), fun _ => hn⟩
      · rintro ⟨s6, b⟩ ⟨h8, hb⟩
        simp only at h8 hb ⊢
        refine wp_bif (fun hbt => ?_) (fun _ => wp_some ⟨hll, by simp only; omega⟩)
        have := hb hbt
        refine wp_seq (l19Second_ok h8 (by omega)) fun r _ => ?_
        rw [at_ok (by omega) (by omega), Option.bind_some]
        exact wp_some ⟨hll, by simp; omega⟩
end
theorem lc_one {t : Int} (h : 1 ≤ t ∧ t ≤ 1000) : lc 1 t = t := by
  unfold lc impl_commonLength
  have hg : Int.gcd 1 t = 1 := by simp
  rw [impl_gcd_eq (by omega) (by omega), hg, Option.bind_some, div_ok (by decide), Option.bind_some]
  show w64 (w64 ((1 : Int).tdiv ((1 : Nat) : Int)) * t) = t
  rw [show (1 : Int).tdiv ((1 : Nat) : Int) = 1 from rfl, w64_id (n := 1) (by omega) (by omega), Int.one_mul, w64_id (by omega) (by omega)]
/-- one part alone -/
theorem one_part {p : GPart} (hv : vpp p = true) {t : Int} (ht : 20 ≤ t ∧ t ≤ 300) : vpc [GPart.mk p.Bars p.Beats t] = true ∧ us [GPart.mk p.Bars p.Beats t] = t ∧ Tbt t [GPart.mk p.Bars p.Beats t] (NB [GPart.mk p.Bars p.Beats t]) = 60 * (bts p : Int) := by
  obtain ⟨h1, h2, h3⟩ := vpp_ok hv
  have hvp : vpp (GPart.mk p.Bars p.Beats t) = true := decide_eq_true ⟨h1, h2, ht⟩
  refine ⟨by unfold vpc; simp [hvp], ?_, ?_⟩
  · unfold us
    show (uf [GPart.mk p.Bars p.Beats t] 1).getD 0 = t
    have e : uf [GPart.mk p.Bars p.Beats t] 1 = if lc 1 t > 100000000 then none else some (lc 1 t) := rfl
    rw [e, lc_one (by omega), if_neg (by omega)]; rfl
  · have := T_add t (l := [GPart.mk p.Bars p.Beats t]) (i := 0) (by simp) (bts (gd [GPart.mk p.Bars p.Beats t] 0)) (Nat.le_refl _)
    have hg : gd [GPart.mk p.Bars p.Beats t] 0 = GPart.mk p.Bars p.Beats t := rfl
    rw [hg] at this
    have hb : bts (GPart.mk p.Bars p.Beats t) = bts p := rfl
    rw [hb] at this
    have hN : NB [GPart.mk p.Bars p.Beats t] = nb [GPart.mk p.Bars p.Beats t] 0 + bts p := rfl
    rw [hN, this]
    have hs : stp1 t (GPart.mk p.Bars p.Beats t) = 60 := by
      unfold stp1
      simp only
      exact Int.mul_tdiv_cancel 60 (by omega)
    rw [hs, show Tbt t [GPart.mk p.Bars p.Beats t] (nb [GPart.mk p.Bars p.Beats t] 0) = 0 from rfl]; omega
theorem f6intsM (a b : List Int) (ha : a.length < 9223372036854775807) : laws_f6ints a b = some (decide (a = b)) := by
  unfold laws_f6ints; exact eqSp a b ha
theorem laws_FnTempos_true {code : List Int} (hc : okL (okI .u8) code) : laws_FnTempos code = some true := by
  refine eq_of_wp ?_
  unfold laws_FnTempos laws_f6big
  rw [Option.bind_some]
  by_cases hl : code.length ≤ 4096
  case neg => rw [if_pos (decide_eq_true (by omega))]; exact wp_some rfl
  rw [if_neg (by simp; omega)]
  refine wp_seq (DrawBeat_ok hc hl) ?_
  rintro ⟨l, sec⟩ hl13
  simp only at hl13 ⊢
  obtain ⟨r3, e3, e4, f3, f3'⟩ := BeatAt_same (l := l) (sec := sec) (by omega)
  rw [e3, e4, Option.bind_some, Option.bind_some]
  obtain ⟨r5, e5, e6, f5⟩ := Length_eq (l := l) (by omega)
  rw [e5, e6, Option.bind_some, Option.bind_some]
  refine wp_seq (DrawTempo_ok hc hl) ?_
  rintro ⟨p, ps⟩ -
  simp only
  obtain ⟨r8, e8, e9, f8⟩ := TempoFor_same p ps
  rw [e8, e9, Option.bind_some, Option.bind_some]
  refine wp_seq (DrawCues_ok hc hl) ?_
  rintro ⟨m, cs⟩ ⟨hm13, hc21⟩
  simp only at hm13 hc21 ⊢
  rw [FitCues_eq (by omega) (by omega), FitCues_spec (by omega) (by omega), Option.bind_some, Option.bind_some]
  have hfl : (fcs m cs).1.length ≤ 21 ∧ ((fcs m cs).2 = 0 → (fcs m cs).1.length = cs.length) := by
    unfold fcs
    split
    · split
      · split
        · exact ⟨by simp, fun h => absurd h (by decide)⟩
        · exact ⟨by simpa using hc21, fun _ => by simp⟩
      · exact ⟨by simp, fun h => absurd h (by decide)⟩
    · exact ⟨by simp, fun h => absurd h (by decide)⟩
  simp only [if_true, f6intsM _ _ (show (fcs m cs).1.length < 9223372036854775807 by omega), decide_true, Option.bind_some, beq_self_eq_true, Bool.and_self, Bool.not_true, Bool.false_eq_true, if_false]
  refine wp_onS ?_
  have hx2 : ((if (fcs m cs).2 = 0 then (some (!(decide (((fcs m cs).1.length : Int) = (cs.length : Int))))) else some false) : Option Bool) = some false := by
    by_cases h0 : (fcs m cs).2 = 0
    · rw [if_pos h0, decide_eq_true (by have := hfl.2 h0; omega)]; rfl
    · rw [if_neg h0]
  rw [hx2]
  simp only [Option.bind_some, Bool.false_eq_true, if_false]
  have last : wp (if r3.2 = 0 then
 ((impl_TimeOfBeat l r3.1).bind fun r15 =>
 ((if r15.2 = 0 then
 (if r15.1.Den < 1 then
 (some true)
 else
 if r15.1.Den > 100000000 then
 (some true)
 else
 if r15.1.Num > (w64 (sec * r15.1.Den)) then
 (some true)
 else
 some (decide (r5.1.Num ≤ (w64 (sec * r5.1.Den)))))
 else
 some true) : Option Bool).bind fun (x3 : Bool) =>
 if x3 = true then
 (some false)
 else
 (impl_BeatsOf l).bind fun r16 =>
 ((if r16.2 = 0 then
 (some (decide ((w64 (r3.1 + 1)) ≥ r16.1)))
 else
 some true) : Option Bool).bind fun (x4 : Bool) =>
 if x4 = true then
 (some (decide (r16.2 = 0)))
 else
 (impl_TimeOfBeat l (w64 (r3.1 + 1))).bind fun r17 =>
 if r17.2 = 0 then
 (if r17.1.Den ≥ 1 then
 (if r17.1.Den ≤ 100000000 then
 (some (decide (r17.1.Num > (w64 (sec * r17.1.Den)))))
 else
 some false)
 else
 some false)
 else
 some false)
 else
 ((if r3.2 = 3 then
 (some (decide (r5.1.Num ≤ (w64 (sec * r5.1.Den)))))
 else
 some true) : Option Bool).bind fun (x5 : Bool) =>
 some x5) fun y => y = true := by
    by_cases h0 : r3.2 = 0
    · rw [if_pos h0]
      obtain ⟨hv, hn, hs, k, hk, p1, p2, p3⟩ := f3 h0
      obtain ⟨hu, hd⟩ := us_ok hv hn
      obtain ⟨g1, hR⟩ := f5 hv hn
      have hN := NB_bd hv
      have hw : ∀ {n : Int} {f : GFraction}, Red n (us l) f → w64 (sec * f.Den) = sec * f.Den ∧ 1 ≤ f.Den ∧ f.Den ≤ 100000000 := fun {n f} hf => by
        have h1 := hf.pos
        have h2 := hf.den_le hn
        have h3 : 0 ≤ sec * f.Den := Int.mul_nonneg hs.1 (by omega)
        have h4 : sec * f.Den ≤ 100000 * 100000000 := Int.mul_le_mul hs.2 (by omega) (by omega) (by omega)
        exact ⟨w64_id (by omega) (by omega), by omega, by omega⟩
      obtain ⟨f15, e15, R15⟩ := TimeOfBeat_eq hv hn p1
      obtain ⟨w15, a15, b15⟩ := hw R15
      obtain ⟨w5, _, _⟩ := hw hR
      have c15 : ¬ f15.Num > sec * f15.Den := fun hc => by have := (red_le R15 (by omega) sec).2 p2; omega
      have hlt : sec * us l < Tbt (us l) l (NB l) := by
        have := T_le hv hu hd (show k + 1 ≤ NB l by omega) (Nat.le_refl _); omega
      have c5 : ¬ r5.1.Num ≤ sec * r5.1.Den := fun hc => by have := (red_le hR (by omega) sec).1 hc; omega
      rw [hk, e15, Option.bind_some]
      simp only [if_true]
      rw [if_neg (by omega), if_neg (by omega), w15, if_neg c15, w5, decide_eq_false c5, Option.bind_some, if_neg (by decide)]
      have hbo : impl_BeatsOf l = some ((NB l : Int), 0) := by
        unfold impl_BeatsOf
        rw [ValidPiece_eq (by omega), Option.bind_some, if_pos hv, beatsOf_eq hv, Option.bind_some]
      rw [hbo, Option.bind_some]
      simp only [if_true]
      rw [w64_id (n := (k : Int) + 1) (by omega) (by omega), Option.bind_some]
      by_cases hlast : (k : Int) + 1 ≥ (NB l : Int)
      · rw [if_pos (decide_eq_true hlast)]
        exact wp_some rfl
      · rw [if_neg (by simpa using hlast), show (k : Int) + 1 = ((k + 1 : Nat) : Int) by omega]
        obtain ⟨f17, e17, R17⟩ := TimeOfBeat_eq hv hn (show k + 1 < NB l by omega)
        obtain ⟨w17, a17, b17⟩ := hw R17
        have c17 : f17.Num > sec * f17.Den := by
          rcases Int.lt_or_le (sec * f17.Den) f17.Num with h | h
          · exact h
          · have := (red_le R17 (by omega) sec).1 h; omega
        rw [e17, Option.bind_some]
        simp only [if_true]
        rw [if_pos a17, if_pos b17, w17, decide_eq_true c17]
        exact wp_some rfl
    · rw [if_neg h0]
      by_cases h3 : r3.2 = 3
      · obtain ⟨hv, hn, hs, hT⟩ := f3' h3
        obtain ⟨hu, hd⟩ := us_ok hv hn
        obtain ⟨g1, hR⟩ := f5 hv hn
        have h1 := hR.pos
        have h2 := hR.den_le hn
        have h4 : 0 ≤ sec * r5.1.Den := Int.mul_nonneg hs.1 (by omega)
        have h5 : sec * r5.1.Den ≤ 100000 * 100000000 := Int.mul_le_mul hs.2 (by omega) (by omega) (by omega)
        rw [if_pos h3, w64_id (by omega) (by omega), decide_eq_true ((red_le hR (by omega) sec).2 hT)]
        exact wp_some rfl
      · rw [if_neg h3]
        exact wp_some rfl
  refine wp_ite (fun h0 => ?_) (fun _ => wp_some last)
  obtain ⟨hv, hs, ht, hle⟩ := f8 h0
  obtain ⟨q1, q2, q3⟩ := one_part hv ht
  obtain ⟨r14, e14, _, f14⟩ := Length_eq (l := [GPart.mk p.Bars p.Beats r8.1]) (by simp)
  obtain ⟨g1, hR⟩ := f14 q1 (by rw [q2]; omega)
  rw [q2, q3] at hR
  have h1 := hR.pos
  have h2 := hR.den_le (by omega)
  have h3 : 0 ≤ ps * r14.1.Den := Int.mul_nonneg (by omega) (by omega)
  have h4 : ps * r14.1.Den ≤ 100000 * 300 := Int.mul_le_mul hs.2 (by omega) (by omega) (by omega)
  have h5 := (red_le hR (by omega) ps).2 hle
  rw [e14, Option.bind_some, if_pos g1, if_neg (by omega), if_neg (by omega), w64_id (by omega) (by omega), if_neg (by omega)]
  exact wp_some last
end Go.Vs.G

