/- Plain facts about the typed functions, up to the law: no program in sight. No conditions. -/
import Derived.Test.YtiefnapeghkjnaaV5
import Derived.Test.YtiefnapeghkjnaaDLLensFits
namespace Go.Vs
open Go

section
variable {α β S B R : Type}

open Classical in
/-- a loop that looks at each round for a reason to stop -/
theorem scan {body : Int → Option (Step Int Unit R)} {kb : Unit → Option β} {kr : R → Option β} {s n : Nat} {c : Nat → Bool} {r : R} (hs : s ≤ n) (hn : n < 9223372036854775807)
    (hb : ∀ i : Nat, s ≤ i → i < n → body (i : Int) = some (if c i = true then .next ((i : Int) + 1) else .ret r)) (he : body (n : Int) = some (.brk ())) :
    onL (loop body loopLim (s : Int)) kb kr = if ∀ i, s ≤ i → i < n → c i = true then kb () else kr r := by
  by_cases h : ∀ i, s ≤ i → i < n → c i = true
  · rw [if_pos h]
    have := loop_brk (body := body) (fun j => ((s + j : Nat) : Int)) (b := ()) (n - s) (by omega) (fun j hj => by
      rw [hb (s + j) (by omega) (by omega), if_pos (h _ (by omega) (by omega))]; congr 2) (by rw [show s + (n - s) = n by omega]; exact he)
    simp only [Nat.add_zero] at this
    rw [this]; rfl
  · rw [if_neg h]
    have hex : ∃ k, s ≤ k ∧ k < n ∧ c k = false := by
      refine Classical.byContradiction fun hc => h fun i h1 h2 => ?_
      cases hci : c i with
      | true => rfl
      | false => exact absurd ⟨i, h1, h2, hci⟩ hc
    -- the first of them
    have hleast : ∃ k, (s ≤ k ∧ k < n ∧ c k = false) ∧ ∀ j, s ≤ j → j < k → c j = true := by
      obtain ⟨k, hk⟩ := hex
      induction k using Nat.strongRecOn with
      | _ k ih =>
        by_cases hall : ∀ j, s ≤ j → j < k → c j = true
        · exact ⟨k, hk, hall⟩
        · have : ∃ j, s ≤ j ∧ j < k ∧ c j = false := by
            refine Classical.byContradiction fun hc => hall fun i h1 h2 => ?_
            cases hci : c i with
            | true => rfl
            | false => exact absurd ⟨i, h1, h2, hci⟩ hc
          obtain ⟨j, h1, h2, h3⟩ := this
          exact ih j h2 ⟨h1, by omega, h3⟩
    obtain ⟨k, ⟨h1, h2, h3⟩, h4⟩ := hleast
    have := loop_ret' (body := body) (fun j => ((s + j : Nat) : Int)) (r := r) (k - s) (by omega) (fun j hj => by
      rw [hb (s + j) (by omega) (by omega), if_pos (h4 _ (by omega) (by omega))]; congr 2) (by
      rw [show s + (k - s) = k by omega, hb k h1 h2, h3]; rfl)
    simp only [Nat.add_zero] at this
    rw [this]; rfl
theorem w64_succ {i n : Nat} (h : i < n) (hn : n < 9223372036854775807) : w64 ((i : Int) + 1) = (i : Int) + 1 := w64_id (by omega) (by omega)
theorem at_of {l : List α} {i : Nat} (h : i < l.length) : at? l (i : Int) = some l[i] := at_nat h
/-- comparisons element by element -/
theorem eqS {f : α → α → Option Bool} {c : α → α → Bool} (a b : List α) (hf : ∀ x, x ∈ a → ∀ y, y ∈ b → f x y = some (c x y)) (ha : a.length < 9223372036854775807) :
    (if (a.length : Int) = (b.length : Int) then (onL (loop (S := Int) (B := Unit) (R := Bool) (fun (i1 : Int) => if i1 < (a.length : Int) then
      ((at? a i1).bind fun v1 => (at? b i1).bind fun v2 => (f v1 v2).bind fun r1 => if r1 then (some (.next (w64 (i1 + 1)))) else some (.ret false)) else some (.brk ())) loopLim 0) (fun (_ : Unit) => some true) (fun r => some r)) else some false)
      = some (decide (a.length = b.length) && (List.zipWith c a b).all id) := by
  by_cases hl : a.length = b.length
  · rw [if_pos (by omega)]
    have := scan (body := fun (i1 : Int) => if i1 < (a.length : Int) then
      ((at? a i1).bind fun v1 => (at? b i1).bind fun v2 => (f v1 v2).bind fun r1 => if r1 then (some (.next (w64 (i1 + 1)))) else some (.ret false)) else some (.brk ()))
      (kb := fun (_ : Unit) => some true) (kr := fun r => some r) (s := 0) (n := a.length) (c := fun i => if h : i < a.length ∧ i < b.length then c a[i] b[i] else true) (r := false) (by omega) ha ?_ (by simp)
    · simp only [Int.natCast_zero] at this
      refine this.trans ?_
      split
      · rename_i h
        congr 1
        symm
        simp only [Bool.and_eq_true, decide_eq_true_eq, hl, true_and, List.all_eq_true, id]
        intro x hx
        obtain ⟨i, hi, rfl⟩ := List.getElem_of_mem hx
        simp only [List.length_zipWith] at hi
        have := h i (by omega) (by omega)
        simpa [show i < a.length ∧ i < b.length by omega] using this
      · rename_i h
        congr 1
        symm
        simp only [Bool.and_eq_false_iff]
        right
        refine Classical.byContradiction fun hc => h fun i _ hi => ?_
        have hall : (List.zipWith c a b).all id = true := by simpa using hc
        rw [List.all_eq_true] at hall
        have hi2 : i < a.length ∧ i < b.length := ⟨hi, by omega⟩
        have := hall (c a[i] b[i]) (by
          rw [List.mem_iff_getElem]
          exact ⟨i, by simp; omega, by simp⟩)
        simpa [hi2] using this
    · intro i _ hi
      have hib : i < b.length := by omega
      have h1 : (i : Int) < (a.length : Int) := by omega
      simp only [h1, if_true, at_of hi, at_of hib, Option.bind_some, hf _ (List.getElem_mem hi) _ (List.getElem_mem hib), hi, hib, and_self, dite_true]
      split
      · rw [w64_id (by omega) (by omega)]
      · rfl
  · rw [if_neg (by omega)]
    simp [hl]
theorem zip_eq [DecidableEq α] {c : α → α → Bool} (hc : ∀ x y, c x y = decide (x = y)) : ∀ (a b : List α), (decide (a.length = b.length) && (List.zipWith c a b).all id) = decide (a = b)
  | [], [] => by simp
  | [], _ :: _ => by simp
  | _ :: _, [] => by simp
  | x :: a, y :: b => by
    have ih := zip_eq hc a b
    simp only [List.length_cons, Nat.add_right_cancel_iff, List.zipWith_cons_cons, List.all_cons, id, List.cons.injEq, hc] at ih ⊢
    by_cases hxy : x = y
    · simp [hxy, ih]
    · simp [hxy]
end
/-- the same with a proposition for a test -/
theorem eqSp {α : Type} [DecidableEq α] (a b : List α) (ha : a.length < 9223372036854775807) :
    (if (a.length : Int) = (b.length : Int) then (onL (loop (S := Int) (B := Unit) (R := Bool) (fun (i1 : Int) => if i1 < (a.length : Int) then
      ((at? a i1).bind fun v1 => (at? b i1).bind fun v2 => if v1 = v2 then (some (.next (w64 (i1 + 1)))) else some (.ret false)) else some (.brk ())) loopLim 0) (fun (_ : Unit) => some true) (fun r => some r)) else some false)
      = some (decide (a = b)) := by
  rw [← zip_eq (c := fun x y => decide (x = y)) (fun _ _ => rfl), ← eqS (f := fun x y => some (decide (x = y))) (c := fun x y => decide (x = y)) a b (fun _ _ _ _ => rfl) ha]
  congr 3
  funext i
  split
  · congr 1; funext v1; congr 1; funext v2
    simp only [Option.bind_some, decide_eq_true_eq]
  · rfl
end Go.Vs

namespace Go.Vs.G
open Go Go.Vs

/-- a source that can still be asked; B bounds the place that it has come to -/
structure SrcOk (B : Int) (s : GL00Src) : Prop where
  bytes : ∀ x, x ∈ s.code → 0 ≤ x ∧ x ≤ 255
  len : s.code.length ≤ 1000000
  at0 : 0 ≤ s.at_
  atB : s.at_ ≤ B
theorem SrcOk.mono {B B' : Int} {s : GL00Src} (h : SrcOk B s) (hB : B ≤ B') : SrcOk B' s := ⟨h.bytes, h.len, h.at0, Int.le_trans h.atB hB⟩
theorem srcOk_from {code : List Int} (h : okL (okI .u8) code) (hl : code.length ≤ 1000000) : SrcOk 0 (GL00Src.mk code 0 0) :=
  ⟨fun x hx => okU8 (h.2 x hx), hl, by simp, by simp⟩
theorem shr40 (n : Int) : shr? .u64 n 40 = some (n.fdiv (2 ^ 40)) := by
  simp [shr?, IntKind.bits]
theorem and255 (n : Int) : 0 ≤ bit_and .u64 n 255 ∧ bit_and .u64 n 255 ≤ 255 := by
  unfold bit_and
  rw [wu64_def]
  have h : (BitVec.ofInt IntKind.u64.bits n &&& BitVec.ofInt IntKind.u64.bits 255).toNat ≤ 255 := by
    rw [BitVec.toNat_and]
    exact Nat.le_trans Nat.and_le_right (by decide)
  omega
theorem next_ok {B : Int} {s : GL00Src} (h : SrcOk B s) (hB : B ≤ 4611686018427387904) : ∃ v s', spec_l00Src_next s = some (v, s') ∧ 0 ≤ v ∧ v ≤ 255 ∧ SrcOk (B + 1) s' := by
  have h1 := h.at0
  have h2 := h.atB
  have h3 := h.len
  have hat : w64 (s.at_ + 1) = s.at_ + 1 := w64_id (by omega) (by omega)
  have hb : ∃ b, (if s.at_ < (s.code.length : Int) then ((at? s.code s.at_).bind fun v1 => some (w64 v1)) else some 0) = some b ∧ 0 ≤ b ∧ b ≤ 255 := by
    split
    · rename_i hlt
      rw [at_ok h1 (by omega), Option.bind_some]
      obtain ⟨g1, g2⟩ := h.bytes s.code[s.at_.toNat] (List.getElem_mem (by omega))
      exact ⟨_, rfl, by rw [w64_id (by omega) (by omega)]; omega, by rw [w64_id (by omega) (by omega)]; omega⟩
    · exact ⟨0, rfl, by omega, by omega⟩
  obtain ⟨b, hb, b0, b1⟩ := hb
  unfold spec_l00Src_next
  rw [hb, Option.bind_some, hat]
  split
  · exact ⟨_, _, rfl, b0, b1, ⟨h.bytes, h.len, by simp only; omega, by simp only; omega⟩⟩
  · rw [shr40, Option.bind_some]
    have := and255 ((IntKind.wrap .u64 ((IntKind.wrap .u64 ((IntKind.wrap .u64 (s.seed * 6364136223846793005)) + (IntKind.wrap .u64 b))) + 1442695040888963407)).fdiv (2 ^ 40))
    exact ⟨_, _, rfl, by rw [w64_id (by omega) (by omega)]; omega, by rw [w64_id (by omega) (by omega)]; omega, ⟨h.bytes, h.len, by simp only; omega, by simp only; omega⟩⟩
theorem pick_ok {B : Int} {s : GL00Src} (h : SrcOk B s) (hB : B ≤ 4611686018427387000) (n : Int) : ∃ v s', spec_l00Src_pick s n = some (v, s') ∧ 0 ≤ v ∧ (v = 0 ∨ v < n) ∧ SrcOk (B + 2) s' := by
  unfold spec_l00Src_pick
  by_cases hn : n ≤ 1
  · rw [if_pos hn]; exact ⟨0, s, rfl, by omega, .inl rfl, h.mono (by omega)⟩
  · rw [if_neg hn]
    obtain ⟨v, s1, e1, v0, v1, k1⟩ := next_ok h (by omega)
    rw [e1, Option.bind_some]
    by_cases h2 : n > 200
    · rw [if_pos h2]
      obtain ⟨u, s2, e2, u0, u1, k2⟩ := next_ok k1 (by omega)
      simp only
      rw [e2, Option.bind_some, mod_ok (by omega), Option.bind_some, w64_id (n := v * 256) (by omega) (by omega), w64_id (by simp only; omega) (by simp only; omega)]
      have e : (v * 256 + u).tmod n = (v * 256 + u) % n := Int.tmod_eq_emod_of_nonneg (by omega)
      refine ⟨_, _, rfl, ?_, ?_, by rw [show B + 2 = B + 1 + 1 by omega]; exact k2⟩
      · simp only [e]; exact Int.emod_nonneg _ (by omega)
      · simp only [e]; right; exact Int.emod_lt_of_pos _ (by omega)
    · rw [if_neg h2, mod_ok (by omega), Option.bind_some]
      simp only
      have e : v.tmod n = v % n := Int.tmod_eq_emod_of_nonneg (by omega)
      refine ⟨_, _, rfl, ?_, ?_, k1.mono (by omega)⟩
      · rw [e]; exact Int.emod_nonneg _ (by omega)
      · rw [e]; right; exact Int.emod_lt_of_pos _ (by omega)
/-- one of some numbers -/
theorem among_ok {B : Int} {s : GL00Src} (h : SrcOk B s) (hB : B ≤ 4611686018427387000) {l : List Int} (hl : 1 ≤ l.length) (hl2 : l.length ≤ 1000) : ∃ v s', spec_l00Src_among s l = some (v, s') ∧ v ∈ l ∧ SrcOk (B + 2) s' := by
  unfold spec_l00Src_among
  obtain ⟨v, s1, e1, v0, v1, k1⟩ := pick_ok h hB (l.length : Int)
  rw [e1, Option.bind_some]
  simp only
  rw [at_ok v0 (by omega), Option.bind_some]
  exact ⟨_, _, rfl, List.getElem_mem _, k1⟩
end Go.Vs.G

namespace Go.Vs.G
open Go Go.Vs

/-- f is n / d in lowest terms -/
structure Red (n d : Int) (f : GFraction) : Prop where
  pos : 0 < f.Den
  cop : Int.gcd f.Num f.Den = 1
  eq : f.Num * d = n * f.Den
theorem dvd_of_cop {a b c : Int} (h : Int.gcd a b = 1) (hd : b ∣ a * c) : b ∣ c := by
  rw [← Int.natAbs_dvd_natAbs] at hd ⊢
  rw [Int.natAbs_mul] at hd
  have : Nat.Coprime b.natAbs a.natAbs := by rw [Nat.coprime_comm]; exact h
  exact this.dvd_of_dvd_mul_left hd
theorem Red.unique {f g : GFraction} (hf : 0 < f.Den) (hg : 0 < g.Den) (cf : Int.gcd f.Num f.Den = 1) (cg : Int.gcd g.Num g.Den = 1) (h : f.Num * g.Den = g.Num * f.Den) : f = g := by
  have h1 : f.Den ∣ g.Den := dvd_of_cop cf ⟨g.Num, by rw [h, Int.mul_comm]⟩
  have h2 : g.Den ∣ f.Den := dvd_of_cop cg ⟨f.Num, by rw [← h, Int.mul_comm]⟩
  have hd : f.Den = g.Den := Int.le_antisymm (Int.le_of_dvd hg h1) (Int.le_of_dvd hf h2)
  have hn : f.Num = g.Num := by
    rw [hd] at h
    exact Int.eq_of_mul_eq_mul_right (by omega) h
  cases f; cases g
  simp_all
end Go.Vs.G

namespace Go.Vs.G
open Go Go.Vs

theorem Red.same {n d : Int} {f g : GFraction} (hf : Red n d f) (hg : Red n d g) (hd : d ≠ 0) : f = g := by
  refine Red.unique hf.pos hg.pos hf.cop hg.cop ?_
  have e1 := hf.eq
  have e2 := hg.eq
  refine Int.eq_of_mul_eq_mul_left (a := d) hd ?_
  calc d * (f.Num * g.Den) = (f.Num * d) * g.Den := by simp only [Int.mul_assoc, Int.mul_comm, Int.mul_left_comm]
    _ = (g.Num * d) * f.Den := by rw [e1, e2]; simp only [Int.mul_assoc, Int.mul_comm, Int.mul_left_comm]
    _ = d * (g.Num * f.Den) := by simp only [Int.mul_assoc, Int.mul_comm, Int.mul_left_comm]
/- counting -/
/- the same on both sides -/
/- draws -/
theorem one_ok {B : Int} {s : GL00Src} (h : SrcOk B s) (hB : B ≤ 4611686018427387000) (n : Int) : ∃ v s', spec_l00Src_one s n = some (v, s') ∧ SrcOk (B + 2) s' := by
  unfold spec_l00Src_one
  obtain ⟨v, s1, e1, _, _, k1⟩ := pick_ok h hB n
  rw [e1]; exact ⟨_, _, rfl, k1⟩
end Go.Vs.G

namespace Go.Vs
open Go

section
variable {α β γ R : Type}

/-- a list of which all fit, asked by a loop -/
theorem allS {f : α → Option Bool} (c : α → Bool) (l : List α) (hf : ∀ x, x ∈ l → f x = some (c x)) (hl : l.length < 9223372036854775807) {r : R}
    {body : Int → Option (Step Int Unit R)} {kb : Unit → Option γ} {kr : R → Option γ}
    (hb : ∀ (i : Int), body i = if i < (l.length : Int) then ((at? l i).bind fun v => (f v).bind fun q => if q = true then some (.next (w64 (i + 1))) else some (.ret r)) else some (.brk ())) :
    onL (loop body loopLim 0) kb kr = if ∀ x, x ∈ l → c x = true then kb () else kr r := by
  have := scan (body := body) (kb := kb) (kr := kr) (s := 0) (n := l.length) (c := fun i => if h : i < l.length then c l[i] else true) (r := r) (by omega) hl (fun i _ hi => by
    rw [hb, if_pos (by omega), at_of hi, Option.bind_some, hf _ (List.getElem_mem hi), Option.bind_some, w64_id (by omega) (by omega)]
    simp only [hi, dif_pos]
    cases c l[i] <;> rfl) (by rw [hb, if_neg (by omega)])
  simp only [Int.natCast_zero] at this
  rw [this]
  have e : (∀ i, 0 ≤ i → i < l.length → (if h : i < l.length then c l[i] else true) = true) ↔ ∀ x, x ∈ l → c x = true := by
    constructor
    · intro h x hx
      obtain ⟨i, hi, rfl⟩ := List.getElem_of_mem hx
      have := h i (by omega) hi
      simpa [hi] using this
    · intro h i _ hi
      simp [hi, h _ (List.getElem_mem hi)]
  split
  · rename_i h; rw [if_pos (e.1 h)]
  · rename_i h; rw [if_neg (fun h2 => h (e.2 h2))]
/-- the library's IndexFunc -/
theorem idxFS {f : α → Option Bool} (c : α → Bool) (l : List α) (hf : ∀ x, x ∈ l → f x = some (c x)) (hl : l.length < 9223372036854775807)
    {body : Int → Option (Step Int Unit Int)}
    (hb : ∀ (i : Int), body i = if i < (l.length : Int) then ((at? l i).bind fun v => (f v).bind fun r => if r = true then some (.ret i) else some (.next (w64 (i + 1)))) else some (.brk ())) :
    wp (onL (loop body loopLim 0) (fun (_ : Unit) => some (-1 : Int)) (fun r => some r)) fun r => (r = -1 ∧ l.any c = false) ∨ (∃ k : Nat, r = (k : Int) ∧ ∃ h : k < l.length, c l[k] = true ∧ (∀ j (h2 : j < k), c (l[j]'(by omega)) = false) ∧ l.any c = true) := by
  refine wp_loop (fun t : Int => ∃ k : Nat, t = (k : Int) ∧ k ≤ l.length ∧ ∀ j (h2 : j < k) (h3 : j < l.length), c l[j] = false) (fun t => (l.length - t).toNat) ⟨0, rfl, by omega, fun j hj => by omega⟩ (by omega) ?_
  rintro i ⟨k, rfl, hk, hall⟩
  rw [hb]
  refine wp_ite (fun h => ?_) (fun h => ?_)
  · have hk2 : k < l.length := by omega
    rw [at_of hk2, Option.bind_some, hf _ (List.getElem_mem hk2), Option.bind_some]
    refine wp_ite (fun h3 => ?_) (fun h3 => ?_)
    · exact wp_some (wp_some (.inr ⟨k, rfl, hk2, h3, fun j hj => hall j hj (by omega), List.any_eq_true.2 ⟨_, List.getElem_mem hk2, h3⟩⟩))
    · rw [w64_succ hk2 (by omega)]
      refine wp_some ⟨⟨k + 1, rfl, by omega, fun j hj hj2 => ?_⟩, by omega⟩
      rcases Nat.lt_or_ge j k with h4 | h4
      · exact hall j h4 hj2
      · obtain rfl : j = k := by omega
        simpa using h3
  · obtain rfl : k = l.length := by omega
    refine wp_some (wp_some (.inl ⟨rfl, ?_⟩))
    refine Bool.eq_false_iff.2 fun hc => ?_
    obtain ⟨x, hx, hx2⟩ := List.any_eq_true.1 hc
    obtain ⟨j, hj, rfl⟩ := List.getElem_of_mem hx
    rw [hall j hj hj] at hx2
    cases hx2
/-- the library's ContainsFunc -/
theorem contS {f : α → Option Bool} (c : α → Bool) (l : List α) (hf : ∀ x, x ∈ l → f x = some (c x)) (hl : l.length < 9223372036854775807)
    {body : Int → Option (Step Int Unit Int)}
    (hb : ∀ (i : Int), body i = if i < (l.length : Int) then ((at? l i).bind fun v => (f v).bind fun r => if r = true then some (.ret i) else some (.next (w64 (i + 1)))) else some (.brk ())) :
    ((onL (loop body loopLim 0) (fun (_ : Unit) => some (-1 : Int)) (fun r => some r)).bind fun r => some (decide (r ≥ 0))) = some (l.any c) := by
  obtain ⟨r, h1, h2⟩ := idxFS c l hf hl hb
  rw [h1, Option.bind_some]
  rcases h2 with ⟨rfl, h⟩ | ⟨k, rfl, _, _, _, h⟩
  · rw [h]; rfl
  · rw [h, decide_eq_true (by omega)]
/-- a loop whose state at each round is told -/
theorem wp_cnt {S B : Type} {Q : γ → Prop} {body : S → Option (Step S B R)} {kb : B → Option γ} {kr : R → Option γ} {s0 : S} (st : Nat → S) (n : Nat) (h0 : s0 = st 0) (hn : n < 18446744073709551616)
    (hs : ∀ k, k < n → body (st k) = some (.next (st (k + 1)))) {b : B} (he : body (st n) = some (.brk b)) (hq : wp (kb b) Q) : wp (onL (loop body loopLim s0) kb kr) Q := by
  rw [h0, loop_brk st n hn hs he]; exact hq
/-- the numbers below n that fit -/
def sl (c : Nat → Bool) : Nat → List Int
  | 0 => []
  | k + 1 => if c k = true then sl c k ++ [(k : Int)] else sl c k
theorem sl_len (c : Nat → Bool) : ∀ k, (sl c k).length ≤ k
  | 0 => by simp [sl]
  | k + 1 => by have := sl_len c k; rw [sl]; split <;> simp <;> omega
end
end Go.Vs

namespace Go.Vs
theorem wp_seq {α β : Type} {A : Option β} {k : β → Option α} {P : β → Prop} {Q : α → Prop} (h : wp A P) (hk : ∀ x, P x → wp (k x) Q) : wp (A.bind k) Q := by
  obtain ⟨x, rfl, hx⟩ := h; exact hk x hx
end Go.Vs
namespace Go.Vs.G
open Go Go.Vs

section
variable {α : Type} {Q : α → Prop} {B : Int} {s : GL00Src}
theorem wp_pick {n : Int} {k : Int × GL00Src → Option α} (h : SrcOk B s) (hB : B ≤ 4611686018427387000) (hk : ∀ v s', 0 ≤ v → (v = 0 ∨ v < n) → SrcOk (B + 2) s' → wp (k (v, s')) Q) : wp ((spec_l00Src_pick s n).bind k) Q := by
  obtain ⟨v, s', e, h0, h1, h2⟩ := pick_ok h hB n
  rw [e]; exact hk v s' h0 h1 h2
theorem wp_one {n : Int} {k : Bool × GL00Src → Option α} (h : SrcOk B s) (hB : B ≤ 4611686018427387000) (hk : ∀ v s', SrcOk (B + 2) s' → wp (k (v, s')) Q) : wp ((spec_l00Src_one s n).bind k) Q := by
  obtain ⟨v, s', e, h2⟩ := one_ok h hB n
  rw [e]; exact hk v s' h2
theorem wp_among {l : List Int} {k : Int × GL00Src → Option α} (h : SrcOk B s) (hB : B ≤ 4611686018427387000) (hl : 1 ≤ l.length) (hl2 : l.length ≤ 1000) (hk : ∀ v s', v ∈ l → SrcOk (B + 2) s' → wp (k (v, s')) Q) : wp ((spec_l00Src_among s l).bind k) Q := by
  obtain ⟨v, s', e, h1, h2⟩ := among_ok h hB hl hl2
  rw [e]; exact hk v s' h1 h2
theorem wp_from {code : List Int} {k : GL00Src → Option α} (h : okL (okI .u8) code) (hl : code.length ≤ 1000000) (hk : ∀ s, SrcOk 0 s → wp (k s) Q) : wp ((spec_l00From code).bind k) Q := hk _ (srcOk_from h hl)
theorem wp_bif {b : Bool} {A A' : Option α} (h1 : b = true → wp A Q) (h2 : b = false → wp A' Q) : wp (if b = true then A else A') Q := by
  cases b
  · exact h2 rfl
  · exact h1 rfl
end
end Go.Vs.G

namespace Go.Vs
open Go
section
variable {α : Type} [Inhabited α]
end
end Go.Vs
namespace Go.Vs.G
open Go Go.Vs
def vpt (p : GPoint) : Bool := decide (0 ≤ p.X ∧ p.X ≤ 1000) && decide (0 ≤ p.Y ∧ p.Y ≤ 1000)
def vps (j : List GPoint) : Bool := decide (1 ≤ j.length ∧ j.length ≤ 8) && j.all vpt
/- what lies between -/
section
variable {a b : List GPoint} (ha : vps a = true) (hb : vps b = true) (hl : a.length = b.length) {p n : Int} (hp : 0 ≤ p ∧ p ≤ n) (hn : 1 ≤ n ∧ n ≤ 10000)
include ha hb hl hp hn
end
end Go.Vs.G

namespace Go.Vs
open Go
section
variable {α : Type} [Inhabited α]
def gz (l : List α) (i : Nat) : α := l.getD i default
theorem gz_of {l : List α} {i : Nat} (h : i < l.length) : gz l i = l[i] := by unfold gz; simp [h]
theorem at_gz {l : List α} {i : Nat} (h : i < l.length) : at? l (i : Int) = some (gz l i) := by rw [at_of h, gz_of h]
theorem gz_mem {l : List α} {i : Nat} (h : i < l.length) : gz l i ∈ l := by rw [gz_of h]; exact List.getElem_mem h
end
section
variable {R γ : Type}
/-- a loop that gathers the numbers that fit -/
theorem selS {body : List Int × Int → Option (Step (List Int × Int) (List Int) R)} {kb : List Int → Option γ} {kr : R → Option γ} (c : Nat → Bool) (n : Nat) (hn : n ≤ 1000000)
    (hb : ∀ (k : Nat) (out : List Int), k < n → out.length ≤ 1000000 → body (out, (k : Int)) = some (.next (if c k = true then out ++ [(k : Int)] else out, (k : Int) + 1))) (he : ∀ out, body (out, (n : Int)) = some (.brk out)) :
    onL (loop body loopLim ([], 0)) kb kr = kb (sl c n) := by
  have := loop_brk (body := body) (fun k : Nat => (sl c k, (k : Int))) (b := sl c n) n (by omega) (fun k hk => by
    rw [hb k _ hk (Nat.le_trans (sl_len c k) (by omega)), sl]; rfl) (he _)
  simp only [sl, Int.natCast_zero] at this
  rw [this]; rfl
theorem sl_in {c : Nat → Bool} {i : Nat} : ∀ {k : Nat}, i < k → decide ((i : Int) ∈ sl c k) = c i
  | k + 1, h => by
    rw [sl]
    have hn : ∀ m, m ≤ i → (i : Int) ∉ sl c m := by
      intro m
      induction m with
      | zero => intro _; simp [sl]
      | succ m ih =>
        intro hm
        rw [sl]
        split
        · simp only [List.mem_append, List.mem_singleton, not_or]
          exact ⟨ih (by omega), by omega⟩
        · exact ih (by omega)
    rcases Nat.lt_or_ge i k with h1 | h1
    · have ih := sl_in (c := c) h1
      split
      · rw [← ih]
        refine decide_eq_decide.2 ?_
        simp only [List.mem_append, List.mem_singleton]
        exact ⟨fun h => h.elim id fun h => by omega, .inl⟩
      · exact ih
    · obtain rfl : i = k := by omega
      split
      · rename_i hc
        rw [hc]
        exact decide_eq_true (by simp)
      · rename_i hc
        rw [decide_eq_false (hn i (Nat.le_refl _))]
        cases h9 : c i with
        | false => rfl
        | true => exact absurd h9 hc
end
end Go.Vs
namespace Go.Vs.G
open Go Go.Vs
theorem withinZ (n a b : Int) : impl_within n a b = some (decide (a ≤ n ∧ n ≤ b)) := by
  unfold impl_within
  by_cases h : n ≥ a
  · rw [if_pos h]; exact congrArg some (decide_eq_decide.2 (by omega))
  · rw [if_neg h, decide_eq_false (by omega)]
theorem l00InZ (n a b : Int) : spec_l00In n a b = some (decide (a ≤ n ∧ n ≤ b)) := by
  unfold spec_l00In
  by_cases h : n ≥ a
  · rw [if_pos h]; exact congrArg some (decide_eq_decide.2 (by omega))
  · rw [if_neg h, decide_eq_false (by omega)]
theorem f6hasF {l : List Int} {n : Int} (hl : l.length ≤ 1000000) : laws_f6has l n = some (decide (n ∈ l)) := by
  unfold laws_f6has
  have := scan (β := Bool) (body := fun (i1 : Int) => if i1 < (l.length : Int) then ((at? l i1).bind fun v1 => if v1 = n then (some (Step.ret true)) else some (.next (w64 (i1 + 1)))) else some (.brk ()))
    (kb := fun _ => some false) (kr := fun r => some r) (s := 0) (n := l.length) (c := fun i => if h : i < l.length then !decide (l[i] = n) else true) (r := true) (by omega) (by omega) (fun i _ hi => by
      rw [if_pos (by omega), at_of hi, Option.bind_some, w64_id (by omega) (by omega)]
      simp only [hi, dif_pos]
      by_cases hc : l[i] = n
      · simp [hc]
      · simp [hc]) (by rw [if_neg (by omega)])
  simp only [Int.natCast_zero] at this
  rw [this]
  by_cases hm : n ∈ l
  · rw [decide_eq_true hm, if_neg]
    intro hall
    obtain ⟨i, hi, he⟩ := List.getElem_of_mem hm
    have := hall i (by omega) hi
    simp [hi, he] at this
  · rw [decide_eq_false hm, if_pos]
    intro i _ hi
    simp only [hi, dif_pos]
    have : l[i] ≠ n := fun e => hm (e ▸ List.getElem_mem hi)
    simp [this]
theorem f6intsT (a b : List Int) (ha : a.length < 9223372036854775807) : laws_f6ints a b = some (decide (a = b)) := by
  unfold laws_f6ints; exact eqSp a b ha
/- halls -/
def vh (h : GLensHall) : Bool := decide (1 ≤ h.Throw ∧ h.Throw ≤ 100000 ∧ 1 ≤ h.Least ∧ h.Least ≤ h.Widest ∧ h.Widest ≤ 100000)
theorem validHall_eq (h : GLensHall) : impl_validHall h = some (vh h) := by
  unfold impl_validHall impl_isThrow vh
  rw [withinZ, Option.bind_some, Option.bind_some]
  by_cases h1 : 1 ≤ h.Throw ∧ h.Throw ≤ 100000
  · rw [if_pos (decide_eq_true h1)]
    by_cases h2 : 1 ≤ h.Least
    · rw [if_pos h2]
      by_cases h3 : h.Least ≤ h.Widest
      · rw [if_pos h3]; exact congrArg some (decide_eq_decide.2 (by omega))
      · rw [if_neg h3, decide_eq_false (by omega)]
    · rw [if_neg h2, decide_eq_false (by omega)]
  · rw [if_neg (by simpa using h1), decide_eq_false (by omega)]
theorem l11One_eq (h : GLensHall) : spec_l11One h = some (vh h) := by
  unfold spec_l11One vh
  rw [l00InZ, Option.bind_some, l00InZ, Option.bind_some, l00InZ, Option.bind_some]
  by_cases h1 : 1 ≤ h.Throw ∧ h.Throw ≤ 100000
  · rw [if_pos (decide_eq_true h1)]
    by_cases h2 : 1 ≤ h.Least ∧ h.Least ≤ 100000
    · rw [if_pos (decide_eq_true h2)]
      exact congrArg some (decide_eq_decide.2 (by omega))
    · rw [if_neg (by simpa using h2), decide_eq_false (by omega)]
  · rw [if_neg (by simpa using h1), decide_eq_false (by omega)]
def vf1 (f : Int) : Bool := decide (1 ≤ f ∧ f ≤ 2000)
def vsl (s : Int) : Bool := decide (1 ≤ s ∧ s ≤ 200)
theorem isFocalT (f : Int) : impl_isFocal f = some (vf1 f) := by unfold impl_isFocal vf1; rw [withinZ, Option.bind_some]
theorem l11Focal_eq (f : Int) : spec_l11Focal f = some (vf1 f) := by unfold spec_l11Focal vf1; rw [l00InZ, Option.bind_some]
theorem l11Slide_eq (f : Int) : spec_l11Slide f = some (vsl f) := by unfold spec_l11Slide vsl; rw [l00InZ, Option.bind_some]
def vst (l : List Int) : Bool := decide (l.length ≤ 12) && l.all vf1
theorem lensesOk_eq {l : List Int} (hl : l.length ≤ 1000000) : impl_lensesOk l 12 = some (vst l) := by
  unfold impl_lensesOk vst
  have hcf : slices_ContainsFunc_int64_int64_796 l (fun a0 => impl_lensesOk_1 a0) = some (l.any fun p => !vf1 p) := by
    unfold slices_ContainsFunc_int64_int64_796 slices_IndexFunc_int64_int64_818
    refine contS (fun p => !vf1 p) l (fun p hp => ?_) (by omega) (fun _ => rfl)
    unfold impl_lensesOk_1
    rw [isFocalT, Option.bind_some]
  rw [hcf, Option.bind_some]
  have e : (!l.any fun p => !vf1 p) = l.all vf1 := by rw [List.not_any_eq_all_not]; simp
  rw [e]
  by_cases h1 : l.length ≤ 12
  · rw [if_pos (by omega), decide_eq_true h1, Bool.true_and]
  · rw [if_neg (by omega), decide_eq_false h1, Bool.false_and]
theorem l11Stock_eq {l : List Int} (hl : l.length ≤ 1000000) : spec_l11Stock l = some (vst l) := by
  unfold spec_l11Stock
  rw [allS vf1 l (f := fun x => some (vf1 x)) (fun _ _ => rfl) (by omega) (r := false)]
  · unfold vst
    by_cases h : ∀ x, x ∈ l → vf1 x = true
    · rw [if_pos h, List.all_eq_true.2 h, Bool.and_true]; exact congrArg some (decide_eq_decide.2 (by omega))
    · rw [if_neg h]
      have : (l.all vf1) = false := by rw [Bool.eq_false_iff]; exact fun hc => h (List.all_eq_true.1 hc)
      rw [this, Bool.and_false]
  · intro i
    by_cases hi : i < (l.length : Int)
    · rw [if_pos hi, if_pos hi]
      cases ha : at? l i with
      | none => rfl
      | some v => simp only [Option.bind_some, l11Focal_eq]
    · rw [if_neg hi, if_neg hi]
def vhs (l : List GLensHall) : Bool := decide (l.length ≤ 8) && l.all vh
theorem ValidLensHalls_eq {l : List GLensHall} (hl : l.length ≤ 1000000) : impl_ValidLensHalls l = some (vhs l) := by
  unfold impl_ValidLensHalls vhs
  have hcf : slices_ContainsFunc_impl_LensHall_impl_LensHall_802 l (fun a0 => impl_ValidLensHalls_1 a0) = some (l.any fun p => !vh p) := by
    unfold slices_ContainsFunc_impl_LensHall_impl_LensHall_802 slices_IndexFunc_impl_LensHall_impl_LensHall_824
    refine contS (fun p => !vh p) l (fun p hp => ?_) (by omega) (fun _ => rfl)
    unfold impl_ValidLensHalls_1
    rw [validHall_eq, Option.bind_some]
  rw [hcf, Option.bind_some]
  have e : (!l.any fun p => !vh p) = l.all vh := by rw [List.not_any_eq_all_not]; simp
  rw [e]
  by_cases h1 : l.length ≤ 8
  · rw [if_pos (by omega), decide_eq_true h1, Bool.true_and]
  · rw [if_neg (by omega), decide_eq_false h1, Bool.false_and]
theorem l11Ok_eq {l : List GLensHall} (hl : l.length ≤ 1000000) : spec_l11Ok l = some (vhs l) := by
  unfold spec_l11Ok
  rw [allS vh l (f := fun x => some (vh x)) (fun _ _ => rfl) (by omega) (r := false)]
  · unfold vhs
    by_cases h : ∀ x, x ∈ l → vh x = true
    · rw [if_pos h, List.all_eq_true.2 h, Bool.and_true]; exact congrArg some (decide_eq_decide.2 (by omega))
    · rw [if_neg h]
      have : (l.all vh) = false := by rw [Bool.eq_false_iff]; exact fun hc => h (List.all_eq_true.1 hc)
      rw [this, Bool.and_false]
  · intro i
    by_cases hi : i < (l.length : Int)
    · rw [if_pos hi, if_pos hi]
      cases ha : at? l i with
      | none => rfl
      | some v => simp only [Option.bind_some, l11One_eq]
    · rw [if_neg hi, if_neg hi]
theorem hallsCode_eq (v : Bool) (s f : Int) {l : List Int} (hl : l.length ≤ 1000000) : impl_hallsCode v s f l = some (if v = true then (if (vsl s && vf1 f && vst l) = true then 0 else 2) else 1) := by
  unfold impl_hallsCode
  cases v with
  | false => rfl
  | true =>
    simp only [if_true]
    rw [withinZ, isFocalT, lensesOk_eq hl, Option.bind_some]
    have e : decide (1 ≤ s ∧ s ≤ 200) = vsl s := rfl
    rw [e]
    cases vsl s <;> cases vf1 f <;> cases vst l <;> rfl
theorem vst_nil : vst [] = true := rfl
/- what suits -/
theorem l11Suits_fn : spec_l11Suits = impl_suits := rfl
def sut (h : GLensHall) (s f : Int) : Bool := (impl_suits h s f).getD false
theorem suits_eq (h : GLensHall) (s f : Int) : impl_suits h s f = some (sut h s f) := by
  unfold sut impl_suits
  split <;> rfl
theorem SuitsHall_eq (h : GLensHall) (s f : Int) : impl_SuitsHall h s f = some (if vh h = true then (if (vsl s && vf1 f) = true then (sut h s f, 0) else (false, 2)) else (false, 1)) := by
  unfold impl_SuitsHall
  rw [validHall_eq, Option.bind_some, hallsCode_eq _ _ _ (by simp), Option.bind_some, vst_nil, Bool.and_true, suits_eq, Option.bind_some]
  cases vh h <;> cases (vsl s && vf1 f) <;> rfl
theorem SuitsHall_spec (h : GLensHall) (s f : Int) : spec_SuitsHall h s f = some (if vh h = true then (if (vsl s && vf1 f) = true then (sut h s f, 0) else (false, 2)) else (false, 1)) := by
  unfold spec_SuitsHall
  rw [l11One_eq, Option.bind_some, l11Slide_eq, l11Focal_eq, l11Suits_fn, suits_eq, Option.bind_some, Option.bind_some, Option.bind_some]
  cases vh h <;> cases vsl s <;> cases vf1 f <;> rfl
/- the range -/
def fr (h : GLensHall) (s : Int) : Nat → Int × Int
  | 0 => (0, 0)
  | k + 1 => if sut h s ((k : Int) + 1) = true then (if (fr h s k).1 = 0 then ((k : Int) + 1, (k : Int) + 1) else ((fr h s k).1, (k : Int) + 1)) else fr h s k
theorem fr_spec (h : GLensHall) (s : Int) : ∀ k : Nat, (0 ≤ (fr h s k).1 ∧ (fr h s k).1 ≤ k) ∧ ∀ f : Int, 1 ≤ f → f ≤ k → sut h s f = true → 1 ≤ (fr h s k).1 ∧ (fr h s k).1 ≤ f ∧ f ≤ (fr h s k).2
  | 0 => by simp only [fr]; exact ⟨⟨by omega, by omega⟩, fun f h1 h2 => by omega⟩
  | k + 1 => by
    obtain ⟨⟨h1, h2⟩, h3⟩ := fr_spec h s k
    rw [fr]
    by_cases hc : sut h s ((k : Int) + 1) = true
    · rw [if_pos hc]
      by_cases h0 : (fr h s k).1 = 0
      · rw [if_pos h0]
        refine ⟨⟨by simp only; omega, by simp only; omega⟩, fun f f1 f2 f3 => ?_⟩
        by_cases hf : f = (k : Int) + 1
        · subst hf; exact ⟨by simp only; omega, by simp only; omega, by simp only; omega⟩
        · have := h3 f f1 (by omega) f3; omega
      · rw [if_neg h0]
        refine ⟨⟨by simp only; omega, by simp only; omega⟩, fun f f1 f2 f3 => ?_⟩
        by_cases hf : f = (k : Int) + 1
        · subst hf; exact ⟨by simp only; omega, by simp only; omega, by simp only; omega⟩
        · have := h3 f f1 (by omega) f3
          exact ⟨by simp only; omega, by simp only; omega, by simp only; omega⟩
    · rw [if_neg hc]
      refine ⟨⟨h1, by omega⟩, fun f f1 f2 f3 => ?_⟩
      by_cases hf : f = (k : Int) + 1
      · subst hf; exact absurd f3 hc
      · exact h3 f f1 (by omega) f3
theorem frLoop {N : Nat} (hN : N = 2000) {h : GLensHall} {s : Int} {γ : Type} {kb : Int × Int → Option γ} : onL (loop (S := (Int × Int × Int)) (B := (Int × Int)) (R := Empty) (fun ((low1, high1, f1) : Int × Int × Int) =>
 if f1 ≤ 2000 then
 ((impl_suits h s f1).bind fun r3 =>
 if r3 then
 (if low1 = 0 then
 (some (.next (f1, f1, w64 (f1 + 1))))
 else
 some (.next (low1, f1, w64 (f1 + 1))))
 else
 some (.next (low1, high1, w64 (f1 + 1))))
 else
 some (.brk (low1, high1))) loopLim (0, 0, 1)) kb Empty.elim = kb (fr h s N) := by
  have := loop_brk (R := Empty) (body := fun ((low1, high1, f1) : Int × Int × Int) =>
 if f1 ≤ 2000 then
 ((impl_suits h s f1).bind fun r3 =>
 if r3 then
 (if low1 = 0 then
 (some (.next (f1, f1, w64 (f1 + 1))))
 else
 some (.next (low1, f1, w64 (f1 + 1))))
 else
 some (.next (low1, high1, w64 (f1 + 1))))
 else
 some (.brk (low1, high1))) (fun k : Nat => ((fr h s k).1, (fr h s k).2, (k : Int) + 1)) (b := fr h s N) N (by omega) (fun k hk => by
    simp only
    rw [if_pos (by omega), suits_eq, Option.bind_some, w64_id (by omega) (by omega), fr]
    split
    · split
      · rfl
      · rfl
    · rfl) (by simp only; rw [if_neg (by omega)])
  rw [show ((fr h s 0).1, (fr h s 0).2, ((0 : Nat) : Int) + 1) = ((0 : Int), (0 : Int), (1 : Int)) from rfl] at this
  rw [this]; rfl
theorem FocalRange_same (h : GLensHall) (s : Int) : ∃ r : Int × Int × Int, impl_FocalRange h s = some r ∧ spec_FocalRange h s = some r ∧ (vh h = true → vsl s = true → ∀ f : Int, vf1 f = true → sut h s f = true → r.2.2 = 0 ∧ r.1 ≤ f ∧ f ≤ r.2.1) := by
  obtain ⟨N, hN⟩ : ∃ N : Nat, N = 2000 := ⟨_, rfl⟩
  unfold impl_FocalRange spec_FocalRange
  rw [validHall_eq, Option.bind_some, hallsCode_eq _ _ _ (by simp), Option.bind_some, vst_nil, Bool.and_true, l11One_eq, Option.bind_some, l11Slide_eq, Option.bind_some, l11Suits_fn, frLoop hN]
  simp only
  have e1 : vf1 1 = true := rfl
  rw [e1, Bool.and_true]
  cases hv : vh h with
  | false => exact ⟨(0, 0, 1), rfl, rfl, fun hc => by simp at hc⟩
  | true =>
    cases hs : vsl s with
    | false => exact ⟨(0, 0, 2), rfl, rfl, fun _ hc => by simp at hc⟩
    | true =>
      simp only [if_true]
      obtain ⟨g1, g2⟩ := fr_spec h s N
      by_cases h0 : (fr h s N).1 = 0
      · rw [if_pos h0]
        refine ⟨(0, 0, 3), rfl, rfl, fun _ _ f hf hs => ?_⟩
        have hf := of_decide_eq_true hf
        have := g2 f hf.1 (by omega) hs
        omega
      · rw [if_neg h0]
        refine ⟨_, rfl, rfl, fun _ _ f hf hs => ?_⟩
        have hf := of_decide_eq_true hf
        have := g2 f hf.1 (by omega) hs
        exact ⟨rfl, this.2.1, this.2.2⟩
/- lenses for a hall, halls for a lens -/
theorem LensesFor_eq {h : GLensHall} {s : Int} {l : List Int} (hl : l.length ≤ 1000000) : impl_LensesFor h s l = some (if vh h = true then (if (vsl s && vst l) = true then (sl (fun i => sut h s (gz l i)) l.length, 0) else ([], 2)) else ([], 1)) := by
  unfold impl_LensesFor
  rw [validHall_eq, Option.bind_some, hallsCode_eq _ _ _ hl, Option.bind_some, show vf1 1 = true from rfl, Bool.and_true]
  rw [selS (fun i => sut h s (gz l i)) l.length hl (fun k out hk ho => by
    simp only
    rw [if_pos (by omega), at_gz hk, Option.bind_some, suits_eq, Option.bind_some, w64_id (by omega) (by omega), app_ok (by simp; omega), Option.bind_some]
    split <;> rfl) (fun out => by simp only; rw [if_neg (by omega)])]
  cases vh h <;> cases (vsl s && vst l) <;> rfl
theorem LensesFor_spec {h : GLensHall} {s : Int} {l : List Int} (hl : l.length ≤ 1000000) : spec_LensesFor h s l = some (if vh h = true then (if (vsl s && vst l) = true then (sl (fun i => sut h s (gz l i)) l.length, 0) else ([], 2)) else ([], 1)) := by
  unfold spec_LensesFor
  rw [l11One_eq, Option.bind_some, l11Slide_eq, Option.bind_some, l11Stock_eq hl, Option.bind_some, l11Suits_fn]
  rw [selS (fun i => sut h s (gz l i)) l.length hl (fun k out hk ho => by
    simp only
    rw [if_pos (by omega), at_gz hk, Option.bind_some, suits_eq, Option.bind_some, w64_id (by omega) (by omega), app_ok (by simp; omega), Option.bind_some]
    split <;> rfl) (fun out => by simp only; rw [if_neg (by omega)])]
  cases vh h <;> cases vsl s <;> cases vst l <;> rfl
theorem HallsFor_eq {l : List GLensHall} {s f : Int} (hl : l.length ≤ 1000000) : impl_HallsFor l s f = some (if vhs l = true then (if (vsl s && vf1 f) = true then (sl (fun i => sut (gz l i) s f) l.length, 0) else ([], 2)) else ([], 1)) := by
  unfold impl_HallsFor
  rw [ValidLensHalls_eq hl, Option.bind_some, hallsCode_eq _ _ _ (by simp), Option.bind_some, vst_nil, Bool.and_true]
  rw [selS (fun i => sut (gz l i) s f) l.length hl (fun k out hk ho => by
    simp only
    rw [if_pos (by omega), at_gz hk, Option.bind_some, suits_eq, Option.bind_some, w64_id (by omega) (by omega), app_ok (by simp; omega), Option.bind_some]
    split <;> rfl) (fun out => by simp only; rw [if_neg (by omega)])]
  cases vhs l <;> cases (vsl s && vf1 f) <;> rfl
theorem HallsFor_spec {l : List GLensHall} {s f : Int} (hl : l.length ≤ 1000000) : spec_HallsFor l s f = some (if vhs l = true then (if (vsl s && vf1 f) = true then (sl (fun i => sut (gz l i) s f) l.length, 0) else ([], 2)) else ([], 1)) := by
  unfold spec_HallsFor
  rw [l11Ok_eq hl, Option.bind_some, l11Slide_eq, Option.bind_some, l11Focal_eq, Option.bind_some, l11Suits_fn]
  rw [selS (fun i => sut (gz l i) s f) l.length hl (fun k out hk ho => by
    simp only
    rw [if_pos (by omega), at_gz hk, Option.bind_some, suits_eq, Option.bind_some, w64_id (by omega) (by omega), app_ok (by simp; omega), Option.bind_some]
    split <;> rfl) (fun out => by simp only; rw [if_neg (by omega)])]
  cases vhs l <;> cases vsl s <;> cases vf1 f <;> rfl
end Go.Vs.G

namespace Go.Vs.G
open Go Go.Vs
theorem l11New_ok {B : Int} {s : GL00Src} (h : SrcOk B s) (hB : B ≤ 1000000) : wp (spec_l11New s) fun r => SrcOk (B + 6) r.2 := by
  unfold spec_l11New
  refine wp_pick h (by omega) fun v s1 _ _ h1 => ?_
  refine wp_pick h1 (by omega) fun v2 s2 _ _ h2 => ?_
  refine wp_pick h2 (by omega) fun v3 s3 _ _ h3 => ?_
  exact wp_some (h3.mono (by omega))
theorem l11Spoil_ok {B : Int} {s : GL00Src} (h : SrcOk B s) (hB : B ≤ 1000000) (x : GLensHall) : wp (spec_l11Spoil s x) fun r => SrcOk (B + 4) r.1 := by
  unfold spec_l11Spoil
  refine wp_pick h (by omega) fun v s1 _ _ h1 => ?_
  simp only
  refine wp_ite (fun _ => ?_) (fun _ => wp_ite (fun _ => ?_) (fun _ => wp_ite (fun _ => ?_) (fun _ => wp_some (h1.mono (by omega)))))
  · exact wp_among h1 (by omega) (by simp) (by simp) fun y s2 _ h2 => wp_some (h2.mono (by omega))
  · exact wp_among h1 (by omega) (by simp) (by simp) fun y s2 _ h2 => wp_some (h2.mono (by omega))
  · exact wp_among h1 (by omega) (by simp) (by simp) fun y s2 _ h2 => wp_some (h2.mono (by omega))
theorem l11Draw_ok {B : Int} {s : GL00Src} (h : SrcOk B s) (hB : B ≤ 100000) : wp (spec_l11Draw s) fun r => SrcOk (B + 100) r.2 ∧ r.1.length ≤ 9 := by
  unfold spec_l11Draw
  refine wp_pick h (by omega) fun v s1 v0 v1 h1 => ?_
  refine wp_one h1 (by omega) fun b1 s2 h2 => ?_
  simp only
  refine wp_seq (P := fun q : GL00Src × Int => SrcOk (B + 6) q.1 ∧ 0 ≤ q.2 ∧ q.2 ≤ 9) ?_ ?_
  · refine wp_bif (fun _ => ?_) (fun _ => wp_some ⟨h2.mono (by omega), by simp only; omega, by simp only; omega⟩)
    refine wp_pick h2 (by omega) fun v2 s3 v2a v2b h3 => wp_some ⟨h3.mono (by omega), ?_, ?_⟩
    · simp only; rw [w64_id (by omega) (by omega)]; omega
    · simp only; rw [w64_id (by omega) (by omega)]; omega
  · rintro ⟨s3, n⟩ ⟨h3, n0, n1⟩
    simp only at h3 n0 n1 ⊢
    refine wp_loop (fun q : GL00Src × List GLensHall × Int => SrcOk (B + 6 + 6 * (q.2.1.length : Int)) q.1 ∧ (q.2.1.length : Int) + q.2.2 = n ∧ 0 ≤ q.2.2) (fun q => q.2.2.toNat) ⟨by simpa using h3, by simp, n0⟩ (by simp only; omega) ?_
    rintro ⟨s4, out, k⟩ ⟨h4, h5, h6⟩
    simp only at h4 h5 h6 ⊢
    refine wp_ite (fun hk => ?_) (fun hk => ?_)
    · refine wp_seq (l11New_ok h4 (by omega)) ?_
      rintro ⟨x, s5⟩ h7
      simp only at h7 ⊢
      rw [app_ok (by simp; omega), Option.bind_some, w64_id (n := k - 1) (by omega) (by omega)]
      exact wp_some ⟨⟨h7.mono (by simp; omega), by simp; omega, by simp only; omega⟩, by simp only; omega⟩
    · refine wp_some ?_
      simp only
      refine wp_seq (P := fun q : GL00Src × Bool => SrcOk (B + 70) q.1 ∧ (q.2 = true → 0 < n)) ?_ ?_
      · refine wp_ite (fun hn => ?_) (fun _ => wp_some ⟨h4.mono (by omega), fun hc => by simp at hc⟩)
        exact wp_one h4 (by omega) fun b s5 h7 => wp_some ⟨h7.mono (by omega), fun _ => hn⟩
      · rintro ⟨s5, b⟩ ⟨h7, hb⟩
        simp only at h7 hb ⊢
        refine wp_bif (fun hbt => ?_) (fun _ => wp_some ⟨h7.mono (by omega), by simp only; omega⟩)
        have := hb hbt
        rw [at_ok (by omega) (by omega), Option.bind_some]
        refine wp_seq (l11Spoil_ok h7 (by omega) _) ?_
        rintro ⟨s6, y⟩ h8
        exact wp_some ⟨h8.mono (by omega), by simp; omega⟩
theorem l11DrawFocal_ok {B : Int} {s : GL00Src} (h : SrcOk B s) (hB : B ≤ 1000000) : wp (spec_l11DrawFocal s) fun r => SrcOk (B + 4) r.2 := by
  unfold spec_l11DrawFocal
  refine wp_one h (by omega) fun b s1 h1 => ?_
  refine wp_bif (fun _ => ?_) (fun _ => ?_)
  · exact wp_among h1 (by omega) (by simp) (by simp) fun y s2 _ h2 => wp_some (h2.mono (by omega))
  · exact wp_pick h1 (by omega) fun y s2 _ _ h2 => wp_some (h2.mono (by omega))
theorem l11DrawSlide_ok {B : Int} {s : GL00Src} (h : SrcOk B s) (hB : B ≤ 1000000) : wp (spec_l11DrawSlide s) fun r => SrcOk (B + 4) r.2 := by
  unfold spec_l11DrawSlide
  refine wp_one h (by omega) fun b s1 h1 => ?_
  refine wp_bif (fun _ => ?_) (fun _ => ?_)
  · exact wp_among h1 (by omega) (by simp) (by simp) fun y s2 _ h2 => wp_some (h2.mono (by omega))
  · exact wp_among h1 (by omega) (by simp) (by simp) fun y s2 _ h2 => wp_some (h2.mono (by omega))
theorem l11Any_ok {B : Int} {s : GL00Src} (h : SrcOk B s) (hB : B ≤ 100000) : wp (spec_l11Any s) fun r => SrcOk (B + 20) r.2 := by
  unfold spec_l11Any
  refine wp_seq (l11New_ok h (by omega)) ?_
  rintro ⟨x, s1⟩ h1
  simp only at h1 ⊢
  refine wp_one h1 (by omega) fun b s2 h2 => ?_
  refine wp_bif (fun _ => ?_) (fun _ => wp_some (h2.mono (by omega)))
  refine wp_seq (l11Spoil_ok h2 (by omega) _) ?_
  rintro ⟨s3, y⟩ h3
  exact wp_some (h3.mono (by omega))
theorem l11DrawStock_ok {B : Int} {s : GL00Src} (h : SrcOk B s) (hB : B ≤ 100000) : wp (spec_l11DrawStock s) fun r => SrcOk (B + 100) r.2 ∧ r.1.length ≤ 13 := by
  unfold spec_l11DrawStock
  refine wp_pick h (by omega) fun v s1 v0 v1 h1 => ?_
  refine wp_one h1 (by omega) fun b1 s2 h2 => ?_
  simp only
  refine wp_seq (P := fun q : GL00Src × Int => SrcOk (B + 6) q.1 ∧ 0 ≤ q.2 ∧ q.2 ≤ 13) ?_ ?_
  · refine wp_bif (fun _ => ?_) (fun _ => wp_some ⟨h2.mono (by omega), by simp only; omega, by simp only; omega⟩)
    refine wp_pick h2 (by omega) fun v2 s3 v2a v2b h3 => wp_some ⟨h3.mono (by omega), ?_, ?_⟩
    · simp only; rw [w64_id (by omega) (by omega)]; omega
    · simp only; rw [w64_id (by omega) (by omega)]; omega
  · rintro ⟨s3, n⟩ ⟨h3, n0, n1⟩
    simp only at h3 n0 n1 ⊢
    refine wp_loop (fun q : GL00Src × List Int × Int => SrcOk (B + 6 + 6 * (q.2.1.length : Int)) q.1 ∧ (q.2.1.length : Int) + q.2.2 = n ∧ 0 ≤ q.2.2) (fun q => q.2.2.toNat) ⟨by simpa using h3, by simp, n0⟩ (by simp only; omega) ?_
    rintro ⟨s4, out, k⟩ ⟨h4, h5, h6⟩
    simp only at h4 h5 h6 ⊢
    refine wp_ite (fun hk => ?_) (fun hk => ?_)
    · refine wp_pick h4 (by omega) fun x s5 _ _ h7 => ?_
      simp only
      rw [app_ok (by simp; omega), Option.bind_some, w64_id (n := k - 1) (by omega) (by omega)]
      exact wp_some ⟨⟨h7.mono (by simp; omega), by simp; omega, by simp only; omega⟩, by simp only; omega⟩
    · refine wp_some ?_
      simp only
      refine wp_seq (P := fun q : GL00Src × Bool => SrcOk (B + 90) q.1 ∧ (q.2 = true → 0 < n)) ?_ ?_
      · refine wp_ite (fun hn => ?_) (fun _ => wp_some ⟨h4.mono (by omega), fun hc => by simp at hc⟩)
        exact wp_one h4 (by omega) fun b s5 h7 => wp_some ⟨h7.mono (by omega), fun _ => hn⟩
      · rintro ⟨s5, b⟩ ⟨h7, hb⟩
        simp only at h7 hb ⊢
        refine wp_bif (fun hbt => ?_) (fun _ => wp_some ⟨h7.mono (by omega), by simp only; omega⟩)
        have := hb hbt
        refine wp_seq (l11DrawFocal_ok h7 (by omega)) ?_
        rintro ⟨y, s6⟩ h8
        simp only at h8 ⊢
        rw [at_ok (by omega) (by omega), Option.bind_some]
        exact wp_some ⟨h8.mono (by omega), by simp; omega⟩
section
variable {code : List Int} (hc : okL (okI .u8) code) (hl : code.length ≤ 4096)
include hc hl
theorem DrawSuits_ok : wp (spec_DrawSuitsHall code) fun _ => True := by
  unfold spec_DrawSuitsHall
  refine wp_from hc (by omega) fun s h => ?_
  refine wp_seq (l11Any_ok h (by omega)) ?_
  rintro ⟨x, s1⟩ h1
  simp only at h1 ⊢
  refine wp_seq (l11DrawSlide_ok h1 (by omega)) ?_
  rintro ⟨y, s2⟩ h2
  simp only at h2 ⊢
  refine wp_seq (l11DrawFocal_ok h2 (by omega)) ?_
  rintro ⟨z, s3⟩ h3
  exact wp_some trivial
theorem DrawLenses_ok : wp (spec_DrawLensesFor code) fun r => r.2.2.length ≤ 13 := by
  unfold spec_DrawLensesFor
  refine wp_from hc (by omega) fun s h => ?_
  refine wp_seq (l11Any_ok h (by omega)) ?_
  rintro ⟨x, s1⟩ h1
  simp only at h1 ⊢
  refine wp_seq (l11DrawSlide_ok h1 (by omega)) ?_
  rintro ⟨y, s2⟩ h2
  simp only at h2 ⊢
  refine wp_seq (l11DrawStock_ok h2 (by omega)) ?_
  rintro ⟨z, s3⟩ ⟨h3, h4⟩
  exact wp_some h4
theorem DrawHalls_ok : wp (spec_DrawHallsFor code) fun r => r.1.length ≤ 9 := by
  unfold spec_DrawHallsFor
  refine wp_from hc (by omega) fun s h => ?_
  refine wp_seq (l11Draw_ok h (by omega)) ?_
  rintro ⟨x, s1⟩ ⟨h1, h2⟩
  simp only at h1 h2 ⊢
  refine wp_seq (l11DrawSlide_ok h1 (by omega)) ?_
  rintro ⟨y, s2⟩ h3
  simp only at h3 ⊢
  refine wp_seq (l11DrawFocal_ok h3 (by omega)) ?_
  rintro ⟨z, s3⟩ h4
  exact wp_some h2
end
theorem laws_FnLensFits_true {code : List Int} (hc : okL (okI .u8) code) : laws_FnLensFits code = some true := by
  refine eq_of_wp ?_
  unfold laws_FnLensFits laws_f6big
  rw [Option.bind_some]
  by_cases hl : code.length ≤ 4096
  case neg => rw [if_pos (decide_eq_true (by omega))]; exact wp_some rfl
  rw [if_neg (by simp; omega)]
  refine wp_seq (DrawSuits_ok hc hl) ?_
  rintro ⟨h, s, f⟩ -
  simp only
  rw [SuitsHall_eq, SuitsHall_spec, Option.bind_some, Option.bind_some]
  obtain ⟨r5, e5, e6, f5⟩ := FocalRange_same h s
  rw [e5, e6, Option.bind_some, Option.bind_some]
  refine wp_seq (DrawLenses_ok hc hl) ?_
  rintro ⟨h2, s2, stock⟩ hst
  simp only at hst ⊢
  rw [LensesFor_eq (by omega), LensesFor_spec (by omega), Option.bind_some, Option.bind_some]
  refine wp_seq (DrawHalls_ok hc hl) ?_
  rintro ⟨halls, s3, f3⟩ hha
  simp only at hha ⊢
  rw [HallsFor_eq (by omega), HallsFor_spec (by omega), Option.bind_some, Option.bind_some]
  have l1 : ∀ (c : Nat → Bool) (n : Nat) (b b' : Bool), n ≤ 13 → (if b = true then (if b' = true then (sl c n, (0 : Int)) else ([], 2)) else ([], 1)).1.length ≤ 13 := by
    intro c n b b' hn
    have := sl_len c n
    split
    · split
      · simp only; omega
      · simp
    · simp
  rw [f6intsT _ _ (Nat.lt_of_le_of_lt (l1 _ _ _ _ hst) (by omega)), f6intsT _ _ (Nat.lt_of_le_of_lt (l1 _ _ _ _ (by omega)) (by omega))]
  simp only [if_true, beq_self_eq_true, decide_true, Option.bind_some, Bool.not_true, Bool.false_eq_true, if_false]
  refine wp_onS ?_
  have last : wp (((if (if vh h = true then (if (vsl s && vf1 f) = true then (sut h s f, (0 : Int)) else (false, 2)) else (false, 1)).2 = 0 then (some (!(if vh h = true then (if (vsl s && vf1 f) = true then (sut h s f, (0 : Int)) else (false, 2)) else (false, 1)).1)) else some true) : Option Bool).bind fun (x4 : Bool) =>
      if x4 = true then (some true) else if r5.2.2 = 0 then (if f ≥ r5.1 then (some (decide (f ≤ r5.2.1))) else some false) else some false) fun y => y = true := by
    cases hv : vh h with
    | false => exact wp_some rfl
    | true =>
      cases hs : vsl s with
      | false => exact wp_some rfl
      | true =>
        cases hf : vf1 f with
        | false => exact wp_some rfl
        | true =>
          cases hsu : sut h s f with
          | false => exact wp_some rfl
          | true =>
            obtain ⟨g1, g2, g3⟩ := f5 hv hs f hf hsu
            simp only [Bool.and_self, if_true, Bool.not_true, Option.bind_some, Bool.false_eq_true, if_false]
            rw [if_pos g1, if_pos g2, decide_eq_true g3]
            exact wp_some rfl
  have second : wp (onS (S := Unit) (B := Empty) (R := Bool) (if (if vhs halls = true then (if (vsl s3 && vf1 f3) = true then (sl (fun i => sut (gz halls i) s3 f3) halls.length, (0 : Int)) else ([], 2)) else ([], 1)).2 = 0 then
 (onL (loop (S := Int) (B := Unit) (R := Bool) (fun (i2 : Int) =>
 if i2 < (halls.length : Int) then
 ((at? halls i2).bind fun v2 =>
 (impl_SuitsHall v2 s3 f3).bind fun r17 =>
 ((if r17.2 = 0 then
 ((laws_f6has (if vhs halls = true then (if (vsl s3 && vf1 f3) = true then (sl (fun i => sut (gz halls i) s3 f3) halls.length, (0 : Int)) else ([], 2)) else ([], 1)).1 i2).bind fun r18 =>
 some (!(r17.1 == r18)))
 else
 some true) : Option Bool).bind fun (x3 : Bool) =>
 if x3 = true then
 (some (.ret false))
 else
 some (.next (w64 (i2 + 1))))
 else
 some (.brk ())) loopLim 0)
 (fun (_ : Unit) => some (.next ())) (fun r => some (.ret r)))
 else
 some (.next ()))
 (fun (_ : Unit) => ((if (if vh h = true then (if (vsl s && vf1 f) = true then (sut h s f, (0 : Int)) else (false, 2)) else (false, 1)).2 = 0 then (some (!(if vh h = true then (if (vsl s && vf1 f) = true then (sut h s f, (0 : Int)) else (false, 2)) else (false, 1)).1)) else some true) : Option Bool).bind fun (x4 : Bool) =>
      if x4 = true then (some true) else if r5.2.2 = 0 then (if f ≥ r5.1 then (some (decide (f ≤ r5.2.1))) else some false) else some false)
 Empty.elim (fun r => some r)) fun y => y = true := by
    refine wp_onS ?_
    cases hv : vhs halls with
    | false => exact wp_some last
    | true =>
      cases hsf : (vsl s3 && vf1 f3) with
      | false => exact wp_some last
      | true =>
        simp only [if_true]
        refine wp_cnt (fun k => (k : Int)) halls.length rfl (by omega) (fun k hk => ?_) (b := ()) ?_ (wp_some last)
        · have hvk : vh (gz halls k) = true := by
            unfold vhs at hv
            simp only [Bool.and_eq_true, List.all_eq_true] at hv
            exact hv.2 _ (gz_mem hk)
          rw [if_pos (by omega), at_gz hk, Option.bind_some, SuitsHall_eq, Option.bind_some, hvk, hsf, if_pos rfl, if_pos rfl]
          simp only [if_true]
          rw [f6hasF (Nat.le_trans (sl_len _ _) (by omega)), Option.bind_some, sl_in hk, beq_self_eq_true, w64_id (by omega) (by omega)]
          rfl
        · rw [if_neg (by omega)]
  cases hv : vh h2 with
  | false => exact wp_some second
  | true =>
    cases hsf : (vsl s2 && vst stock) with
    | false => exact wp_some second
    | true =>
      simp only [if_true]
      refine wp_cnt (fun k => (k : Int)) stock.length rfl (by omega) (fun k hk => ?_) (b := ()) ?_ (wp_some second)
      · simp only [Bool.and_eq_true] at hsf
        have hvk : vf1 (gz stock k) = true := by
          have h9 := hsf.2
          unfold vst at h9
          simp only [Bool.and_eq_true, List.all_eq_true] at h9
          exact h9.2 _ (gz_mem hk)
        rw [if_pos (by omega), at_gz hk, Option.bind_some, SuitsHall_eq, Option.bind_some, hv, hsf.1, hvk, Bool.and_self, if_pos rfl, if_pos rfl]
        simp only [if_true]
        rw [f6hasF (Nat.le_trans (sl_len _ _) (by omega)), Option.bind_some, sl_in hk, beq_self_eq_true, w64_id (by omega) (by omega)]
        rfl
      · rw [if_neg (by omega)]
end Go.Vs.G

