/- Plain facts about the typed functions, up to the law: no program in sight. No conditions. -/
import Derived.Test.YtidikckodadjoaaGreatDoorV5
import Derived.Test.YtidikckodadjoaaGreatDoorDLScripts
import Derived.Lib.ItoaNum
import Derived.Lib.ParseIntB
import Derived.Lib.Strings
import Derived.Lib.SplitLaws
namespace Go.Vs
open Go

section
variable {α β S B R : Type}

open Classical in
/-- a loop that looks at each round for a reason to stop -/
theorem scan {body : Int → Option (Step Int Unit R)} {kb : Unit → Option β} {kr : R → Option β} {s n : Nat} {c : Nat → Bool} {r : R} (hs : s ≤ n) (hn : n < 9223372036854775807)
    (hb : ∀ i : Nat, s ≤ i → i < n → body (i : Int) = some (if c i = true then .next ((i : Int) + 1) else .ret r)) (he : body (n : Int) = some (.brk ())) :
    onL (loop body loopLim (s : Int)) kb kr = if ∀ i, s ≤ i → i < n → c i = true then kb () else kr r := by
  by_cases h : ∀ i, s ≤ i → i < n → c i = true
  · rw [if_pos h]
    have := loop_brk (body := body) (fun j => ((s + j : Nat) : Int)) (b := ()) (n - s) (by omega) (fun j hj => by
      rw [hb (s + j) (by omega) (by omega), if_pos (h _ (by omega) (by omega))]; congr 2) (by rw [show s + (n - s) = n by omega]; exact he)
    simp only [Nat.add_zero] at this
    rw [this]; rfl
  · rw [if_neg h]
    have hex : ∃ k, s ≤ k ∧ k < n ∧ c k = false := by
      refine Classical.byContradiction fun hc => h fun i h1 h2 => ?_
      cases hci : c i with
      | true => rfl
      | false => exact absurd ⟨i, h1, h2, hci⟩ hc
    -- the first of them
    have hleast : ∃ k, (s ≤ k ∧ k < n ∧ c k = false) ∧ ∀ j, s ≤ j → j < k → c j = true := by
      obtain ⟨k, hk⟩ := hex
      induction k using Nat.strongRecOn with
      | _ k ih =>
        by_cases hall : ∀ j, s ≤ j → j < k → c j = true
        · exact ⟨k, hk, hall⟩
        · have : ∃ j, s ≤ j ∧ j < k ∧ c j = false := by
            refine Classical.byContradiction fun hc => hall fun i h1 h2 => ?_
            cases hci : c i with
            | true => rfl
            | false => exact absurd ⟨i, h1, h2, hci⟩ hc
          obtain ⟨j, h1, h2, h3⟩ := this
          exact ih j h2 ⟨h1, by omega, h3⟩
    obtain ⟨k, ⟨h1, h2, h3⟩, h4⟩ := hleast
    have := loop_ret' (body := body) (fun j => ((s + j : Nat) : Int)) (r := r) (k - s) (by omega) (fun j hj => by
      rw [hb (s + j) (by omega) (by omega), if_pos (h4 _ (by omega) (by omega))]; congr 2) (by
      rw [show s + (k - s) = k by omega, hb k h1 h2, h3]; rfl)
    simp only [Nat.add_zero] at this
    rw [this]; rfl
theorem w64_succ {i n : Nat} (h : i < n) (hn : n < 9223372036854775807) : w64 ((i : Int) + 1) = (i : Int) + 1 := w64_id (by omega) (by omega)
theorem at_of {l : List α} {i : Nat} (h : i < l.length) : at? l (i : Int) = some l[i] := at_nat h
/-- comparisons element by element -/
theorem eqS {f : α → α → Option Bool} {c : α → α → Bool} (a b : List α) (hf : ∀ x, x ∈ a → ∀ y, y ∈ b → f x y = some (c x y)) (ha : a.length < 9223372036854775807) :
    (if (a.length : Int) = (b.length : Int) then (onL (loop (S := Int) (B := Unit) (R := Bool) (fun (i1 : Int) => if i1 < (a.length : Int) then
      ((at? a i1).bind fun v1 => (at? b i1).bind fun v2 => (f v1 v2).bind fun r1 => if r1 then (some (.next (w64 (i1 + 1)))) else some (.ret false)) else some (.brk ())) loopLim 0) (fun (_ : Unit) => some true) (fun r => some r)) else some false)
      = some (decide (a.length = b.length) && (List.zipWith c a b).all id) := by
  by_cases hl : a.length = b.length
  · rw [if_pos (by omega)]
    have := scan (body := fun (i1 : Int) => if i1 < (a.length : Int) then
      ((at? a i1).bind fun v1 => (at? b i1).bind fun v2 => (f v1 v2).bind fun r1 => if r1 then (some (.next (w64 (i1 + 1)))) else some (.ret false)) else some (.brk ()))
      (kb := fun (_ : Unit) => some true) (kr := fun r => some r) (s := 0) (n := a.length) (c := fun i => if h : i < a.length ∧ i < b.length then c a[i] b[i] else true) (r := false) (by omega) ha ?_ (by simp)
    · simp only [Int.natCast_zero] at this
      refine this.trans ?_
      split
      · rename_i h
        congr 1
        symm
        simp only [Bool.and_eq_true, decide_eq_true_eq, hl, true_and, List.all_eq_true, id]
        intro x hx
        obtain ⟨i, hi, rfl⟩ := List.getElem_of_mem hx
        simp only [List.length_zipWith] at hi
        have := h i (by omega) (by omega)
        simpa [show i < a.length ∧ i < b.length by omega] using this
      · rename_i h
        congr 1
        symm
        simp only [Bool.and_eq_false_iff]
        right
        refine Classical.byContradiction fun hc => h fun i _ hi => ?_
        have hall : (List.zipWith c a b).all id = true := by simpa using hc
        rw [List.all_eq_true] at hall
        have hi2 : i < a.length ∧ i < b.length := ⟨hi, by omega⟩
        have := hall (c a[i] b[i]) (by
          rw [List.mem_iff_getElem]
          exact ⟨i, by simp; omega, by simp⟩)
        simpa [hi2] using this
    · intro i _ hi
      have hib : i < b.length := by omega
      have h1 : (i : Int) < (a.length : Int) := by omega
      simp only [h1, if_true, at_of hi, at_of hib, Option.bind_some, hf _ (List.getElem_mem hi) _ (List.getElem_mem hib), hi, hib, and_self, dite_true]
      split
      · rw [w64_id (by omega) (by omega)]
      · rfl
  · rw [if_neg (by omega)]
    simp [hl]
theorem zip_eq [DecidableEq α] {c : α → α → Bool} (hc : ∀ x y, c x y = decide (x = y)) : ∀ (a b : List α), (decide (a.length = b.length) && (List.zipWith c a b).all id) = decide (a = b)
  | [], [] => by simp
  | [], _ :: _ => by simp
  | _ :: _, [] => by simp
  | x :: a, y :: b => by
    have ih := zip_eq hc a b
    simp only [List.length_cons, Nat.add_right_cancel_iff, List.zipWith_cons_cons, List.all_cons, id, List.cons.injEq, hc] at ih ⊢
    by_cases hxy : x = y
    · simp [hxy, ih]
    · simp [hxy]
end
/-- the same with a proposition for a test -/
theorem eqSp {α : Type} [DecidableEq α] (a b : List α) (ha : a.length < 9223372036854775807) :
    (if (a.length : Int) = (b.length : Int) then (onL (loop (S := Int) (B := Unit) (R := Bool) (fun (i1 : Int) => if i1 < (a.length : Int) then
      ((at? a i1).bind fun v1 => (at? b i1).bind fun v2 => if v1 = v2 then (some (.next (w64 (i1 + 1)))) else some (.ret false)) else some (.brk ())) loopLim 0) (fun (_ : Unit) => some true) (fun r => some r)) else some false)
      = some (decide (a = b)) := by
  rw [← zip_eq (c := fun x y => decide (x = y)) (fun _ _ => rfl), ← eqS (f := fun x y => some (decide (x = y))) (c := fun x y => decide (x = y)) a b (fun _ _ _ _ => rfl) ha]
  congr 3
  funext i
  split
  · congr 1; funext v1; congr 1; funext v2
    simp only [Option.bind_some, decide_eq_true_eq]
  · rfl
end Go.Vs

namespace Go.Vs.G
open Go Go.Vs

/-- a source that can still be asked; B bounds the place that it has come to -/
structure SrcOk (B : Int) (s : GL00Src) : Prop where
  bytes : ∀ x, x ∈ s.code → 0 ≤ x ∧ x ≤ 255
  len : s.code.length ≤ 1000000
  at0 : 0 ≤ s.at_
  atB : s.at_ ≤ B
theorem SrcOk.mono {B B' : Int} {s : GL00Src} (h : SrcOk B s) (hB : B ≤ B') : SrcOk B' s := ⟨h.bytes, h.len, h.at0, Int.le_trans h.atB hB⟩
theorem srcOk_from {code : List Int} (h : okL (okI .u8) code) (hl : code.length ≤ 1000000) : SrcOk 0 (GL00Src.mk code 0 0) :=
  ⟨fun x hx => okU8 (h.2 x hx), hl, by simp, by simp⟩
theorem shr40 (n : Int) : shr? .u64 n 40 = some (n.fdiv (2 ^ 40)) := by
  simp [shr?, IntKind.bits]
theorem and255 (n : Int) : 0 ≤ bit_and .u64 n 255 ∧ bit_and .u64 n 255 ≤ 255 := by
  unfold bit_and
  rw [wu64_def]
  have h : (BitVec.ofInt IntKind.u64.bits n &&& BitVec.ofInt IntKind.u64.bits 255).toNat ≤ 255 := by
    rw [BitVec.toNat_and]
    exact Nat.le_trans Nat.and_le_right (by decide)
  omega
theorem next_ok {B : Int} {s : GL00Src} (h : SrcOk B s) (hB : B ≤ 4611686018427387904) : ∃ v s', spec_l00Src_next s = some (v, s') ∧ 0 ≤ v ∧ v ≤ 255 ∧ SrcOk (B + 1) s' := by
  have h1 := h.at0
  have h2 := h.atB
  have h3 := h.len
  have hat : w64 (s.at_ + 1) = s.at_ + 1 := w64_id (by omega) (by omega)
  have hb : ∃ b, (if s.at_ < (s.code.length : Int) then ((at? s.code s.at_).bind fun v1 => some (w64 v1)) else some 0) = some b ∧ 0 ≤ b ∧ b ≤ 255 := by
    split
    · rename_i hlt
      rw [at_ok h1 (by omega), Option.bind_some]
      obtain ⟨g1, g2⟩ := h.bytes s.code[s.at_.toNat] (List.getElem_mem (by omega))
      exact ⟨_, rfl, by rw [w64_id (by omega) (by omega)]; omega, by rw [w64_id (by omega) (by omega)]; omega⟩
    · exact ⟨0, rfl, by omega, by omega⟩
  obtain ⟨b, hb, b0, b1⟩ := hb
  unfold spec_l00Src_next
  rw [hb, Option.bind_some, hat]
  split
  · exact ⟨_, _, rfl, b0, b1, ⟨h.bytes, h.len, by simp only; omega, by simp only; omega⟩⟩
  · rw [shr40, Option.bind_some]
    have := and255 ((IntKind.wrap .u64 ((IntKind.wrap .u64 ((IntKind.wrap .u64 (s.seed * 6364136223846793005)) + (IntKind.wrap .u64 b))) + 1442695040888963407)).fdiv (2 ^ 40))
    exact ⟨_, _, rfl, by rw [w64_id (by omega) (by omega)]; omega, by rw [w64_id (by omega) (by omega)]; omega, ⟨h.bytes, h.len, by simp only; omega, by simp only; omega⟩⟩
theorem pick_ok {B : Int} {s : GL00Src} (h : SrcOk B s) (hB : B ≤ 4611686018427387000) (n : Int) : ∃ v s', spec_l00Src_pick s n = some (v, s') ∧ 0 ≤ v ∧ (v = 0 ∨ v < n) ∧ SrcOk (B + 2) s' := by
  unfold spec_l00Src_pick
  by_cases hn : n ≤ 1
  · rw [if_pos hn]; exact ⟨0, s, rfl, by omega, .inl rfl, h.mono (by omega)⟩
  · rw [if_neg hn]
    obtain ⟨v, s1, e1, v0, v1, k1⟩ := next_ok h (by omega)
    rw [e1, Option.bind_some]
    by_cases h2 : n > 200
    · rw [if_pos h2]
      obtain ⟨u, s2, e2, u0, u1, k2⟩ := next_ok k1 (by omega)
      simp only
      rw [e2, Option.bind_some, mod_ok (by omega), Option.bind_some, w64_id (n := v * 256) (by omega) (by omega), w64_id (by simp only; omega) (by simp only; omega)]
      have e : (v * 256 + u).tmod n = (v * 256 + u) % n := Int.tmod_eq_emod_of_nonneg (by omega)
      refine ⟨_, _, rfl, ?_, ?_, by rw [show B + 2 = B + 1 + 1 by omega]; exact k2⟩
      · simp only [e]; exact Int.emod_nonneg _ (by omega)
      · simp only [e]; right; exact Int.emod_lt_of_pos _ (by omega)
    · rw [if_neg h2, mod_ok (by omega), Option.bind_some]
      simp only
      have e : v.tmod n = v % n := Int.tmod_eq_emod_of_nonneg (by omega)
      refine ⟨_, _, rfl, ?_, ?_, k1.mono (by omega)⟩
      · rw [e]; exact Int.emod_nonneg _ (by omega)
      · rw [e]; right; exact Int.emod_lt_of_pos _ (by omega)
/-- one of some numbers -/
theorem among_ok {B : Int} {s : GL00Src} (h : SrcOk B s) (hB : B ≤ 4611686018427387000) {l : List Int} (hl : 1 ≤ l.length) (hl2 : l.length ≤ 1000) : ∃ v s', spec_l00Src_among s l = some (v, s') ∧ v ∈ l ∧ SrcOk (B + 2) s' := by
  unfold spec_l00Src_among
  obtain ⟨v, s1, e1, v0, v1, k1⟩ := pick_ok h hB (l.length : Int)
  rw [e1, Option.bind_some]
  simp only
  rw [at_ok v0 (by omega), Option.bind_some]
  exact ⟨_, _, rfl, List.getElem_mem _, k1⟩
end Go.Vs.G

namespace Go.Vs.G
open Go Go.Vs

theorem l00In_eqB (n a b : Int) : spec_l00In n a b = some (decide (a ≤ n ∧ n ≤ b)) := by
  unfold spec_l00In; split <;> simp <;> omega
end Go.Vs.G

namespace Go.Vs.G
open Go Go.Vs

/-- f is n / d in lowest terms -/
structure Red (n d : Int) (f : GFraction) : Prop where
  pos : 0 < f.Den
  cop : Int.gcd f.Num f.Den = 1
  eq : f.Num * d = n * f.Den
theorem dvd_of_cop {a b c : Int} (h : Int.gcd a b = 1) (hd : b ∣ a * c) : b ∣ c := by
  rw [← Int.natAbs_dvd_natAbs] at hd ⊢
  rw [Int.natAbs_mul] at hd
  have : Nat.Coprime b.natAbs a.natAbs := by rw [Nat.coprime_comm]; exact h
  exact this.dvd_of_dvd_mul_left hd
theorem Red.unique {f g : GFraction} (hf : 0 < f.Den) (hg : 0 < g.Den) (cf : Int.gcd f.Num f.Den = 1) (cg : Int.gcd g.Num g.Den = 1) (h : f.Num * g.Den = g.Num * f.Den) : f = g := by
  have h1 : f.Den ∣ g.Den := dvd_of_cop cf ⟨g.Num, by rw [h, Int.mul_comm]⟩
  have h2 : g.Den ∣ f.Den := dvd_of_cop cg ⟨f.Num, by rw [← h, Int.mul_comm]⟩
  have hd : f.Den = g.Den := Int.le_antisymm (Int.le_of_dvd hg h1) (Int.le_of_dvd hf h2)
  have hn : f.Num = g.Num := by
    rw [hd] at h
    exact Int.eq_of_mul_eq_mul_right (by omega) h
  cases f; cases g
  simp_all
/-- a valid fraction -/
def GFraction.valid (f : GFraction) : Prop := 1 ≤ f.Den ∧ f.Den ≤ 1000000 ∧ -1000000 ≤ f.Num ∧ f.Num ≤ 1000000 ∧ Int.gcd f.Num f.Den = 1
/-- a drawn fraction -/
structure Drawn (f : GFraction) : Prop where
  d0 : 1 ≤ f.Den
  d1 : f.Den ≤ 20
  n0 : -15 ≤ f.Num
  n1 : f.Num ≤ 44
  cop : Int.gcd f.Num f.Den = 1
theorem Drawn.valid {f : GFraction} (h : Drawn f) : f.valid := ⟨h.d0, by have := h.d1; omega, by have := h.n0; omega, by have := h.n1; omega, h.cop⟩
end Go.Vs.G

namespace Go.Vs.G
open Go Go.Vs

theorem within_eqR (n a b : Int) : impl_within n a b = some (decide (a ≤ n ∧ n ≤ b)) := by
  unfold impl_within; split <;> simp <;> omega
end Go.Vs.G

namespace Go.Vs.G
open Go Go.Vs

theorem Red.same {n d : Int} {f g : GFraction} (hf : Red n d f) (hg : Red n d g) (hd : d ≠ 0) : f = g := by
  refine Red.unique hf.pos hg.pos hf.cop hg.cop ?_
  have e1 := hf.eq
  have e2 := hg.eq
  refine Int.eq_of_mul_eq_mul_left (a := d) hd ?_
  calc d * (f.Num * g.Den) = (f.Num * d) * g.Den := by simp only [Int.mul_assoc, Int.mul_comm, Int.mul_left_comm]
    _ = (g.Num * d) * f.Den := by rw [e1, e2]; simp only [Int.mul_assoc, Int.mul_comm, Int.mul_left_comm]
    _ = d * (g.Num * f.Den) := by simp only [Int.mul_assoc, Int.mul_comm, Int.mul_left_comm]
/- counting -/
/- the same on both sides -/
/- draws -/
end Go.Vs.G

namespace Go.Vs
open Go

section
variable {α β γ R : Type}

/-- the library's IndexFunc -/
theorem idxFS {f : α → Option Bool} (c : α → Bool) (l : List α) (hf : ∀ x, x ∈ l → f x = some (c x)) (hl : l.length < 9223372036854775807)
    {body : Int → Option (Step Int Unit Int)}
    (hb : ∀ (i : Int), body i = if i < (l.length : Int) then ((at? l i).bind fun v => (f v).bind fun r => if r = true then some (.ret i) else some (.next (w64 (i + 1)))) else some (.brk ())) :
    wp (onL (loop body loopLim 0) (fun (_ : Unit) => some (-1 : Int)) (fun r => some r)) fun r => (r = -1 ∧ l.any c = false) ∨ (∃ k : Nat, r = (k : Int) ∧ ∃ h : k < l.length, c l[k] = true ∧ (∀ j (h2 : j < k), c (l[j]'(by omega)) = false) ∧ l.any c = true) := by
  refine wp_loop (fun t : Int => ∃ k : Nat, t = (k : Int) ∧ k ≤ l.length ∧ ∀ j (h2 : j < k) (h3 : j < l.length), c l[j] = false) (fun t => (l.length - t).toNat) ⟨0, rfl, by omega, fun j hj => by omega⟩ (by omega) ?_
  rintro i ⟨k, rfl, hk, hall⟩
  rw [hb]
  refine wp_ite (fun h => ?_) (fun h => ?_)
  · have hk2 : k < l.length := by omega
    rw [at_of hk2, Option.bind_some, hf _ (List.getElem_mem hk2), Option.bind_some]
    refine wp_ite (fun h3 => ?_) (fun h3 => ?_)
    · exact wp_some (wp_some (.inr ⟨k, rfl, hk2, h3, fun j hj => hall j hj (by omega), List.any_eq_true.2 ⟨_, List.getElem_mem hk2, h3⟩⟩))
    · rw [w64_succ hk2 (by omega)]
      refine wp_some ⟨⟨k + 1, rfl, by omega, fun j hj hj2 => ?_⟩, by omega⟩
      rcases Nat.lt_or_ge j k with h4 | h4
      · exact hall j h4 hj2
      · obtain rfl : j = k := by omega
        simpa using h3
  · obtain rfl : k = l.length := by omega
    refine wp_some (wp_some (.inl ⟨rfl, ?_⟩))
    refine Bool.eq_false_iff.2 fun hc => ?_
    obtain ⟨x, hx, hx2⟩ := List.any_eq_true.1 hc
    obtain ⟨j, hj, rfl⟩ := List.getElem_of_mem hx
    rw [hall j hj hj] at hx2
    cases hx2
/-- the library's ContainsFunc -/
theorem contS {f : α → Option Bool} (c : α → Bool) (l : List α) (hf : ∀ x, x ∈ l → f x = some (c x)) (hl : l.length < 9223372036854775807)
    {body : Int → Option (Step Int Unit Int)}
    (hb : ∀ (i : Int), body i = if i < (l.length : Int) then ((at? l i).bind fun v => (f v).bind fun r => if r = true then some (.ret i) else some (.next (w64 (i + 1)))) else some (.brk ())) :
    ((onL (loop body loopLim 0) (fun (_ : Unit) => some (-1 : Int)) (fun r => some r)).bind fun r => some (decide (r ≥ 0))) = some (l.any c) := by
  obtain ⟨r, h1, h2⟩ := idxFS c l hf hl hb
  rw [h1, Option.bind_some]
  rcases h2 with ⟨rfl, h⟩ | ⟨k, rfl, _, _, _, h⟩
  · rw [h]; rfl
  · rw [h, decide_eq_true (by omega)]
/-- a loop whose state at each round is told -/
theorem wp_cnt {S B : Type} {Q : γ → Prop} {body : S → Option (Step S B R)} {kb : B → Option γ} {kr : R → Option γ} {s0 : S} (st : Nat → S) (n : Nat) (h0 : s0 = st 0) (hn : n < 18446744073709551616)
    (hs : ∀ k, k < n → body (st k) = some (.next (st (k + 1)))) {b : B} (he : body (st n) = some (.brk b)) (hq : wp (kb b) Q) : wp (onL (loop body loopLim s0) kb kr) Q := by
  rw [h0, loop_brk st n hn hs he]; exact hq
/-- the numbers below n that fit -/
def sl (c : Nat → Bool) : Nat → List Int
  | 0 => []
  | k + 1 => if c k = true then sl c k ++ [(k : Int)] else sl c k
end
end Go.Vs

namespace Go.Vs
theorem wp_seq {α β : Type} {A : Option β} {k : β → Option α} {P : β → Prop} {Q : α → Prop} (h : wp A P) (hk : ∀ x, P x → wp (k x) Q) : wp (A.bind k) Q := by
  obtain ⟨x, rfl, hx⟩ := h; exact hk x hx
end Go.Vs
namespace Go.Vs.G
open Go Go.Vs

section
variable {α : Type} {Q : α → Prop} {B : Int} {s : GL00Src}
theorem wp_pick {n : Int} {k : Int × GL00Src → Option α} (h : SrcOk B s) (hB : B ≤ 4611686018427387000) (hk : ∀ v s', 0 ≤ v → (v = 0 ∨ v < n) → SrcOk (B + 2) s' → wp (k (v, s')) Q) : wp ((spec_l00Src_pick s n).bind k) Q := by
  obtain ⟨v, s', e, h0, h1, h2⟩ := pick_ok h hB n
  rw [e]; exact hk v s' h0 h1 h2
theorem wp_among {l : List Int} {k : Int × GL00Src → Option α} (h : SrcOk B s) (hB : B ≤ 4611686018427387000) (hl : 1 ≤ l.length) (hl2 : l.length ≤ 1000) (hk : ∀ v s', v ∈ l → SrcOk (B + 2) s' → wp (k (v, s')) Q) : wp ((spec_l00Src_among s l).bind k) Q := by
  obtain ⟨v, s', e, h1, h2⟩ := among_ok h hB hl hl2
  rw [e]; exact hk v s' h1 h2
theorem wp_from {code : List Int} {k : GL00Src → Option α} (h : okL (okI .u8) code) (hl : code.length ≤ 1000000) (hk : ∀ s, SrcOk 0 s → wp (k s) Q) : wp ((spec_l00From code).bind k) Q := hk _ (srcOk_from h hl)
theorem wp_app {β : Type} {l m : List β} {k : List β → Option α} (h : l.length + m.length ≤ 4294967296) (hk : wp (k (l ++ m)) Q) : wp ((app? l m).bind k) Q := by
  rw [app_ok h]; exact hk
theorem wp_bif {b : Bool} {A A' : Option α} (h1 : b = true → wp A Q) (h2 : b = false → wp A' Q) : wp (if b = true then A else A') Q := by
  cases b
  · exact h2 rfl
  · exact h1 rfl
end
end Go.Vs.G

namespace Go.Vs
open Go
section
variable {α : Type} [Inhabited α]
def gd (l : List α) (i : Nat) : α := l.getD i default
theorem gd_of {l : List α} {i : Nat} (h : i < l.length) : gd l i = l[i] := by unfold gd; simp [h]
theorem at_gd {l : List α} {i : Nat} (h : i < l.length) : at? l (i : Int) = some (gd l i) := by rw [at_of h, gd_of h]
theorem gd_mem {l : List α} {i : Nat} (h : i < l.length) : gd l i ∈ l := by rw [gd_of h]; exact List.getElem_mem h
theorem mem_gd {l : List α} {x : α} (h : x ∈ l) : ∃ i, i < l.length ∧ x = gd l i := by
  obtain ⟨i, hi, rfl⟩ := List.getElem_of_mem h; exact ⟨i, hi, (gd_of hi).symm⟩
theorem gd_append {l m : List α} {i : Nat} : gd (l ++ m) i = if i < l.length then gd l i else gd m (i - l.length) := by
  unfold gd; rw [List.getD_eq_getElem?_getD, List.getElem?_append]; split <;> rfl
end
end Go.Vs
namespace Go.Vs.G
open Go Go.Vs
def vpt (p : GPoint) : Bool := decide (0 ≤ p.X ∧ p.X ≤ 1000) && decide (0 ≤ p.Y ∧ p.Y ≤ 1000)
def vps (j : List GPoint) : Bool := decide (1 ≤ j.length ∧ j.length ≤ 8) && j.all vpt
theorem within_d (n a b : Int) : impl_within n a b = some (decide (a ≤ n ∧ n ≤ b)) := by
  unfold impl_within
  by_cases h : n ≥ a
  · rw [if_pos h]; exact congrArg some (decide_eq_decide.2 (by omega))
  · rw [if_neg h, decide_eq_false (by omega)]
theorem l00In_d (n a b : Int) : spec_l00In n a b = some (decide (a ≤ n ∧ n ≤ b)) := by
  unfold spec_l00In
  by_cases h : n ≥ a
  · rw [if_pos h]; exact congrArg some (decide_eq_decide.2 (by omega))
  · rw [if_neg h, decide_eq_false (by omega)]
/- what lies between -/
section
variable {a b : List GPoint} (ha : vps a = true) (hb : vps b = true) (hl : a.length = b.length) {p n : Int} (hp : 0 ≤ p ∧ p ≤ n) (hn : 1 ≤ n ∧ n ≤ 10000)
include ha hb hl hp hn
end
end Go.Vs.G

namespace Go.Vs.G
open Go Go.Vs

def small (c : UInt8) : Bool := decide (97 ≤ c.toNat ∧ c.toNat ≤ 122)
def letter (c : UInt8) : Bool := small c || decide (48 ≤ c.toNat ∧ c.toNat ≤ 57) || decide (c.toNat = 45)
/-- a name: one to twelve small letters, digits and hyphens, a letter first -/
def isName : List UInt8 → Bool
  | [] => false
  | c :: s => decide (s.length ≤ 11) && small c && (c :: s).all letter
theorem scanBytes {s : List UInt8} (hl : s.length ≤ 12) {k : Nat} (hk : k ≤ s.length) {body : Int → Option (Step Int Unit Bool)} (hb : ∀ i : Nat, k ≤ i → (hi : i < s.length) → body (i : Int) = some (if letter s[i] = true then .next ((i : Int) + 1) else .ret false)) (he : body (s.length : Int) = some (.brk ())) :
    onL (loop body loopLim (k : Int)) (fun _ => some true) (fun r => some r) = some ((s.drop k).all letter) := by
  rw [scan (n := s.length) (c := fun i => if h : i < s.length then letter s[i] else true) (r := false) hk (by omega) (fun i h1 h2 => by rw [hb i h1 h2]; simp [h2]) he]
  split
  · rename_i h
    congr 1; symm
    rw [List.all_eq_true]
    intro c hc
    obtain ⟨i, hi, rfl⟩ := List.getElem_of_mem hc
    rw [List.length_drop] at hi
    have := h (k + i) (by omega) (by omega)
    simpa [show k + i < s.length by omega] using this
  · rename_i h
    congr 1; symm
    refine Classical.byContradiction fun hc => h fun i h1 h2 => ?_
    have hall : (s.drop k).all letter = true := by simpa using hc
    rw [List.all_eq_true] at hall
    simp only [h2, dite_true]
    refine hall _ ?_
    rw [List.mem_iff_getElem]
    exact ⟨i - k, by rw [List.length_drop]; omega, by simp [show k + (i - k) = i by omega]⟩
theorem small_iff (c : UInt8) : small c = true ↔ 97 ≤ c.toNat ∧ c.toNat ≤ 122 := by simp [small]
theorem letter_iff (c : UInt8) : letter c = true ↔ (97 ≤ c.toNat ∧ c.toNat ≤ 122) ∨ (48 ≤ c.toNat ∧ c.toNat ≤ 57) ∨ c.toNat = 45 := by simp [letter, small, or_assoc]
theorem impl_IsName_eq (s : List UInt8) (hs : s.length ≤ 9223372036854775807) : impl_IsName s = some (isName s) := by
  unfold impl_IsName
  cases s with
  | nil => simp [isName]
  | cons c t =>
    have h0 : at? (c :: t) 0 = some c := rfl
    have hlen : ((c :: t).length : Int) = t.length + 1 := by simp
    simp only [h0, Option.bind_some, hlen]
    rw [if_neg (show ¬ (t.length : Int) + 1 < 1 by omega)]
    by_cases h1 : (t.length : Int) + 1 > 12
    · rw [if_pos h1]
      have : ¬ t.length ≤ 11 := by omega
      simp [isName, this]
    · rw [if_neg h1]
      have h11 : t.length ≤ 11 := by omega
      have hsm : (if (c.toNat : Int) < 97 then some true else some (decide ((c.toNat : Int) > 122))) = some (!small c) := by
        split
        · rename_i h; congr 1; symm; have : ¬ (small c = true) := by rw [small_iff]; omega
          simpa using this
        · rename_i h; congr 1
          rw [Bool.eq_iff_iff]; simp [small]; omega
      rw [hsm, Option.bind_some]
      by_cases hc : small c = true
      · simp only [hc, Bool.not_true, Bool.false_eq_true, if_false]
        have hlc : letter c = true := by simp [letter, hc]
        refine (scanBytes (s := c :: t) (by simp; omega) (k := 1) (by simp) ?_ (by simp)).trans ?_
        rotate_left
        · simp [isName, h11, hc, hlc]
        · intro i hi1 hi2
          have h5 : (i : Int) < (t.length : Int) + 1 := by simp at hi2; omega
          simp only [h5, if_true, at_of hi2, Option.bind_some]
          generalize (c :: t)[i] = d
          have hw : w64 ((i : Int) + 1) = i + 1 := w64_id (by omega) (by omega)
          have key : (if (d.toNat : Int) < 97 then (if (d.toNat : Int) < 48 then some (!(decide ((d.toNat : Int) = 45))) else if (d.toNat : Int) > 57 then some (!(decide ((d.toNat : Int) = 45))) else some false)
            else if (d.toNat : Int) > 122 then (if (d.toNat : Int) < 48 then some (!(decide ((d.toNat : Int) = 45))) else if (d.toNat : Int) > 57 then some (!(decide ((d.toNat : Int) = 45))) else some false) else some false) = some (!letter d) := by
            have hl := letter_iff d
            cases hd : letter d <;> simp only [hd, Bool.false_eq_true, false_iff, true_iff, not_or] at hl
            · repeat' split
              all_goals simp
              all_goals omega
            · repeat' split
              all_goals simp
              all_goals omega
          rw [key, Option.bind_some, hw]
          cases letter d <;> rfl
      · have hc' : small c = false := by simpa using hc
        simp [hc', isName]
theorem l01Small_eq (c : UInt8) : spec_l01Small (c.toNat : Int) = some (small c) := by
  unfold spec_l01Small small
  split
  · congr 1; rw [decide_eq_decide]; omega
  · congr 1; symm; rw [decide_eq_false_iff_not]; omega
theorem l01Digit_eq (c : UInt8) : spec_l01Digit (c.toNat : Int) = some (decide (48 ≤ c.toNat ∧ c.toNat ≤ 57)) := by
  unfold spec_l01Digit
  split
  · congr 1; rw [decide_eq_decide]; omega
  · congr 1; symm; rw [decide_eq_false_iff_not]; omega
theorem spec_IsName_eq (s : List UInt8) (hs : s.length ≤ 9223372036854775807) : spec_IsName s = some (isName s) := by
  unfold spec_IsName
  cases s with
  | nil => simp [isName]
  | cons c t =>
    have h0 : at? (c :: t) 0 = some c := rfl
    have hlen : ((c :: t).length : Int) = t.length + 1 := by simp
    simp only [h0, Option.bind_some, hlen, l01Small_eq, l01Digit_eq]
    rw [if_neg (by simp)]
    by_cases h1 : (t.length : Int) + 1 > 12
    · rw [if_pos h1]
      have : ¬ t.length ≤ 11 := by omega
      simp [isName, this]
    · rw [if_neg h1]
      have h11 : t.length ≤ 11 := by omega
      by_cases hc : small c = true
      · simp only [hc, Bool.not_true, Bool.false_eq_true, if_false, Option.bind_some]
        refine (scanBytes (s := c :: t) (by simp; omega) (k := 0) (by simp) ?_ (by simp)).trans ?_
        rotate_left
        · simp [isName, h11, hc]
        · intro i hi1 hi2
          have h5 : (i : Int) < (t.length : Int) + 1 := by simp at hi2; omega
          simp only [h5, if_true, at_of hi2, Option.bind_some, l01Small_eq, l01Digit_eq]
          generalize (c :: t)[i] = d
          have hw : w64 ((i : Int) + 1) = i + 1 := w64_id (by omega) (by omega)
          have key : (if small d = true then some false else if decide (48 ≤ d.toNat ∧ d.toNat ≤ 57) = true then some false else some (!(decide ((d.toNat : Int) = 45)))) = some (!letter d) := by
            unfold letter
            split
            · simp_all
            · split
              · simp_all
              · have : decide ((d.toNat : Int) = 45) = decide (d.toNat = 45) := by rw [decide_eq_decide]; omega
                simp_all
                omega
          rw [key, Option.bind_some, hw]
          cases letter d <;> rfl
      · have hc' : small c = false := by simpa using hc
        simp [hc', isName]
end Go.Vs.G

namespace Go.Vs
open Go
/-- a loop that keeps some -/
theorem filtS {α γ R : Type} [Inhabited α] {c : α → Bool} (l : List α) (hl : l.length ≤ 4294967296)
    {body : List α × Int → Option (Step (List α × Int) (List α) R)} {kb : List α → Option γ} {kr : R → Option γ}
    (hb : ∀ (out : List α) (i : Nat), i < l.length → out.length ≤ i → body (out, (i : Int)) = some (.next (if c (gd l i) = true then out ++ [gd l i] else out, (i : Int) + 1)))
    (he : ∀ (out : List α), body (out, (l.length : Int)) = some (.brk out)) :
    onL (loop body loopLim ([], 0)) kb kr = kb (l.filter c) := by
  have := loop_brk (body := body) (fun j : Nat => ((l.take j).filter c, (j : Int))) (b := l.filter c) l.length (by omega) (fun j hj => by
    rw [hb _ j hj (Nat.le_trans (List.length_filter_le _ _) (by simp; omega)), List.take_add_one, List.getElem?_eq_getElem hj, List.filter_append, ← gd_of hj]
    cases hc : c (gd l j) <;> simp [hc]) (by simp only [List.take_length]; exact he _)
  simp only [List.take_zero, List.filter_nil, Int.natCast_zero] at this
  rw [this]; rfl
end Go.Vs
namespace Go.Vs.G
open Go Go.Vs
abbrev wShow : List UInt8 := [115, 104, 111, 119]
abbrev wHide : List UInt8 := [104, 105, 100, 101]
abbrev wTurn : List UInt8 := [116, 117, 114, 110]
theorem beqd {α : Type} [BEq α] [LawfulBEq α] [DecidableEq α] (a b : α) : (a == b) = decide (a = b) := by
  rw [Bool.eq_iff_iff]; simp
/-- whether a slide is shown behind the first k acts -/
def shown (acts : List GAct) (s : List UInt8) : Nat → Bool
  | 0 => false
  | k + 1 => if (gd acts k).Slide = s ∧ (gd acts k).Word ≠ wTurn then decide ((gd acts k).Word = wShow) else shown acts s k
theorem shown_congr {a b : List GAct} {s : List UInt8} : ∀ {k : Nat}, (∀ i, i < k → (gd a i).Slide = (gd b i).Slide ∧ (gd a i).Word = (gd b i).Word) → shown a s k = shown b s k
  | 0, _ => rfl
  | k + 1, h => by
    rw [shown, shown, (h k (by omega)).1, (h k (by omega)).2, shown_congr fun i hi => h i (by omega)]
theorem isShown_eq {a : List GAct} (s : List UInt8) (hl : a.length ≤ 1000000) : impl_isShown a s = some (shown a s a.length) := by
  unfold impl_isShown
  refine eq_of_wp ?_
  refine wp_loop (fun i : Int => ∃ k : Nat, i = (k : Int) - 1 ∧ k ≤ a.length ∧ shown a s k = shown a s a.length) (fun i => (i + 1).toNat) ⟨a.length, by rw [w64_id (by omega) (by omega)], by omega, rfl⟩ (by rw [w64_id (by omega) (by omega)]; omega) ?_
  rintro _ ⟨k, rfl, hk, he⟩
  refine wp_ite (fun h0 => ?_) (fun h0 => ?_)
  · have hk1 : k - 1 < a.length := by omega
    rw [show (k : Int) - 1 = ((k - 1 : Nat) : Int) by omega, at_gd hk1, Option.bind_some, Option.bind_some, Option.bind_some]
    have hs : shown a s k = if (gd a (k - 1)).Slide = s ∧ (gd a (k - 1)).Word ≠ wTurn then decide ((gd a (k - 1)).Word = wShow) else shown a s (k - 1) := by
      rw [show k = k - 1 + 1 by omega, shown, Nat.add_sub_cancel]
    by_cases h1 : (gd a (k - 1)).Slide = s
    · by_cases h2 : (gd a (k - 1)).Word = wTurn
      · have e : ((gd a (k - 1)).Word == wTurn) = true := beq_iff_eq.2 h2
        rw [if_pos (beq_iff_eq.2 h1), e, Bool.not_true, Option.bind_some, if_neg (by simp), w64_id (by omega) (by omega)]
        refine wp_some ⟨⟨k - 1, by omega, by omega, ?_⟩, by omega⟩
        rw [← he, hs, if_neg (fun h => h.2 h2)]
      · have e : ((gd a (k - 1)).Word == wTurn) = false := by simpa using h2
        rw [if_pos (beq_iff_eq.2 h1), e, Bool.not_false, Option.bind_some, if_pos rfl]
        refine wp_some (wp_some ?_)
        rw [← he, hs, if_pos ⟨h1, h2⟩]; exact beqd _ _
    · rw [if_neg (fun h => h1 (beq_iff_eq.1 h)), Option.bind_some, if_neg (by simp), w64_id (by omega) (by omega)]
      refine wp_some ⟨⟨k - 1, by omega, by omega, ?_⟩, by omega⟩
      rw [← he, hs, if_neg (fun h => h1 h.1)]
  · obtain rfl : k = 0 := by omega
    exact wp_some (wp_some he)
theorem l18Is_eq {a : List GAct} (s : List UInt8) (hl : a.length ≤ 1000000) : spec_l18Is a s = some (shown a s a.length) := by
  unfold spec_l18Is
  refine eq_of_wp ?_
  refine wp_cnt (fun k => (shown a s k, (k : Int))) a.length rfl (by omega) (fun k hk => ?_) (b := shown a s a.length) ?_ (wp_some rfl)
  · simp only
    rw [if_pos (by omega), at_gd hk, Option.bind_some, Option.bind_some, Option.bind_some, w64_id (n := (k : Int) + 1) (by omega) (by omega), shown]
    by_cases h1 : (gd a k).Slide = s
    · by_cases h2 : (gd a k).Word = wTurn
      · have e : ((gd a k).Word == wTurn) = true := beq_iff_eq.2 h2
        rw [if_pos (beq_iff_eq.2 h1), e, Bool.not_true, Option.bind_some, if_neg (by simp), if_neg (fun h => h.2 h2)]; rfl
      · have e : ((gd a k).Word == wTurn) = false := by simpa using h2
        rw [if_pos (beq_iff_eq.2 h1), e, Bool.not_false, Option.bind_some, if_pos rfl, if_pos ⟨h1, h2⟩, beqd]; rfl
    · rw [if_neg (fun h => h1 (beq_iff_eq.1 h)), Option.bind_some, if_neg (by simp), if_neg (fun h => h1 h.1)]; rfl
  · simp only; rw [if_neg (by omega)]
/- slides -/
theorem hasSlide_eq {x : GScript} (s : List UInt8) (hl : x.Slides.length ≤ 1000000) : impl_Script_hasSlide x s = some (decide (s ∈ x.Slides)) := by
  unfold impl_Script_hasSlide slices_Contains_string_string_809 slices_Index_string_string_832
  refine (congrArg (fun o => Option.bind o _) (contS (f := fun v => some (s == v)) (fun v => s == v) x.Slides (fun _ _ => rfl) (by omega) (fun _ => rfl))).trans ?_
  rw [Option.bind_some]
  congr 1
  rw [Bool.eq_iff_iff, List.any_eq_true, decide_eq_true_eq]
  exact ⟨fun ⟨v, h1, h2⟩ => by rw [beq_iff_eq.1 h2]; exact h1, fun h => ⟨s, h, beq_self_eq_true s⟩⟩
theorem l18Has_eq {l : List (List UInt8)} (s : List UInt8) (hl : l.length ≤ 1000000) : spec_l18Has l s = some (decide (s ∈ l)) := by
  unfold spec_l18Has
  refine eq_of_wp ?_
  refine wp_loop (fun i : Int => ∃ k : Nat, i = (k : Int) ∧ k ≤ l.length ∧ ∀ j, j < k → gd l j ≠ s) (fun i => (l.length - i).toNat) ⟨0, rfl, by omega, by omega⟩ (by omega) ?_
  rintro _ ⟨k, rfl, hk, hall⟩
  refine wp_ite (fun h => ?_) (fun h => wp_some (wp_some ?_))
  · have hk' : k < l.length := by omega
    rw [at_gd hk', Option.bind_some]
    refine wp_ite (fun h1 => wp_some (wp_some ?_)) (fun h1 => ?_)
    · rw [← beq_iff_eq.1 h1]; exact (decide_eq_true (gd_mem hk')).symm
    · rw [w64_id (by omega) (by omega)]
      refine wp_some ⟨⟨k + 1, rfl, by omega, fun j hj => ?_⟩, by omega⟩
      rcases Nat.lt_or_ge j k with h2 | h2
      · exact hall j h2
      · rw [show j = k by omega]; exact fun h => h1 (beq_iff_eq.2 h)
  · obtain rfl : k = l.length := by omega
    refine (decide_eq_false fun hm => ?_).symm
    obtain ⟨j, hj, he⟩ := mem_gd hm
    exact hall j hj he.symm
/-- what is said of an act that is added -/
def actC (x : GScript) (a : GAct) : Int :=
  if (decide (a.Word = wShow) || (decide (a.Word = wHide) || decide (a.Word = wTurn))) = false then 1 else if decide (a.Slide ∈ x.Slides) = false then 6
  else if (decide (0 ≤ a.Tick ∧ a.Tick ≤ 10000) && (decide (0 ≤ a.Many ∧ a.Many ≤ 1000) && (decide (a.Many = 0) || decide (a.Word = wTurn)))) = false then 4
  else if decide (0 < x.Acts.length ∧ (gd x.Acts (x.Acts.length - 1)).Tick > a.Tick) = true then 7
  else if (decide (a.Word = wShow) == shown x.Acts a.Slide x.Acts.length) = true then 5 else if decide (60 ≤ x.Acts.length) = true then 8 else 0
def actR (x : GScript) (a : GAct) : Int × GScript := (actC x a, if actC x a = 0 then GScript.mk x.Slides (x.Acts ++ [a]) else x)
def sldC (l : List (List UInt8)) (s : List UInt8) : Int := if isName s = false then 3 else if s ∈ l then 5 else if 60 ≤ l.length then 8 else 0
def sldR (x : GScript) (s : List UInt8) : Int × GScript := (sldC x.Slides s, if sldC x.Slides s = 0 then GScript.mk (x.Slides ++ [s]) x.Acts else x)
theorem lastTick {x : GScript} (ha : x.Acts.length ≤ 60) (a : GAct) : (if (x.Acts.length : Int) > 0 then
 ((at? x.Acts (w64 ((x.Acts.length : Int) - 1))).bind fun v1 =>
 some (decide (v1.Tick > a.Tick)))
 else
 some false) = some (decide (0 < x.Acts.length ∧ (gd x.Acts (x.Acts.length - 1)).Tick > a.Tick)) := by
  by_cases h : 0 < x.Acts.length
  · rw [if_pos (by omega), w64_id (by omega) (by omega), show (x.Acts.length : Int) - 1 = ((x.Acts.length - 1 : Nat) : Int) by omega, at_gd (by omega), Option.bind_some]
    exact congrArg some (decide_eq_decide.2 ⟨fun h2 => ⟨h, h2⟩, fun h2 => h2.2⟩)
  · rw [if_neg (by omega), decide_eq_false (fun h2 => h h2.1)]
section
variable {x : GScript} (hs : x.Slides.length ≤ 60) (ha : x.Acts.length ≤ 60)
include hs ha
theorem addAct_eq (a : GAct) : impl_Script_addAct x a = some (actR x a) := by
  unfold impl_Script_addAct actR actC
  rw [hasSlide_eq _ (by omega), within_d, within_d, isShown_eq _ (by omega), lastTick ha]
  simp only [beqd, Option.bind_some]
  have ha' : app? x.Acts [a] = some (x.Acts ++ [a]) := app_ok (by simp; omega)
  rw [ha']
  generalize decide (a.Word = [115, 104, 111, 119]) = b1
  generalize decide (a.Word = [104, 105, 100, 101]) = b2
  generalize decide (a.Word = [116, 117, 114, 110]) = b3
  generalize decide (a.Slide ∈ x.Slides) = b4
  generalize decide (0 ≤ a.Tick ∧ a.Tick ≤ 10000) = b5
  generalize decide (0 ≤ a.Many ∧ a.Many ≤ 1000) = b6
  generalize decide (0 < x.Acts.length ∧ (gd x.Acts (x.Acts.length - 1)).Tick > a.Tick) = b8
  generalize shown x.Acts a.Slide x.Acts.length = b9
  by_cases h7 : a.Many = 0 <;> by_cases h10 : x.Acts.length = 60
  · simp only [h7, h10, decide_true, if_true]
    cases b4 <;> cases b1 <;> cases b2 <;> cases b3 <;> cases b5 <;> cases b6 <;> cases b8 <;> cases b9 <;> rfl
  · have g1 : ¬ (x.Acts.length : Int) = 60 := by omega
    have g2 : ¬ (x.Acts.length : Int) ≥ 60 := by omega
    have g3 : ¬ 60 ≤ x.Acts.length := by omega
    simp only [h7, g1, g2, g3, decide_true, decide_false, if_true, if_false]
    cases b4 <;> cases b1 <;> cases b2 <;> cases b3 <;> cases b5 <;> cases b6 <;> cases b8 <;> cases b9 <;> rfl
  · simp only [h7, h10, decide_true, decide_false, if_true, if_false]
    cases b4 <;> cases b1 <;> cases b2 <;> cases b3 <;> cases b5 <;> cases b6 <;> cases b8 <;> cases b9 <;> rfl
  · have g1 : ¬ (x.Acts.length : Int) = 60 := by omega
    have g2 : ¬ (x.Acts.length : Int) ≥ 60 := by omega
    have g3 : ¬ 60 ≤ x.Acts.length := by omega
    simp only [h7, g1, g2, g3, decide_true, decide_false, if_true, if_false]
    cases b4 <;> cases b1 <;> cases b2 <;> cases b3 <;> cases b5 <;> cases b6 <;> cases b8 <;> cases b9 <;> rfl
theorem l18Act_eq (a : GAct) : spec_l18Act x a = some (actR x a) := by
  unfold spec_l18Act actR actC
  rw [l18Has_eq _ (by omega), l00In_d, l00In_d, l18Is_eq _ (by omega), lastTick ha]
  simp only [beqd, Option.bind_some]
  have ha' : app? x.Acts [a] = some (x.Acts ++ [a]) := app_ok (by simp; omega)
  rw [ha']
  generalize decide (a.Word = [115, 104, 111, 119]) = b1
  generalize decide (a.Word = [104, 105, 100, 101]) = b2
  generalize decide (a.Word = [116, 117, 114, 110]) = b3
  generalize decide (a.Slide ∈ x.Slides) = b4
  generalize decide (0 ≤ a.Tick ∧ a.Tick ≤ 10000) = b5
  generalize decide (0 ≤ a.Many ∧ a.Many ≤ 1000) = b6
  generalize decide (0 < x.Acts.length ∧ (gd x.Acts (x.Acts.length - 1)).Tick > a.Tick) = b8
  generalize shown x.Acts a.Slide x.Acts.length = b9
  by_cases h7 : a.Many = 0 <;> by_cases h10 : x.Acts.length = 60
  · simp only [h7, h10, decide_true, if_true]
    cases b4 <;> cases b1 <;> cases b2 <;> cases b3 <;> cases b5 <;> cases b6 <;> cases b8 <;> cases b9 <;> rfl
  · have g1 : ¬ (x.Acts.length : Int) = 60 := by omega
    have g2 : ¬ (x.Acts.length : Int) ≥ 60 := by omega
    have g3 : ¬ 60 ≤ x.Acts.length := by omega
    simp only [h7, g1, g2, g3, decide_true, decide_false, if_true, if_false]
    cases b4 <;> cases b1 <;> cases b2 <;> cases b3 <;> cases b5 <;> cases b6 <;> cases b8 <;> cases b9 <;> rfl
  · simp only [h7, h10, decide_true, decide_false, if_true, if_false]
    cases b4 <;> cases b1 <;> cases b2 <;> cases b3 <;> cases b5 <;> cases b6 <;> cases b8 <;> cases b9 <;> rfl
  · have g1 : ¬ (x.Acts.length : Int) = 60 := by omega
    have g2 : ¬ (x.Acts.length : Int) ≥ 60 := by omega
    have g3 : ¬ 60 ≤ x.Acts.length := by omega
    simp only [h7, g1, g2, g3, decide_true, decide_false, if_true, if_false]
    cases b4 <;> cases b1 <;> cases b2 <;> cases b3 <;> cases b5 <;> cases b6 <;> cases b8 <;> cases b9 <;> rfl
end
end Go.Vs.G

namespace Go.Vs.G
open Go Go.Vs
def smallS (x : GScript) : Prop := x.Slides.length ≤ 1000 ∧ x.Acts.length ≤ 1000 ∧ ∀ s, s ∈ x.Slides → s.length ≤ 1000
theorem addSlide_eq {x : GScript} {s : List UInt8} (hs : x.Slides.length ≤ 60) (hn : s.length ≤ 1000) : impl_Script_addSlide x s = some (sldR x s) := by
  unfold impl_Script_addSlide sldR sldC
  rw [impl_IsName_eq _ (by omega), hasSlide_eq _ (by omega), Option.bind_some, Option.bind_some, app_ok (by simp; omega)]
  cases isName s with
  | false => rfl
  | true =>
    by_cases h : s ∈ x.Slides
    · simp [h]
    · by_cases h2 : x.Slides.length = 60
      · simp [h, h2]
      · have g1 : ¬ (x.Slides.length : Int) = 60 := by omega
        have g3 : ¬ 60 ≤ x.Slides.length := by omega
        simp [h, g1, g3]
theorem l18Slide_eq {x : GScript} {s : List UInt8} (hs : x.Slides.length ≤ 60) (hn : s.length ≤ 1000) : spec_l18Slide x s = some (sldR x s) := by
  unfold spec_l18Slide sldR sldC
  rw [spec_IsName_eq _ (by omega), l18Has_eq _ (by omega), Option.bind_some, Option.bind_some, app_ok (by simp; omega)]
  cases isName s with
  | false => rfl
  | true =>
    by_cases h : s ∈ x.Slides
    · simp [h]
    · by_cases h2 : x.Slides.length = 60
      · simp [h, h2]
      · have g1 : ¬ (x.Slides.length : Int) ≥ 60 := by omega
        have g3 : ¬ 60 ≤ x.Slides.length := by omega
        simp [h, g1, g3]
def VS (x : GScript) : Prop := (∀ i, i < x.Slides.length → sldC (x.Slides.take i) (gd x.Slides i) = 0) ∧ ∀ i, i < x.Acts.length → actC (GScript.mk x.Slides (x.Acts.take i)) (gd x.Acts i) = 0
open Classical in
noncomputable def vsc (x : GScript) : Bool := decide (VS x)
theorem vsc_iff {x : GScript} : vsc x = true ↔ VS x := by unfold vsc; simp only [decide_eq_true_eq]
theorem sldC_lt {l : List (List UInt8)} {s : List UInt8} (h : sldC l s = 0) : l.length < 60 := by
  unfold sldC at h
  split at h
  · cases h
  · split at h
    · cases h
    · split at h
      · cases h
      · omega
theorem actC_lt {x : GScript} {a : GAct} (h : actC x a = 0) : x.Acts.length < 60 := by
  unfold actC at h
  split at h
  · cases h
  · split at h
    · cases h
    · split at h
      · cases h
      · split at h
        · cases h
        · split at h
          · cases h
          · split at h
            · cases h
            · rename_i h1
              simp only [decide_eq_true_eq] at h1; omega
theorem take_snoc {α : Type} [Inhabited α] {l : List α} {k : Nat} (h : k < l.length) : l.take k ++ [gd l k] = l.take (k + 1) := by
  rw [List.take_add_one, List.getElem?_eq_getElem h, gd_of h]; rfl
theorem validLoop {x : GScript} (hx : smallS x) {fS : GScript → List UInt8 → Option (Int × GScript)} {fA : GScript → GAct → Option (Int × GScript)}
    (hS : ∀ (own : GScript) s, own.Slides.length ≤ 60 → s.length ≤ 1000 → fS own s = some (sldR own s)) (hA : ∀ (own : GScript) a, own.Slides.length ≤ 60 → own.Acts.length ≤ 60 → fA own a = some (actR own a)) :
 onL (loop (S := (GScript × Int)) (B := GScript) (R := Bool) (fun ((own1, x2) : GScript × Int) =>
 if x2 < (x.Slides.length : Int) then
 ((at? x.Slides x2).bind fun v1 =>
 (fS own1 v1).bind fun r1 =>
 if r1.1 = 0 then
 (some (.next (r1.2, w64 (x2 + 1))))
 else
 some (.ret false))
 else
 some (.brk own1)) loopLim ((GScript.mk [] []), 0))
 (fun (own2 : GScript) => onL (loop (S := (GScript × Int)) (B := Unit) (R := Bool) (fun ((own3, x3) : GScript × Int) =>
 if x3 < (x.Acts.length : Int) then
 ((at? x.Acts x3).bind fun v2 =>
 (fA own3 v2).bind fun r2 =>
 if r2.1 = 0 then
 (some (.next (r2.2, w64 (x3 + 1))))
 else
 some (.ret false))
 else
 some (.brk ())) loopLim (own2, 0))
 (fun (_ : Unit) => some true) (fun r => some r)) (fun r => some r) = some (vsc x) := by
  obtain ⟨x1, x2, x3⟩ := hx
  have hf : ¬ VS x → vsc x = false := fun h => by
    cases hv : vsc x with
    | false => rfl
    | true => exact absurd (vsc_iff.1 hv) h
  refine eq_of_wp ?_
  refine wp_loop (fun q : GScript × Int => ∃ k : Nat, q.2 = (k : Int) ∧ k ≤ x.Slides.length ∧ k ≤ 60 ∧ q.1 = GScript.mk (x.Slides.take k) [] ∧ ∀ i, i < k → sldC (x.Slides.take i) (gd x.Slides i) = 0) (fun q => (x.Slides.length - q.2).toNat) ⟨0, rfl, by omega, by omega, by simp, by omega⟩ (by simp only; omega) ?_
  rintro ⟨own, i⟩ ⟨k, rfl, k1, k2, rfl, k3⟩
  simp only
  refine wp_ite (fun h => ?_) (fun h => wp_some ?_)
  · have hk : k < x.Slides.length := by omega
    rw [at_gd hk, Option.bind_some, hS _ _ (by simp; omega) (x3 _ (gd_mem hk)), Option.bind_some]
    unfold sldR
    simp only
    by_cases hc : sldC (x.Slides.take k) (gd x.Slides k) = 0
    · have := sldC_lt hc
      simp only [List.length_take] at this
      rw [if_pos hc, if_pos hc, take_snoc hk, w64_id (by omega) (by omega)]
      refine wp_some ⟨⟨k + 1, rfl, by omega, by omega, rfl, fun i hi => ?_⟩, by simp only; omega⟩
      rcases Nat.lt_or_ge i k with h1 | h1
      · exact k3 i h1
      · rw [show i = k by omega]; exact hc
    · rw [if_neg hc]
      exact wp_some (wp_some (hf fun hv => hc (hv.1 k hk)).symm)
  · obtain rfl : k = x.Slides.length := by omega
    rw [List.take_length]
    refine wp_loop (fun q : GScript × Int => ∃ k : Nat, q.2 = (k : Int) ∧ k ≤ x.Acts.length ∧ k ≤ 60 ∧ q.1 = GScript.mk x.Slides (x.Acts.take k) ∧ ∀ i, i < k → actC (GScript.mk x.Slides (x.Acts.take i)) (gd x.Acts i) = 0) (fun q => (x.Acts.length - q.2).toNat) ⟨0, rfl, by omega, by omega, by simp, by omega⟩ (by simp only; omega) ?_
    rintro ⟨own, i⟩ ⟨k, rfl, q1, q2, rfl, q3⟩
    simp only
    refine wp_ite (fun h => ?_) (fun h => wp_some (wp_some ?_))
    · have hk : k < x.Acts.length := by omega
      rw [at_gd hk, Option.bind_some, hA _ _ (by simp only; omega) (by simp; omega), Option.bind_some]
      unfold actR
      simp only
      by_cases hc : actC (GScript.mk x.Slides (x.Acts.take k)) (gd x.Acts k) = 0
      · have := actC_lt hc
        simp only [List.length_take] at this
        rw [if_pos hc, if_pos hc, take_snoc hk, w64_id (by omega) (by omega)]
        refine wp_some ⟨⟨k + 1, rfl, by omega, by omega, rfl, fun i hi => ?_⟩, by simp only; omega⟩
        rcases Nat.lt_or_ge i k with h1 | h1
        · exact q3 i h1
        · rw [show i = k by omega]; exact hc
      · rw [if_neg hc]
        exact wp_some (wp_some (hf fun hv => hc (hv.2 k hk)).symm)
    · obtain rfl : k = x.Acts.length := by omega
      exact (vsc_iff.2 ⟨k3, q3⟩).symm
theorem ValidScript_eq {x : GScript} (hx : smallS x) : impl_ValidScript x = some (vsc x) := by
  unfold impl_ValidScript
  exact validLoop hx (fun own s h1 h2 => addSlide_eq h1 h2) (fun own a h1 h2 => addAct_eq h1 h2 a)
theorem l18Ok_eq {x : GScript} (hx : smallS x) : spec_l18Ok x = some (vsc x) := by
  unfold spec_l18Ok spec_l18Empty
  rw [Option.bind_some]
  exact validLoop hx (fun own s h1 h2 => l18Slide_eq h1 h2) (fun own a h1 h2 => l18Act_eq h1 h2 a)
/- what a valid script is -/
structure VF (x : GScript) : Prop where
  s60 : x.Slides.length ≤ 60
  a60 : x.Acts.length ≤ 60
  t : ∀ i, i < x.Acts.length → 0 ≤ (gd x.Acts i).Tick ∧ (gd x.Acts i).Tick ≤ 10000
  m : ∀ i, 0 < i → i < x.Acts.length → (gd x.Acts (i - 1)).Tick ≤ (gd x.Acts i).Tick
  alt : ∀ i, i < x.Acts.length → decide ((gd x.Acts i).Word = wShow) ≠ shown x.Acts (gd x.Acts i).Slide i
theorem gd_take {α : Type} [Inhabited α] {l : List α} {i k : Nat} (h : i < k) : gd (l.take k) i = gd l i := by
  unfold gd; rw [List.getD_eq_getElem?_getD, List.getD_eq_getElem?_getD, List.getElem?_take, if_pos h]
theorem VS.facts {x : GScript} (h : VS x) : VF x := by
  have hA : ∀ i, i < x.Acts.length → (0 ≤ (gd x.Acts i).Tick ∧ (gd x.Acts i).Tick ≤ 10000) ∧ (0 < i → (gd x.Acts (i - 1)).Tick ≤ (gd x.Acts i).Tick) ∧ decide ((gd x.Acts i).Word = wShow) ≠ shown x.Acts (gd x.Acts i).Slide i := by
    intro i hi
    have hc := h.2 i hi
    have hlen : (x.Acts.take i).length = i := by rw [List.length_take]; omega
    unfold actC at hc
    simp only [hlen] at hc
    split at hc
    · cases hc
    · split at hc
      · cases hc
      · split at hc
        · cases hc
        · rename_i g4
          split at hc
          · cases hc
          · rename_i g7
            split at hc
            · cases hc
            · rename_i g5
              simp only [Bool.and_eq_true, decide_eq_true_eq, Bool.not_eq_false] at g4
              simp only [decide_eq_true_eq] at g7
              refine ⟨g4.1, fun h0 => ?_, fun he => ?_⟩
              · rw [gd_take (show i - 1 < i by omega)] at g7; omega
              · refine g5 (beq_iff_eq.2 (he.trans ?_))
                exact shown_congr fun j hj => by rw [gd_take hj]; exact ⟨rfl, rfl⟩
  refine ⟨?_, ?_, fun i hi => (hA i hi).1, fun i h0 hi => (hA i hi).2.1 h0, fun i hi => (hA i hi).2.2⟩
  · refine Nat.le_of_not_lt fun hlt => ?_
    have := sldC_lt (h.1 60 hlt)
    simp only [List.length_take] at this; omega
  · refine Nat.le_of_not_lt fun hlt => ?_
    have := actC_lt (h.2 60 hlt)
    simp only [List.length_take] at this; omega
/- never shown -/
/- shown at a tick -/
end Go.Vs.G

namespace Go.Vs.G
open Go Go.Vs
theorem wp_textA {α : Type} {B : Int} {s : GL00Src} {l : List (List UInt8)} {k : List UInt8 × GL00Src → Option α} {Q : α → Prop} (h : SrcOk B s) (hB : B ≤ 4611686018427387000) (hl : 1 ≤ l.length) (hl2 : l.length ≤ 1000) (hk : ∀ v s', v ∈ l → SrcOk (B + 2) s' → wp (k (v, s')) Q) : wp ((spec_l00Src_text s l).bind k) Q := by
  unfold spec_l00Src_text
  rw [Option.bind_assoc]
  refine wp_pick h hB fun v s' v0 v1 h2 => ?_
  have hv : v.toNat < l.length := by omega
  rw [at_ok v0 hv, Option.bind_some, Option.bind_some]
  exact hk _ _ (List.getElem_mem hv) h2
theorem l18Draw_ok {B : Int} {s : GL00Src} (h : SrcOk B s) (hB : B ≤ 4611686018427300000) : wp (spec_l18Draw s) fun r => r.1.Slides.length ≤ 5 ∧ r.1.Acts.length ≤ 11 ∧ (∀ s, s ∈ r.1.Slides → s.length ≤ 100) ∧ SrcOk (B + 1000) r.2 := by
  unfold spec_l18Draw spec_l18Empty
  rw [Option.bind_some]
  refine wp_pick h (by omega) fun n s1 n0 n1 h1 => ?_
  simp only
  refine wp_loop (fun q : List (List UInt8) × Int => 0 ≤ q.2 ∧ q.1.length + q.2.toNat = n.toNat ∧ ∀ s, s ∈ q.1 → s.length ≤ 100) (fun q => q.2.toNat) ⟨n0, by simp, by simp⟩ (by simp only; omega) ?_
  rintro ⟨sl, k⟩ ⟨g1, g2, g3⟩
  simp only at g1 g2 g3 ⊢
  refine wp_ite (fun hk => ?_) (fun hk => wp_some ?_)
  · have hlt : sl.length < 5 := by omega
    rw [at_gd (l := [[99, 97, 115, 116, 108, 101], [109, 111, 111, 110], [114, 97, 116, 45, 50], [115, 104, 105, 112], [115, 116, 111, 114, 109]]) (by simpa using hlt), Option.bind_some, w64_id (by omega) (by omega)]
    refine wp_app (by simp; omega) (wp_some ⟨⟨by simp only; omega, by simp only [List.length_append, List.length_singleton]; omega, fun s hs => ?_⟩, by simp only; omega⟩)
    rcases List.mem_append.1 hs with hs | hs
    · exact g3 s hs
    · have hm := gd_mem (l := ([[99, 97, 115, 116, 108, 101], [109, 111, 111, 110], [114, 97, 116, 45, 50], [115, 104, 105, 112], [115, 116, 111, 114, 109]] : List (List UInt8))) (i := sl.length) (by simpa using hlt)
      rw [List.mem_singleton.1 hs]
      revert hm
      generalize gd ([[99, 97, 115, 116, 108, 101], [109, 111, 111, 110], [114, 97, 116, 45, 50], [115, 104, 105, 112], [115, 116, 111, 114, 109]] : List (List UInt8)) sl.length = v
      intro hm
      have hall : ∀ v : List UInt8, v ∈ ([[99, 97, 115, 116, 108, 101], [109, 111, 111, 110], [114, 97, 116, 45, 50], [115, 104, 105, 112], [115, 116, 111, 114, 109]] : List (List UInt8)) → v.length ≤ 100 := by decide
      exact hall v hm
  · refine wp_pick h1 (by omega) fun m s2 m0 m1 h2 => ?_
    refine wp_loop (fun q : GL00Src × GScript × Int × Int => SrcOk (B + 4 + 10 * (m - q.2.2.2)) q.1 ∧ q.2.1.Slides = sl ∧ 0 ≤ q.2.2.2 ∧ q.2.2.2 ≤ m ∧ (q.2.1.Acts.length : Int) ≤ m - q.2.2.2) (fun q => q.2.2.2.toNat) ⟨h2.mono (by simp only; omega), rfl, m0, by simp only; omega, by simp⟩ (by simp only; omega) ?_
    rintro ⟨s3, x, tick, k2⟩ ⟨q1, q2, q3, q4, q5⟩
    simp only at q1 q2 q3 q4 q5 ⊢
    refine wp_seq (P := fun b => b = true → 0 < k2 ∧ 0 < sl.length) (wp_ite (fun hp => wp_some fun hb => ⟨hp, by have := of_decide_eq_true hb; rw [q2] at this; omega⟩) (fun _ => wp_some (by simp))) fun b hb => ?_
    refine wp_bif (fun hbb => ?_) (fun _ => wp_some (wp_some ⟨by simp only; rw [q2]; omega, by simp only; omega, by simp only; rw [q2]; exact g3, q1.mono (by omega)⟩))
    obtain ⟨p1, p2⟩ := hb hbb
    refine wp_textA q1 (by omega) (by simp) (by simp) fun w s4 hw h4 => wp_pick h4 (by omega) fun u s5 u0 u1 h5 => ?_
    simp only
    rw [q2] at u1 ⊢
    rw [show u = ((u.toNat : Nat) : Int) by omega, at_gd (l := sl) (by omega), Option.bind_some]
    refine wp_seq (P := fun q => SrcOk (B + 4 + 10 * (m - k2) + 6) q.1) (wp_ite (fun _ => wp_pick h5 (by omega) fun v s6 _ _ h6 => wp_some (h6.mono (by omega))) (fun _ => wp_some (h5.mono (by omega)))) ?_
    rintro ⟨s6, a1⟩ h6
    simp only at h6 ⊢
    have hsl : sl.length ≤ 5 := by omega
    rw [l18Act_eq (by rw [q2]; omega) (by omega), Option.bind_some]
    refine wp_pick h6 (by omega) fun v s7 _ _ h7 => ?_
    simp only
    rw [w64_id (n := k2 - 1) (by omega) (by omega)]
    refine wp_some ⟨⟨h7.mono (by simp only; omega), ?_, by simp only; omega, by simp only; omega, ?_⟩, by simp only; omega⟩
    · unfold actR; simp only; split
      · exact q2
      · exact q2
    · unfold actR; simp only; split
      · simp only [List.length_append, List.length_singleton]; omega
      · omega
theorem l18Bent_ok {B : Int} {s : GL00Src} (h : SrcOk B s) (hB : B ≤ 4611686018427200000) : wp (spec_l18Bent s) fun r => smallS r.1 ∧ SrcOk (B + 2000) r.2 := by
  unfold spec_l18Bent
  refine wp_seq (l18Draw_ok h (by omega)) fun r hr => ?_
  obtain ⟨r1, r2, r3, hs⟩ := hr
  refine wp_pick hs (by omega) fun n s1 n0 n1 h1 => ?_
  simp only
  have hsm : smallS r.1 := ⟨by omega, by omega, fun s hs => Nat.le_trans (r3 s hs) (by omega)⟩
  refine wp_ite (fun _ => wp_textA h1 (by omega) (by simp) (by simp) fun v s2 hv h2 => wp_app (by simp; omega) (wp_some ⟨⟨by simp; omega, by simp only; omega, fun s hs => ?_⟩, h2.mono (by omega)⟩)) (fun _ => ?_)
  · rcases List.mem_append.1 hs with hs | hs
    · exact Nat.le_trans (r3 s hs) (by omega)
    · rw [List.mem_singleton.1 hs]
      have hall : ∀ v : List UInt8, v ∈ ([[], [109, 111, 111, 110], [83, 117, 110], [115, 117, 110]] : List (List UInt8)) → v.length ≤ 1000 := by decide
      exact hall v hv
  refine wp_ite (fun _ => wp_among h1 (by omega) (by simp) (by simp) fun v s2 hv h2 => wp_textA h2 (by omega) (by simp) (by simp) fun w s3 hw h3 => wp_textA h3 (by omega) (by simp) (by simp) fun z s4 hz h4 => wp_app (by simp; omega) (wp_some ⟨⟨hsm.1, by simp; omega, hsm.2.2⟩, h4.mono (by omega)⟩)) (fun _ => ?_)
  refine wp_ite (fun _ => wp_among h1 (by omega) (by simp) (by simp) fun v s2 hv h2 => wp_app (by simp; omega) (wp_some ⟨⟨hsm.1, by simp; omega, hsm.2.2⟩, h2.mono (by omega)⟩)) (fun _ => ?_)
  refine wp_ite (fun _ => wp_pick h1 (by omega) fun v s2 v0 v1 h2 => ?_) (fun _ => wp_some ⟨hsm, h1.mono (by omega)⟩)
  simp only
  rw [w64_id (n := 60 + v) (by omega) (by omega)]
  refine wp_loop (fun q : List GAct => (q.length : Int) ≤ 60 + v) (fun q => (60 + v - q.length).toNat) (by simp; omega) (by simp; omega) ?_
  intro q hq
  refine wp_ite (fun hlt => ?_) (fun _ => wp_some (wp_some ⟨⟨by simp, by simp only; omega, by simp⟩, h2.mono (by omega)⟩))
  refine wp_seq (P := fun _ => True) (wp_ite (fun _ => wp_some trivial) (fun _ => wp_some trivial)) fun w _ => ?_
  exact wp_app (by simp; omega) (wp_some ⟨by simp; omega, by simp; omega⟩)
section
variable {code : List Int} (hc : okL (okI .u8) code) (hl : code.length ≤ 1000000)
include hc hl
end
theorem SameScript_self {a : GScript} (h1 : a.Slides.length ≤ 1000) (h2 : a.Acts.length ≤ 1000) : spec_SameScript a a = some true := by
  unfold spec_SameScript
  rw [if_pos rfl, decide_eq_true rfl]
  simp only [Bool.not_true, Option.bind_some, Bool.false_eq_true, if_false]
  refine eq_of_wp ?_
  refine wp_cnt (fun k => (k : Int)) a.Slides.length rfl (by omega) (fun k hk => ?_) (b := ()) ?_ ?_
  · rw [if_pos (by omega), at_gd hk, Option.bind_some, Option.bind_some, if_pos (beq_self_eq_true _), w64_id (by omega) (by omega)]; rfl
  · rw [if_neg (by omega)]
  · refine wp_cnt (fun k => (k : Int)) a.Acts.length rfl (by omega) (fun k hk => ?_) (b := ()) ?_ (wp_some rfl)
    · rw [if_pos (by omega), at_gd hk, Option.bind_some, Option.bind_some, if_pos (by simp), w64_id (by omega) (by omega)]; rfl
    · rw [if_neg (by omega)]
end Go.Vs.G

namespace Go.Vs.G
open Go Go.Vs

theorem ilt (a b : Int) : a < b ∨ b ≤ a := by omega
def dig (c : UInt8) : Prop := 48 ≤ c.toNat ∧ c.toNat ≤ 57
theorem ofNat_dig {d : Nat} (h : d < 10) : (UInt8.ofNat (48 + d)).toNat = 48 + d := by simp; omega
theorem dd_small {u : Nat} (h : u < 10) : Lib.decDigits u = [UInt8.ofNat (48 + u)] := by rw [Lib.decDigits, dif_pos h]
theorem dd_big {u : Nat} (h : ¬ u < 10) : Lib.decDigits u = Lib.decDigits (u / 10) ++ [UInt8.ofNat (48 + u % 10)] := by rw [Lib.decDigits, dif_neg h]
theorem dd_dig (u : Nat) : ∀ c, c ∈ Lib.decDigits u → dig c := by
  induction u using Nat.strongRecOn with
  | _ u ih =>
    intro c hc
    by_cases h : u < 10
    · rw [dd_small h, List.mem_singleton] at hc
      subst hc
      unfold dig; rw [ofNat_dig h]; omega
    · rw [dd_big h, List.mem_append, List.mem_singleton] at hc
      rcases hc with hc | hc
      · exact ih (u / 10) (by omega) c hc
      · subst hc
        unfold dig; rw [ofNat_dig (Nat.mod_lt _ (by omega))]
        have := Nat.mod_lt u (y := 10) (by omega); omega
theorem dd_len (u : Nat) : (Lib.decDigits u).length = Lib.nDigits u := Lib.decDigits_length u
theorem dd_ne (u : Nat) : Lib.decDigits u ≠ [] := by
  intro h; have := dd_len u; rw [h] at this; have := Lib.nDigits_pos u; simp at *; omega
theorem nd_le : ∀ (k u : Nat), 1 ≤ k → u < 10 ^ k → Lib.nDigits u ≤ k
  | 0, u, h, _ => by omega
  | k + 1, u, _, h => by
    by_cases h1 : u < 10
    · rw [Lib.nDigits_small h1]; omega
    · rw [Lib.nDigits_big h1]
      cases k with
      | zero => simp at h; omega
      | succ k =>
        have := nd_le (k + 1) (u / 10) (by omega) (by rw [Nat.pow_succ] at h; omega)
        omega
theorem nd_lt {k u : Nat} (h : Lib.nDigits u ≤ k) : u < 10 ^ k :=
  Nat.lt_of_lt_of_le (Lib.lt_pow_nDigits u) (Nat.pow_le_pow_right (by omega) h)
/-- what digits say -/
def dval (acc : Nat) (l : List UInt8) : Nat := l.foldl (fun a c => a * 10 + (c.toNat - 48)) acc
theorem dval_nil (acc : Nat) : dval acc [] = acc := rfl
theorem dval_cons (acc : Nat) (c : UInt8) (r : List UInt8) : dval acc (c :: r) = dval (acc * 10 + (c.toNat - 48)) r := by unfold dval; rw [List.foldl_cons]
theorem dval_append (l m : List UInt8) (acc : Nat) : dval acc (l ++ m) = dval (dval acc l) m := by unfold dval; rw [List.foldl_append]
theorem dval_dd (u : Nat) : dval 0 (Lib.decDigits u) = u := by
  induction u using Nat.strongRecOn with
  | _ u ih =>
    by_cases h : u < 10
    · rw [dd_small h, dval_cons, dval_nil, ofNat_dig h]; omega
    · have h1 := ih (u / 10) (by omega)
      have h2 : (UInt8.ofNat (48 + u % 10)).toNat = 48 + u % 10 := ofNat_dig (Nat.mod_lt _ (by omega))
      rw [dd_big h, dval_append, h1, dval_cons, dval_nil, h2]; omega
theorem dval_ge : ∀ (l : List UInt8) (acc : Nat), acc ≤ dval acc l
  | [], acc => Nat.le_refl _
  | c :: r, acc => by rw [dval_cons]; have := dval_ge r (acc * 10 + (c.toNat - 48)); omega
theorem parseUintM_val {M : Nat} (hM : M < 18446744073709551616) : ∀ (l : List UInt8) (acc : Nat), (∀ c, c ∈ l → dig c) → dval acc l ≤ M → Lib.parseUintM M acc l = .ok (dval acc l)
  | [], acc, _, _ => rfl
  | c :: r, acc, h, hv => by
    have hc := h c (by simp)
    rw [dval_cons] at hv ⊢
    have hg := dval_ge r (acc * 10 + (c.toNat - 48))
    unfold dig at hc
    rw [Lib.parseUintM, if_pos hc, if_neg (by omega), if_neg (by omega)]
    exact parseUintM_val hM r _ (fun x hx => h x (by simp [hx])) hv
theorem parseUint_dd {u : Nat} (h : u < 18446744073709551616) : Lib.parseUintB 64 (Lib.decDigits u) = .ok u := by
  unfold Lib.parseUintB
  have h64 : (2 : Nat) ^ 64 - 1 = 18446744073709551615 := by decide
  rw [if_neg (dd_ne u), h64, parseUintM_val (M := 18446744073709551615) (by omega) _ _ (dd_dig u) (by rw [dval_dd]; omega), dval_dd]
/-- a number's text -/
abbrev txt (n : Int) : List UInt8 := Lib.itoa n
theorem txt_neg {n : Int} (h : n < 0) : txt n = 45 :: Lib.decDigits n.natAbs := by simp [txt, Lib.itoa, h]
theorem txt_pos {n : Int} (h : 0 ≤ n) : txt n = Lib.decDigits n.toNat := by simp [txt, Lib.itoa]; omega
theorem parse_txt {n : Int} (h0 : -9223372036854775808 ≤ n) (h1 : n ≤ 9223372036854775807) : Lib.parseIntB 64 (txt n) = .ok n := by
  rcases ilt n 0 with h | h
  · rw [txt_neg h]
    have h45 : (45 : UInt8).toNat = 45 := rfl
    simp only [Lib.parseIntB, h45, or_true, if_true, true_and, not_true, false_and, if_false]
    rw [parseUint_dd (by omega)]
    simp only
    rw [if_neg (by omega)]
    congr 1; omega
  · rw [txt_pos h]
    obtain ⟨c, r, hcr⟩ : ∃ c r, Lib.decDigits n.toNat = c :: r := by
      cases hd : Lib.decDigits n.toNat with
      | nil => exact absurd hd (dd_ne _)
      | cons c r => exact ⟨c, r, rfl⟩
    have hc : dig c := dd_dig n.toNat c (by rw [hcr]; simp)
    have hp := parseUint_dd (u := n.toNat) (by omega)
    rw [hcr] at hp ⊢
    unfold dig at hc
    simp only [Lib.parseIntB]
    have e1 : ¬ c.toNat = 43 := by omega
    have e2 : ¬ c.toNat = 45 := by omega
    simp only [e1, e2, or_self, if_false, hp, false_and, not_false_eq_true, true_and]
    have h63 : (2 : Nat) ^ (64 - 1) = 9223372036854775808 := by decide
    rw [h63, if_neg (by omega)]
    congr 1; omega
theorem txt_inj {n m : Int} (h0 : -9223372036854775808 ≤ n) (h1 : n ≤ 9223372036854775807) (h2 : -9223372036854775808 ≤ m) (h3 : m ≤ 9223372036854775807) (h : txt n = txt m) : n = m := by
  have := parse_txt h0 h1
  rw [h, parse_txt h2 h3] at this
  cases this; rfl
theorem txt_len {n : Int} (h0 : -1000000000000000000 < n) (h1 : n < 1000000000000000000) : (txt n).length ≤ 19 := by
  rcases ilt n 0 with h | h
  · rw [txt_neg h]; simp only [List.length_cons, dd_len]
    have := nd_le 18 n.natAbs (by omega) (by omega); omega
  · rw [txt_pos h, dd_len]
    have := nd_le 18 n.toNat (by omega) (by omega); omega
theorem txt_ne (n : Int) : txt n ≠ [] := by
  rcases ilt n 0 with h | h
  · rw [txt_neg h]; simp
  · rw [txt_pos h]; exact dd_ne _
theorem txt_mem {n : Int} {c : UInt8} (h : c ∈ txt n) : c.toNat = 45 ∨ dig c := by
  rcases ilt n 0 with h0 | h0
  · rw [txt_neg h0, List.mem_cons] at h
    rcases h with h | h
    · subst h; exact .inl rfl
    · exact .inr (dd_dig _ c h)
  · rw [txt_pos h0] at h; exact .inr (dd_dig _ c h)
theorem txt_trim {n : Int} (h0 : -1000000000000000000 < n) (h1 : n < 1000000000000000000) : (Lib.trimPrefix (txt n) [45]).length ≤ 18 := by
  rcases ilt n 0 with h | h
  · rw [txt_neg h]
    simp only [Lib.trimPrefix, Lib.hasPrefix, List.isPrefixOf, beq_self_eq_true, Bool.true_and, if_true, List.length_singleton, List.drop_succ_cons, List.drop_zero, dd_len]
    exact nd_le 18 _ (by omega) (by omega)
  · rw [txt_pos h]
    have := nd_le 18 n.toNat (by omega) (by omega)
    unfold Lib.trimPrefix
    split
    · rw [List.length_drop, dd_len]; omega
    · rw [dd_len]; omega
theorem Decimal_eq {n : Int} (h0 : -9223372036854775808 ≤ n) (h1 : n ≤ 9223372036854775807) : impl_Decimal n = some (txt n) := by
  unfold impl_Decimal strconv_FormatInt
  rw [if_pos ⟨rfl, h0, h1⟩]; rfl
/-- how a text reads as a number -/
def RD (s : List UInt8) (r : Int × Bool) : Prop :=
  (∃ n : Int, -1000000000000000000 < n ∧ n < 1000000000000000000 ∧ s = txt n ∧ r = (n, true)) ∨ ((∀ n : Int, -1000000000000000000 < n → n < 1000000000000000000 → s ≠ txt n) ∧ r = (0, false))
theorem RD.unique {s : List UInt8} {r r' : Int × Bool} (h : RD s r) (h' : RD s r') : r = r' := by
  rcases h with ⟨n, h0, h1, h2, rfl⟩ | ⟨h0, rfl⟩
  · rcases h' with ⟨m, k0, k1, k2, rfl⟩ | ⟨k0, rfl⟩
    · rw [txt_inj (by omega) (by omega) (by omega) (by omega) (h2.symm.trans k2)]
    · exact absurd h2 (k0 n h0 h1)
  · rcases h' with ⟨m, k0, k1, k2, rfl⟩ | ⟨k0, rfl⟩
    · exact absurd k2 (h0 m k0 k1)
    · rfl
theorem ReadDecimal_ok (s : List UInt8) : ∃ r, impl_ReadDecimal s = some r ∧ RD s r := by
  unfold impl_ReadDecimal
  by_cases hl : (s.length : Int) > 19
  · rw [if_pos hl]
    refine ⟨_, rfl, .inr ⟨fun n h0 h1 e => ?_, rfl⟩⟩
    have := txt_len h0 h1
    rw [← e] at this; omega
  · rw [if_neg hl]
    have ht : strings_TrimPrefix s [45] = some (Lib.trimPrefix s [45]) := rfl
    rw [ht, Option.bind_some, Option.bind_some]
    by_cases hl2 : ((Lib.trimPrefix s [45]).length : Int) > 18
    · rw [if_pos (by simpa using hl2)]
      refine ⟨_, rfl, .inr ⟨fun n h0 h1 e => ?_, rfl⟩⟩
      have := txt_trim h0 h1
      rw [← e] at this; omega
    · rw [if_neg (by simpa using hl2)]
      have hp : strconv_ParseInt s 10 64 = some (parseR s) := by
        unfold strconv_ParseInt; rw [if_pos ⟨rfl, rfl, by omega⟩]
      rw [hp, Option.bind_some]
      by_cases hx : ∃ n : Int, -1000000000000000000 < n ∧ n < 1000000000000000000 ∧ s = txt n
      · obtain ⟨n, h0, h1, rfl⟩ := hx
        have hr : parseR (txt n) = (n, true) := by unfold parseR; rw [parse_txt (by omega) (by omega)]
        rw [hr]
        simp only [if_true]
        rw [Decimal_eq (by omega) (by omega)]
        simp only [Option.bind_some, beq_self_eq_true, Bool.not_true, Bool.false_eq_true, if_false]
        exact ⟨_, rfl, .inl ⟨n, h0, h1, rfl, rfl⟩⟩
      · have hno : ∀ n : Int, -1000000000000000000 < n → n < 1000000000000000000 → s ≠ txt n := fun n h0 h1 e => hx ⟨n, h0, h1, e⟩
        refine ⟨(0, false), ?_, .inr ⟨hno, rfl⟩⟩
        by_cases hb : (parseR s).2 = true
        · rw [if_pos hb]
          -- the number read has another text
          have hv : Lib.parseIntB 64 s = .ok (parseR s).1 := by
            unfold parseR at hb ⊢
            cases hq : Lib.parseIntB 64 s with
            | ok v => rfl
            | _ => rw [hq] at hb; cases hb
          generalize (parseR s).1 = v at hv
          have hvb : -9223372036854775808 ≤ v ∧ v ≤ 9223372036854775807 := by
            unfold Lib.parseIntB at hv
            split at hv
            · cases hv
            · simp only at hv
              split at hv
              · cases hv
              · cases hv
              · rename_i u _
                split at hv
                · cases hv
                · split at hv
                  · cases hv
                  · rename_i g1 g2
                    cases hv
                    split <;> rename_i g3
                    · simp only [g3, true_and] at g2; omega
                    · simp only [g3, not_false_eq_true, true_and] at g1; omega
          rw [Decimal_eq hvb.1 hvb.2, Option.bind_some]
          have hne : (txt v == s) = false := by
            refine beq_eq_false_iff_ne.2 fun e => ?_
            by_cases hr : -1000000000000000000 < v ∧ v < 1000000000000000000
            · exact hno v hr.1 hr.2 e.symm
            · -- too long
              rcases ilt v 0 with h | h
              · rw [txt_neg h] at e
                rw [← e] at hl2
                simp only [Lib.trimPrefix, Lib.hasPrefix, List.isPrefixOf, beq_self_eq_true, Bool.true_and, if_true, List.length_singleton, List.drop_succ_cons, List.drop_zero, dd_len] at hl2
                have := nd_lt (k := 18) (u := v.natAbs) (by omega)
                omega
              · rw [txt_pos h] at e
                have hnt : Lib.trimPrefix s [45] = s := by
                  unfold Lib.trimPrefix
                  rw [if_neg]
                  intro hpre
                  rw [← e] at hpre
                  cases hd : Lib.decDigits v.toNat with
                  | nil => exact dd_ne _ hd
                  | cons c r =>
                    rw [hd] at hpre
                    simp only [Lib.hasPrefix, List.isPrefixOf, Bool.and_true, beq_iff_eq] at hpre
                    have := dd_dig v.toNat c (by rw [hd]; simp)
                    rw [← hpre] at this
                    exact absurd this.1 (by decide)
                rw [hnt, ← e, dd_len] at hl2
                have := nd_lt (k := 18) (u := v.toNat) (by omega)
                omega
          rw [hne]; rfl
        · rw [if_neg hb]; rfl
theorem ReadDecimal_txt {n : Int} (h0 : -1000000000000000000 < n) (h1 : n < 1000000000000000000) : impl_ReadDecimal (txt n) = some (n, true) := by
  obtain ⟨r, h, hr⟩ := ReadDecimal_ok (txt n)
  rw [h, hr.unique (.inl ⟨n, h0, h1, rfl, rfl⟩)]
/- places of a byte -/
end Go.Vs.G

namespace Go.Vs.G
open Go Go.Vs

/-- the digits of a number, none for zero -/
def dz (u : Nat) : List UInt8 := if u = 0 then [] else Lib.decDigits u
theorem dz_step {u : Nat} (h : u ≠ 0) : dz u = dz (u / 10) ++ [UInt8.ofNat (48 + u % 10)] := by
  unfold dz
  rw [if_neg h]
  by_cases h1 : u < 10
  · rw [if_pos (by omega), dd_small h1, Nat.mod_eq_of_lt h1]; rfl
  · rw [if_neg (by omega), dd_big h1]
theorem b2s_one (x : Int) (l : List Int) : b2s ([x] ++ l) = UInt8.ofNat x.toNat :: b2s l := rfl
theorem l01Dec_eq {n : Int} (h0 : -9223372036854775807 ≤ n) (h1 : n ≤ 9223372036854775807) : spec_l01Dec n = some (txt n) := by
  refine eq_of_wp ?_
  unfold spec_l01Dec
  refine wp_loop (fun t : List Int × Int => dz n.natAbs = dz t.2.natAbs ++ b2s t.1 ∧ t.2.natAbs ≤ n.natAbs ∧ (t.2 ≠ 0 → (t.2 < 0 ↔ n < 0)) ∧ t.1.length + (if t.2 = 0 then 0 else Lib.nDigits t.2.natAbs) ≤ Lib.nDigits n.natAbs ∧ (n ≠ 0 → t.2 = 0 → t.1 ≠ [])) (fun t => t.2.natAbs) ⟨by simp [b2s], Nat.le_refl _, fun _ => Iff.rfl, by simp only [List.length_nil]; split <;> omega, fun h1 h2 => absurd h2 h1⟩ (by simp only; omega) ?_
  rintro ⟨a, k⟩ ⟨i1, i2, i3, i4, i5⟩
  simp only at i1 i2 i3 i4 i5 ⊢
  have hnd : Lib.nDigits n.natAbs ≤ 19 := nd_le 19 _ (by omega) (by omega)
  refine wp_ite (fun h => ?_) (fun h => ?_)
  · subst h
    refine wp_some ?_
    have hb : (b2s a).length = a.length := by simp [b2s]
    have hz : dz (0 : Int).natAbs = [] := rfl
    rw [hz, List.nil_append] at i1
    refine wp_ite (fun h2 => ?_) (fun h2 => ?_)
    · have ha : a = [] := List.length_eq_zero_iff.1 (by omega)
      have hn : n = 0 := Classical.byContradiction fun hne => i5 hne rfl ha
      subst hn
      exact wp_some (by rw [txt_pos (by omega), Int.toNat_zero, dd_small (by omega)]; rfl)
    · have hn : n ≠ 0 := by
        rintro rfl
        have : dz (0 : Int).natAbs = [] := rfl
        rw [this] at i1
        have := congrArg List.length i1
        simp only [List.length_nil] at this
        omega
      have hdz : dz n.natAbs = Lib.decDigits n.natAbs := by unfold dz; rw [if_neg (by omega)]
      refine wp_ite (fun h3 => ?_) (fun h3 => ?_)
      · rw [app_ok (by simp; omega), Option.bind_some]
        refine wp_some ?_
        rw [txt_neg h3, ← hdz, i1]; rfl
      · refine wp_some ?_
        rw [txt_pos (by omega), ← i1, hdz, show n.toNat = n.natAbs by omega]
  · have hd : (if k.tmod 10 < 0 then some (w64 (0 - k.tmod 10)) else some (k.tmod 10)) = some (((k.natAbs % 10 : Nat)) : Int) := by
      by_cases hk : k < 0
      · have e : k.tmod 10 = -((k.natAbs % 10 : Nat) : Int) := by
          rw [show k = -((k.natAbs : Nat) : Int) by omega, Int.neg_tmod]; simp [Int.tmod]
        by_cases h2 : k.tmod 10 < 0
        · rw [if_pos h2, w64_id (by omega) (by omega), e]; simp
        · rw [if_neg h2, e]; congr 1; omega
      · have e : k.tmod 10 = ((k.natAbs % 10 : Nat) : Int) := by
          rw [Int.tmod_eq_emod_of_nonneg (by omega)]; omega
        rw [if_neg (by omega), e]
    rw [hd, Option.bind_some]
    have hm : k.natAbs % 10 < 10 := Nat.mod_lt _ (by omega)
    have hw : IntKind.wrap .u8 (w64 (48 + ((k.natAbs % 10 : Nat) : Int))) = 48 + ((k.natAbs % 10 : Nat) : Int) := by
      rw [w64_id (by omega) (by omega), w8_def]; omega
    have hbig : 1 ≤ Lib.nDigits k.natAbs := Lib.nDigits_pos _
    have i4' := i4
    rw [if_neg h] at i4'
    rw [hw, app_ok (by simp; omega), Option.bind_some]
    have hq : (k.tdiv 10).natAbs = k.natAbs / 10 := by rw [Int.natAbs_tdiv]; rfl
    have hq2 : w64 (k.tdiv 10) = k.tdiv 10 := w64_id (by omega) (by omega)
    rw [hq2]
    refine wp_some ⟨⟨?_, by simp only [hq]; omega, ?_, ?_, fun _ _ => by simp⟩, by simp only [hq]; omega⟩
    · simp only [hq]
      rw [i1, dz_step (show k.natAbs ≠ 0 by omega), b2s_one, List.append_assoc]
      have : (48 + ((k.natAbs % 10 : Nat) : Int)).toNat = 48 + k.natAbs % 10 := by omega
      rw [this]; rfl
    · simp only
      intro h2
      rw [← i3 h]
      have hne : k.natAbs / 10 ≠ 0 := by
        intro e; rw [← hq] at e; exact h2 (by omega)
      by_cases hk : k < 0
      · have : k.tdiv 10 = -((k.natAbs / 10 : Nat) : Int) := by
          rw [show k = -((k.natAbs : Nat) : Int) by omega, Int.neg_tdiv]; simp [Int.tdiv]
        omega
      · have : k.tdiv 10 = ((k.natAbs / 10 : Nat) : Int) := by
          rw [Int.tdiv_eq_ediv_of_nonneg (by omega)]; omega
        omega
    · rw [if_neg h] at i4
      simp only [List.length_append, List.length_singleton]
      split
      · omega
      · rename_i h2
        rw [hq]
        have h10 : ¬ k.natAbs < 10 := fun h3 => h2 (by omega)
        have := Lib.nDigits_big h10
        omega
end Go.Vs.G

namespace Go.Vs.G
open Go Go.Vs

/-- the parts of a text between bytes -/
def spl (c : UInt8) : List UInt8 → List (List UInt8)
  | [] => [[]]
  | x :: s => if x = c then [] :: spl c s else match spl c s with
    | h :: t => (x :: h) :: t
    | [] => [[x]]
/-- some bytes ahead of the first part -/
def prep (p : List UInt8) : List (List UInt8) → List (List UInt8)
  | h :: t => (p ++ h) :: t
  | [] => [p]
theorem spl_ne (c : UInt8) : ∀ s, spl c s ≠ []
  | [] => by simp [spl]
  | x :: s => by
    rw [spl]
    split
    · simp
    · split <;> simp
theorem spl_eq {c : UInt8} {s : List UInt8} : spl c (c :: s) = [] :: spl c s := by rw [spl, if_pos rfl]
theorem spl_ne' {c x : UInt8} {s : List UInt8} (h : x ≠ c) : spl c (x :: s) = prep [x] (spl c s) := by
  rw [spl, if_neg h]
  cases hs : spl c s with
  | nil => rfl
  | cons a t => rfl
theorem prep_nil {L : List (List UInt8)} (h : L ≠ []) : prep [] L = L := by cases L with
  | nil => exact absurd rfl h
  | cons a t => rfl
theorem prep_prep (p q : List UInt8) (L : List (List UInt8)) : prep p (prep q L) = prep (p ++ q) L := by
  cases L with
  | nil => rfl
  | cons a t => simp [prep]
theorem spl_no {c : UInt8} : ∀ {s : List UInt8}, c ∉ s → spl c s = [s]
  | [], _ => rfl
  | x :: s, h => by
    simp only [List.mem_cons, not_or] at h
    rw [spl_ne' (fun e => h.1 e.symm), spl_no h.2]; rfl
theorem spl_app {c : UInt8} {b : List UInt8} : ∀ {a : List UInt8}, c ∉ a → spl c (a ++ c :: b) = a :: spl c b
  | [], _ => spl_eq
  | x :: a, h => by
    simp only [List.mem_cons, not_or] at h
    rw [List.cons_append, spl_ne' (fun e => h.1 e.symm), spl_app h.2]; rfl
theorem l01Split_eq {s : List UInt8} {c : UInt8} (hl : s.length ≤ 1000000) : spec_l01Split s (c.toNat : Int) = some (spl c s) := by
  refine eq_of_wp ?_
  unfold spec_l01Split
  refine wp_loop (fun t : List (List UInt8) × Int × Int => ∃ f i : Nat, t.2.1 = (f : Int) ∧ t.2.2 = (i : Int) ∧ f ≤ i ∧ i ≤ s.length ∧ t.1.length ≤ i ∧ spl c s = t.1 ++ prep ((s.take i).drop f) (spl c (s.drop i))) (fun t => (s.length - t.2.2).toNat) ⟨0, 0, rfl, rfl, Nat.le_refl _, by omega, by simp, ?_⟩ (by simp only; omega) ?_
  · simp only [List.take_zero, List.drop_zero, List.nil_append]; rw [prep_nil (spl_ne _ _)]
  rintro ⟨out, f', i'⟩ ⟨f, i, h1, h2, h3, h4, h5, h6⟩
  simp only at h1 h2 h5 h6 ⊢
  subst h1 h2
  refine wp_ite (fun h => ?_) (fun h => ?_)
  · have hi : i < s.length := by omega
    have hd : s.drop i = s[i] :: s.drop (i + 1) := List.drop_eq_getElem_cons hi
    have htk : s.take (i + 1) = s.take i ++ [s[i]] := by rw [List.take_add_one, List.getElem?_eq_getElem hi]; rfl
    rw [at_of hi, Option.bind_some, w64_id (n := (i : Int) + 1) (by omega) (by omega)]
    refine wp_ite (fun hc => ?_) (fun hc => ?_)
    · have hcc : s[i] = c := by
        have : s[i].toNat = c.toNat := by omega
        exact UInt8.toNat_inj.1 this
      rw [sub_ok (by omega) (by omega) (by omega), Option.bind_some, app_ok (by simp; omega), Option.bind_some]
      refine wp_some ⟨⟨i + 1, i + 1, by simp, by simp, Nat.le_refl _, by omega, by simp; omega, ?_⟩, by simp only; omega⟩
      simp only [Int.toNat_natCast]
      rw [h6, hd, hcc, spl_eq]
      have e : List.drop (i + 1) (List.take (i + 1) s) = [] := by simp
      rw [e, prep_nil (spl_ne _ _)]
      simp [prep]
    · have hcc : s[i] ≠ c := fun e => hc (by rw [e])
      refine wp_some ⟨⟨f, i + 1, rfl, by simp, by omega, by omega, by simp only; omega, ?_⟩, by simp only; omega⟩
      simp only
      rw [h6, hd, spl_ne' hcc, prep_prep, htk, List.drop_append_of_le_length (by simp; omega)]
  · refine wp_some ?_
    have hi : i = s.length := by omega
    subst hi
    simp only
    rw [sub_ok (by omega) (by omega) (by omega), Option.bind_some, app_ok (by simp; omega), Option.bind_some]
    refine wp_some ?_
    simp only [Int.toNat_natCast]
    rw [h6, List.drop_length]
    simp [spl, prep]
theorem l01DigS_eq (c : UInt8) : ∃ b, spec_l01Digit (c.toNat : Int) = some b ∧ (b = true ↔ dig c) := by
  unfold spec_l01Digit dig
  split
  · exact ⟨_, rfl, by simp; omega⟩
  · exact ⟨_, rfl, by simp; omega⟩
theorem dval_lt : ∀ (l : List UInt8) (acc k : Nat), (∀ c, c ∈ l → dig c) → acc < 10 ^ k → dval acc l < 10 ^ (k + l.length)
  | [], acc, k, _, h => by simpa [dval_nil] using h
  | c :: l, acc, k, hd, h => by
    have hc := hd c (by simp)
    unfold dig at hc
    rw [dval_cons, List.length_cons, show k + (l.length + 1) = (k + 1) + l.length by omega]
    exact dval_lt l _ (k + 1) (fun x hx => hd x (by simp [hx])) (by rw [Nat.pow_succ]; omega)
/-- digits read by a loop -/
theorem digits_loop {t : List UInt8} (ht : t.length ≤ 18) {α : Type} {kb : Int → Option α} {kr : Int × Bool → Option α} :
    onL (loop (S := (Int × Int)) (B := Int) (R := (Int × Bool)) (fun ((n1, i1) : Int × Int) => if i1 < (t.length : Int) then ((at? t i1).bind fun c2 => (spec_l01Digit (c2.toNat : Int)).bind fun r1 => if r1 then ((at? t i1).bind fun c3 => some (.next (w64 ((w64 (10 * n1)) + (w64 (IntKind.wrap .u8 ((c3.toNat : Int) - 48)))), w64 (i1 + 1)))) else some (.ret (0, false))) else some (.brk n1)) loopLim (0, 0)) kb kr
      = kb (dval 0 t : Int) ∧ (∀ c, c ∈ t → dig c) ∨
    onL (loop (S := (Int × Int)) (B := Int) (R := (Int × Bool)) (fun ((n1, i1) : Int × Int) => if i1 < (t.length : Int) then ((at? t i1).bind fun c2 => (spec_l01Digit (c2.toNat : Int)).bind fun r1 => if r1 then ((at? t i1).bind fun c3 => some (.next (w64 ((w64 (10 * n1)) + (w64 (IntKind.wrap .u8 ((c3.toNat : Int) - 48)))), w64 (i1 + 1)))) else some (.ret (0, false))) else some (.brk n1)) loopLim (0, 0)) kb kr
      = kr (0, false) ∧ ¬ ∀ c, c ∈ t → dig c := by
  let body : Int × Int → Option (Step (Int × Int) Int (Int × Bool)) := fun x => if x.2 < (t.length : Int) then ((at? t x.2).bind fun c2 => (spec_l01Digit (c2.toNat : Int)).bind fun r1 => if r1 then ((at? t x.2).bind fun c3 => some (.next (w64 ((w64 (10 * x.1)) + (w64 (IntKind.wrap .u8 ((c3.toNat : Int) - 48)))), w64 (x.2 + 1)))) else some (.ret (0, false))) else some (.brk x.1)
  show onL (loop body loopLim (0, 0)) kb kr = _ ∧ _ ∨ onL (loop body loopLim (0, 0)) kb kr = _ ∧ _
  have hstep : ∀ k, k < t.length → dig (t.getD k 0) → (∀ j, j < k → dig (t.getD j 0)) → body ((dval 0 (t.take k) : Int), (k : Int)) = some (.next ((dval 0 (t.take (k + 1)) : Int), ((k + 1 : Nat) : Int))) := by
    intro k hk hd hall
    obtain ⟨b, hb, hb2⟩ := l01DigS_eq (t.getD k 0)
    have hge : t[k] = t.getD k 0 := by simp [List.getD, List.getElem?_eq_getElem hk]
    have hlt : dval 0 (t.take k) < 10 ^ k := by
      have := dval_lt (t.take k) 0 0 (fun c hc => by
        obtain ⟨j, hj, rfl⟩ := List.getElem_of_mem hc
        rw [List.length_take] at hj
        have := hall j (by omega)
        simpa [List.getD, List.getElem?_eq_getElem (show j < t.length by omega)] using this) (by omega)
      rw [List.length_take, Nat.min_eq_left (by omega), Nat.zero_add] at this
      exact this
    have h17 : 10 ^ k ≤ 10 ^ 17 := Nat.pow_le_pow_right (by omega) (by omega)
    have e17 : 10 ^ 17 = 100000000000000000 := by decide
    have htk : dval 0 (t.take (k + 1)) = dval 0 (t.take k) * 10 + ((t.getD k 0).toNat - 48) := by
      rw [List.take_add_one, List.getElem?_eq_getElem hk, dval_append, ← hge]; rfl
    unfold dig at hd
    show (if (k : Int) < (t.length : Int) then _ else _) = _
    simp only
    rw [if_pos (by omega), at_of hk, Option.bind_some, hge, hb, Option.bind_some, if_pos (hb2.2 hd), Option.bind_some, htk]
    rw [w8_def, w64_id (n := 10 * (dval 0 (t.take k) : Int)) (by omega) (by omega), w64_id (n := ((t.getD k 0).toNat - 48 : Int) % 256) (by omega) (by omega), w64_id (by omega) (by omega), w64_id (by omega) (by omega)]
    congr 3
    omega
  by_cases hall : ∀ c, c ∈ t → dig c
  · refine .inl ⟨?_, hall⟩
    have := loop_brk (body := body) (fun k => ((dval 0 (t.take k) : Int), (k : Int))) (b := (dval 0 t : Int)) t.length (by omega) (fun k hk => hstep k hk (hall _ (by simp [List.getD, List.getElem?_eq_getElem hk])) (fun j hj => hall _ (by simp [List.getD, List.getElem?_eq_getElem (show j < t.length by omega)]))) (by
      show (if (t.length : Int) < (t.length : Int) then _ else _) = _
      rw [if_neg (by omega)]; simp)
    have e0 : ((dval 0 (t.take 0) : Int), ((0 : Nat) : Int)) = ((0 : Int), (0 : Int)) := rfl
    rw [e0] at this
    rw [this]; rfl
  · refine .inr ⟨?_, hall⟩
    -- the first that is no digit
    have hex : ∃ k, k < t.length ∧ ¬ dig (t.getD k 0) ∧ ∀ j, j < k → dig (t.getD j 0) := by
      have h0 : ∃ k, k < t.length ∧ ¬ dig (t.getD k 0) := by
        refine Classical.byContradiction fun hn => hall fun c hc => ?_
        obtain ⟨j, hj, rfl⟩ := List.getElem_of_mem hc
        refine Classical.byContradiction fun hnd => hn ⟨j, hj, ?_⟩
        simpa [List.getD, List.getElem?_eq_getElem hj] using hnd
      obtain ⟨k, hk⟩ := h0
      induction k using Nat.strongRecOn with
      | _ k ih =>
        by_cases hl : ∀ j, j < k → dig (t.getD j 0)
        · exact ⟨k, hk.1, hk.2, hl⟩
        · have : ∃ j, j < k ∧ ¬ dig (t.getD j 0) := by
            refine Classical.byContradiction fun hn => hl fun j hj => Classical.byContradiction fun hnd => hn ⟨j, hj, hnd⟩
          obtain ⟨j, hj, hnd⟩ := this
          exact ih j hj ⟨by omega, hnd⟩
    obtain ⟨k, hk, hnd, hall2⟩ := hex
    obtain ⟨b, hb, hb2⟩ := l01DigS_eq (t.getD k 0)
    have hge : t[k] = t.getD k 0 := by simp [List.getD, List.getElem?_eq_getElem hk]
    have := loop_ret' (body := body) (fun k => ((dval 0 (t.take k) : Int), (k : Int))) (r := (0, false)) k (by omega) (fun j hj => hstep j (by omega) (hall2 j hj) (fun i hi => hall2 i (by omega))) (by
      show (if (k : Int) < (t.length : Int) then _ else _) = _
      simp only
      rw [if_pos (by omega), at_of hk, Option.bind_some, hge, hb, Option.bind_some, if_neg (fun h => hnd (hb2.1 h))])
    have e0 : ((dval 0 (t.take 0) : Int), ((0 : Nat) : Int)) = ((0 : Int), (0 : Int)) := rfl
    rw [e0] at this
    rw [this]; rfl
theorem l01Number_ok (s : List UInt8) (hs : s.length ≤ 1000000) : ∃ r, spec_l01Number s = some r ∧ RD s r := by
  -- the text without its sign
  obtain ⟨neg, t, hx, ht⟩ : ∃ (neg : Bool) (t : List UInt8), (((if (s == []) then (some false) else (at? s 0).bind fun c1 => some (decide ((c1.toNat : Int) = 45))) : Option Bool).bind fun (x1 : Bool) => ((if x1 then ((sub? s 1 s.length).bind fun s2 => some s2) else some s) : Option (List UInt8))) = some t ∧ ((neg = true ∧ s = 45 :: t) ∨ (neg = false ∧ s = t ∧ ∀ r, s ≠ 45 :: r)) := by
    cases s with
    | nil => exact ⟨false, [], rfl, .inr ⟨rfl, rfl, by simp⟩⟩
    | cons c r =>
      have h0 : ((c :: r) == []) = false := rfl
      have h1 : at? (c :: r) 0 = some c := rfl
      rw [h0, if_neg (by simp), h1]
      simp only [Option.bind_some]
      by_cases hc : (c.toNat : Int) = 45
      · have : c = 45 := UInt8.toNat_inj.1 (by show c.toNat = 45; omega)
        subst this
        refine ⟨true, r, ?_, .inl ⟨rfl, rfl⟩⟩
        rw [if_pos (by simp), sub_ok (by omega) (by simp; omega) (by omega)]
        simp
      · refine ⟨false, c :: r, ?_, .inr ⟨rfl, rfl, fun r' e => hc ?_⟩⟩
        · rw [if_neg (by simpa using hc)]
        · simp only [List.cons.injEq] at e
          rw [e.1]; rfl
  have hlen : t.length ≤ s.length ∧ (neg = true → t.length < s.length) ∧ (neg = false → t.length = s.length) := by
    rcases ht with ⟨rfl, rfl⟩ | ⟨rfl, rfl, _⟩
    · simp
    · simp
  -- a number's text
  have hform : ∀ n : Int, -1000000000000000000 < n → n < 1000000000000000000 → s = txt n → t = Lib.decDigits n.natAbs ∧ (neg = true ↔ n < 0) := by
    intro n h0 h1 e
    by_cases hn : n < 0
    · rw [txt_neg hn] at e
      rcases ht with ⟨rfl, h2⟩ | ⟨rfl, h2, h3⟩
      · rw [h2] at e; simp only [List.cons.injEq, true_and] at e; exact ⟨e, by simp [hn]⟩
      · exact absurd e (h3 _)
    · rw [txt_pos (by omega)] at e
      rcases ht with ⟨rfl, h2⟩ | ⟨rfl, h2, h3⟩
      · rw [h2] at e
        have := dd_dig n.toNat 45 (by rw [← e]; simp)
        exact absurd this.1 (by decide)
      · refine ⟨?_, by simp [hn]⟩
        rw [← h2, e, show n.natAbs = n.toNat by omega]
  have hE : spec_l01Number s = (((if (t.length : Int) < 1 then (some true) else some (decide ((t.length : Int) > 18))) : Option Bool).bind fun (x2 : Bool) => if x2 then (some ((0 : Int), false)) else
      onL (loop (S := (Int × Int)) (B := Int) (R := (Int × Bool)) (fun ((n1, i1) : Int × Int) => if i1 < (t.length : Int) then ((at? t i1).bind fun c2 => (spec_l01Digit (c2.toNat : Int)).bind fun r1 => if r1 then ((at? t i1).bind fun c3 => some (.next (w64 ((w64 (10 * n1)) + (w64 (IntKind.wrap .u8 ((c3.toNat : Int) - 48)))), w64 (i1 + 1)))) else some (.ret (0, false))) else some (.brk n1)) loopLim (0, 0))
      (fun (n2 : Int) => ((if (t.length : Int) < (s.length : Int) then (some (w64 (0 - n2))) else some n2) : Option Int).bind fun (n3 : Int) => (spec_l01Dec n3).bind fun r2 => if (r2 == s) then (some (n3, true)) else some (0, false)) (fun r => some r)) := by
    unfold spec_l01Number
    rw [← Option.bind_assoc, hx, Option.bind_some]
  rw [hE]
  by_cases h1 : (t.length : Int) < 1
  · rw [if_pos h1]
    refine ⟨(0, false), rfl, .inr ⟨fun n n0 n1 e => ?_, rfl⟩⟩
    obtain ⟨h2, _⟩ := hform n n0 n1 e
    have h3 : t = [] := List.length_eq_zero_iff.1 (by omega)
    exact dd_ne _ (h2.symm.trans h3)
  · rw [if_neg h1, Option.bind_some]
    by_cases h2 : (t.length : Int) > 18
    · rw [if_pos (by simpa using h2)]
      refine ⟨(0, false), rfl, .inr ⟨fun n n0 n1 e => ?_, rfl⟩⟩
      obtain ⟨h3, _⟩ := hform n n0 n1 e
      have := nd_le 18 n.natAbs (by omega) (by omega)
      rw [h3, dd_len] at h2; omega
    · rw [if_neg (by simpa using h2)]
      rcases digits_loop (t := t) (by omega) (kb := (fun (n2 : Int) => ((if (t.length : Int) < (s.length : Int) then (some (w64 (0 - n2))) else some n2) : Option Int).bind fun (n3 : Int) => (spec_l01Dec n3).bind fun r2 => if (r2 == s) then (some (n3, true)) else some (0, false))) (kr := (fun r => some r)) with ⟨e, hd⟩ | ⟨e, hd⟩
      · rw [e]
        have hlt := dval_lt t 0 0 hd (by omega)
        rw [Nat.zero_add] at hlt
        have h18 : 10 ^ t.length ≤ 10 ^ 18 := Nat.pow_le_pow_right (by omega) (by omega)
        have e18 : 10 ^ 18 = 1000000000000000000 := by decide
        have hn3 : (if (t.length : Int) < (s.length : Int) then (some (w64 (0 - (dval 0 t : Int)))) else some (dval 0 t : Int)) = some (if neg = true then -(dval 0 t : Int) else (dval 0 t : Int)) := by
          cases hneg : neg with
          | true => rw [if_pos (by have := hlen.2.1 hneg; omega), if_pos rfl, w64_id (by omega) (by omega)]; congr 1; omega
          | false => rw [if_neg (by have := hlen.2.2 hneg; omega), if_neg (by simp)]
        rw [hn3, Option.bind_some]
        generalize hv : (if neg = true then -(dval 0 t : Int) else (dval 0 t : Int)) = v
        have hvb : -1000000000000000000 < v ∧ v < 1000000000000000000 := by rw [← hv]; split <;> omega
        rw [l01Dec_eq (by omega) (by omega), Option.bind_some]
        by_cases hq : txt v = s
        · rw [if_pos (by simpa using hq)]
          exact ⟨_, rfl, .inl ⟨v, hvb.1, hvb.2, hq.symm, rfl⟩⟩
        · rw [if_neg (by simpa using hq)]
          refine ⟨_, rfl, .inr ⟨fun n n0 n1 e2 => hq ?_, rfl⟩⟩
          obtain ⟨h3, h4⟩ := hform n n0 n1 e2
          rw [h3, dval_dd] at hv
          have : v = n := by
            rw [← hv]
            by_cases hn : n < 0
            · rw [if_pos (h4.2 hn)]; omega
            · rw [if_neg (fun h => hn (h4.1 h))]; omega
          rw [this]; exact e2.symm
      · rw [e]
        refine ⟨_, rfl, .inr ⟨fun n n0 n1 e2 => hd ?_, rfl⟩⟩
        obtain ⟨h3, _⟩ := hform n n0 n1 e2
        rw [h3]; exact dd_dig _
end Go.Vs.G

namespace Go.Vs.G
open Go Go.Vs

theorem splitK_cons {c x : UInt8} {s : List UInt8} (h : x ≠ c) : ∀ k, Lib.splitK [c] 0 k (x :: s) = prep [x] (Lib.splitK [c] 0 k s)
  | 0 => rfl
  | k + 1 => by
    have hp : ([c] : List UInt8).isPrefixOf (x :: s) = false := by simp [List.isPrefixOf, Ne.symm h]
    have hix : Lib.index (x :: s) [c] = if Lib.index s [c] == -1 then -1 else Lib.index s [c] + 1 := by rw [Lib.index, hp]; simp
    have hge := Lib.index_ge s [c]
    rw [Lib.splitK, Lib.splitK, hix]
    by_cases hm : Lib.index s [c] = -1
    · rw [hm]; rfl
    · have hb : (Lib.index s [c] == -1) = false := by simpa using hm
      rw [hb]
      simp only [Bool.false_eq_true, if_false]
      have hb2 : (Lib.index s [c] + 1 == -1) = false := by simp only [beq_eq_false_iff_ne, ne_eq]; omega
      rw [hb2]
      simp only [Bool.false_eq_true, if_false, Nat.add_zero]
      obtain ⟨j, hj⟩ : ∃ j : Nat, Lib.index s [c] = j := ⟨(Lib.index s [c]).toNat, by omega⟩
      rw [hj, show ((j : Int) + 1).toNat = j + 1 by omega, Int.toNat_natCast]
      simp [prep]
theorem split_spl (c : UInt8) : ∀ s, Lib.split s [c] = spl c s
  | [] => by
    unfold Lib.split
    rw [Lib.count_one]; rfl
  | x :: s => by
    have ih := split_spl c s
    unfold Lib.split at ih ⊢
    rw [Lib.count_one] at ih ⊢
    by_cases hx : x = c
    · subst hx
      rw [List.count_cons_self, Lib.splitK, spl_eq, ← ih]
      have hix : Lib.index (x :: s) [x] = 0 := by rw [Lib.index]; simp [List.isPrefixOf]
      rw [hix]
      simp
    · rw [List.count_cons_of_ne (by simpa using hx), splitK_cons hx, ih, spl_ne' hx]
theorem strings_Split_eq {c : UInt8} {s : List UInt8} (h : s.length ≤ 1000000) : strings_Split s [c] = some (spl c s) := by
  unfold strings_Split
  rw [if_pos ⟨by omega, by simp⟩, split_spl]
theorem spl_len (c : UInt8) : ∀ s, (spl c s).length ≤ s.length + 1
  | [] => by simp [spl]
  | x :: s => by
    have ih := spl_len c s
    by_cases hx : x = c
    · subst hx; rw [spl_eq]; simp; omega
    · rw [spl_ne' hx]
      cases hs : spl c s with
      | nil => simp [prep]
      | cons a t => rw [hs] at ih; simp [prep] at ih ⊢; omega
theorem spl_mem_len {c : UInt8} : ∀ {s p : List UInt8}, p ∈ spl c s → p.length ≤ s.length
  | [], p, h => by simp only [spl, List.mem_singleton] at h; subst h; simp
  | x :: s, p, h => by
    by_cases hx : x = c
    · subst hx; rw [spl_eq] at h
      rcases List.mem_cons.1 h with rfl | h
      · simp
      · have := spl_mem_len h; simp; omega
    · rw [spl_ne' hx] at h
      cases hs : spl c s with
      | nil => exact absurd hs (spl_ne _ _)
      | cons a t =>
        rw [hs] at h
        simp only [prep] at h
        rcases List.mem_cons.1 h with rfl | h
        · have := spl_mem_len (c := c) (s := s) (p := a) (by rw [hs]; simp)
          simp; omega
        · have := spl_mem_len (c := c) (s := s) (p := p) (by rw [hs]; simp [h])
          simp; omega
/-- the words of a row -/
def wds (s : List UInt8) : List (List UInt8) := (spl 32 s).filter fun x => !(x == [])
theorem SplitWords_eq {s : List UInt8} (h : s.length ≤ 1000000) : impl_SplitWords s = some (wds s) := by
  unfold impl_SplitWords slices_DeleteFunc_string
  have := spl_len 32 s
  have hne := spl_ne 32 s
  rw [strings_Split_eq h, Option.bind_some, if_pos ⟨by omega, by cases hs : spl 32 s with
    | nil => exact absurd hs hne
    | cons a t => rfl⟩]
  rfl
theorem specWords_eq {s : List UInt8} (h : s.length ≤ 1000000) : spec_SplitWords s = some (wds s) := by
  unfold spec_SplitWords
  have := spl_len 32 s
  have e : spec_l01Split s 32 = some (spl 32 s) := l01Split_eq (c := 32) h
  rw [e, Option.bind_some]
  rw [filtS (c := fun x => !(x == [])) (spl 32 s) (by omega) (fun out k hk hl => ?_) (fun out => ?_)]
  · rfl
  · simp only
    rw [if_pos (by omega), at_gd hk, Option.bind_some, Option.bind_some, w64_id (by omega) (by omega), app_ok (by simp; omega), Option.bind_some]
    cases hv : gd (spl 32 s) k == [] <;> simp [hv]
  · simp only; rw [if_neg (by omega)]
theorem wds_mem {s w : List UInt8} (h : w ∈ wds s) : w ≠ [] ∧ w.length ≤ s.length := by
  unfold wds at h
  obtain ⟨h1, h2⟩ := List.mem_filter.1 h
  exact ⟨by simpa using h2, spl_mem_len h1⟩
theorem addSlide_eqL {x : GScript} {s : List UInt8} (hs : x.Slides.length ≤ 60) (hn : s.length ≤ 1000000) : impl_Script_addSlide x s = some (sldR x s) := by
  unfold impl_Script_addSlide sldR sldC
  rw [impl_IsName_eq _ (by omega), hasSlide_eq _ (by omega), Option.bind_some, Option.bind_some, app_ok (by simp; omega)]
  cases isName s with
  | false => rfl
  | true =>
    by_cases h : s ∈ x.Slides
    · simp [h]
    · by_cases h2 : x.Slides.length = 60
      · simp [h, h2]
      · have g1 : ¬ (x.Slides.length : Int) = 60 := by omega
        have g3 : ¬ 60 ≤ x.Slides.length := by omega
        simp [h, g1, g3]
theorem l18Slide_eqL {x : GScript} {s : List UInt8} (hs : x.Slides.length ≤ 60) (hn : s.length ≤ 1000000) : spec_l18Slide x s = some (sldR x s) := by
  unfold spec_l18Slide sldR sldC
  rw [spec_IsName_eq _ (by omega), l18Has_eq _ (by omega), Option.bind_some, Option.bind_some, app_ok (by simp; omega)]
  cases isName s with
  | false => rfl
  | true =>
    by_cases h : s ∈ x.Slides
    · simp [h]
    · by_cases h2 : x.Slides.length = 60
      · simp [h, h2]
      · have g1 : ¬ (x.Slides.length : Int) ≥ 60 := by omega
        have g3 : ¬ 60 ≤ x.Slides.length := by omega
        simp [h, g1, g3]
/-- what a row does -/
def RowP (x : GScript) (r : Int × GScript) : Prop := (0 ≤ r.1 ∧ r.1 ≤ 8 ∧ r.2 = x) ∨ (∃ s, r = sldR x s) ∨ ∃ a, r = actR x a
theorem num_same {s : List UInt8} (h : s.length ≤ 1000000) : ∃ r, impl_ReadDecimal s = some r ∧ spec_l01Number s = some r := by
  obtain ⟨r, h1, h2⟩ := ReadDecimal_ok s
  obtain ⟨r', h3, h4⟩ := l01Number_ok s h
  rw [RD.unique h4 h2] at h3
  exact ⟨r, h1, h3⟩
theorem len5 {α : Type} : ∀ l : List α, l = [] ∨ (∃ a, l = [a]) ∨ (∃ a b, l = [a, b]) ∨ (∃ a b c, l = [a, b, c]) ∨ (∃ a b c d, l = [a, b, c, d]) ∨ (∃ a b c d e, l = [a, b, c, d, e]) ∨ ∃ a b c d e f t, l = a :: b :: c :: d :: e :: f :: t
  | [] => .inl rfl
  | [a] => .inr (.inl ⟨a, rfl⟩)
  | [a, b] => .inr (.inr (.inl ⟨a, b, rfl⟩))
  | [a, b, c] => .inr (.inr (.inr (.inl ⟨a, b, c, rfl⟩)))
  | [a, b, c, d] => .inr (.inr (.inr (.inr (.inl ⟨a, b, c, d, rfl⟩))))
  | [a, b, c, d, e] => .inr (.inr (.inr (.inr (.inr (.inl ⟨a, b, c, d, e, rfl⟩)))))
  | a :: b :: c :: d :: e :: f :: t => .inr (.inr (.inr (.inr (.inr (.inr ⟨a, b, c, d, e, f, t, rfl⟩)))))
section
variable {α : Type} {a b c d e : α} {t : List α}
theorem at0 : at? (a :: t) 0 = some a := rfl
theorem at1 : at? (a :: b :: t) 1 = some b := rfl
theorem at2 : at? (a :: b :: c :: t) 2 = some c := rfl
theorem at3 : at? (a :: b :: c :: d :: t) 3 = some d := rfl
theorem at4 : at? (a :: b :: c :: d :: e :: t) 4 = some e := rfl
end
theorem row_ok {x : GScript} {row : List UInt8} (hs : x.Slides.length ≤ 60) (ha : x.Acts.length ≤ 60) (hl : row.length ≤ 3000) : ∃ r, impl_Script_addRow x row = some r ∧ spec_l18Row x row = some r ∧ RowP x r := by
  have hm : ∀ w, w ∈ wds row → w ≠ [] ∧ w.length ≤ 1000000 := fun w hw => ⟨(wds_mem hw).1, by have := (wds_mem hw).2; omega⟩
  unfold impl_Script_addRow spec_l18Row
  rw [SplitWords_eq (by omega), specWords_eq (by omega), Option.bind_some, Option.bind_some]
  generalize wds row = w at hm
  have bad : ∀ {k : Int}, 0 ≤ k → k ≤ 8 → RowP x (k, x) := fun h1 h2 => .inl ⟨h1, h2, rfl⟩
  have nil0 : w ≠ [] → ¬ (w.length : Int) = 0 := fun h => by cases w with | nil => exact absurd rfl h | cons a t => simp; omega
  cases hw : w with
  | nil => exact ⟨(0, x), rfl, rfl, bad (by omega) (by omega)⟩
  | cons w0 ws =>
    subst hw
    obtain ⟨h0, _⟩ := hm w0 (by simp)
    rw [if_neg (nil0 (by simp)), at0]
    cases w0 with
    | nil => exact absurd rfl h0
    | cons b w0' =>
      simp only [Option.bind_some, at0]
      by_cases hb : (b.toNat : Int) = 59
      · rw [decide_eq_true hb, if_pos rfl, if_pos rfl]
        exact ⟨(0, x), rfl, rfl, bad (by omega) (by omega)⟩
      rw [decide_eq_false hb]
      simp only [Bool.false_eq_true, if_false]
      by_cases h1 : (b :: w0' == [115, 108, 105, 100, 101]) = true
      · rw [h1]
        simp only [if_true]
        by_cases h2 : (((b :: w0') :: ws).length : Int) = 2
        · obtain ⟨w1, rfl⟩ : ∃ w1, ws = [w1] := by
            match ws with
            | [] => simp at h2
            | [w1] => exact ⟨w1, rfl⟩
            | a :: b :: t => simp at h2; omega
          simp only [h2, if_true, decide_true, Bool.not_true, Option.bind_some, Bool.false_eq_true, if_false, at1]
          have hn := (hm w1 (by simp)).2
          rw [addSlide_eqL hs hn, l18Slide_eqL hs hn]
          exact ⟨_, rfl, rfl, .inr (.inl ⟨w1, rfl⟩)⟩
        · simp only [h2, if_false, decide_false, Bool.not_false, Option.bind_some, if_true]
          exact ⟨(2, x), rfl, rfl, bad (by omega) (by omega)⟩
      · rw [Bool.not_eq_true] at h1
        rw [h1]
        simp only [Bool.false_eq_true, if_false, Option.bind_some]
        by_cases h3 : (b :: w0' == [97, 116]) = true
        · rw [h3]
          simp only [if_true]
          generalize (b :: w0') = w0 at *
          rcases len5 ws with rfl | ⟨w1, rfl⟩ | ⟨w1, w2, rfl⟩ | ⟨w1, w2, w3, rfl⟩ | ⟨w1, w2, w3, w4, rfl⟩ | ⟨w1, w2, w3, w4, w5, rfl⟩ | ⟨w1, w2, w3, w4, w5, w6, t, rfl⟩
          · exact ⟨(2, x), rfl, rfl, bad (by omega) (by omega)⟩
          · exact ⟨(2, x), rfl, rfl, bad (by omega) (by omega)⟩
          · refine ⟨(2, x), ?_, rfl, bad (by omega) (by omega)⟩
            by_cases hT : w2 = wTurn <;> simp [hT, at2]
          · obtain ⟨r1, n1, n2⟩ := num_same (hm w1 (by simp)).2
            by_cases hT : w2 = wTurn
            · exact ⟨(2, x), by simp [hT, at2], by simp [hT, at2, at3], bad (by omega) (by omega)⟩
            · obtain ⟨n, q⟩ := r1
              cases q with
              | false => exact ⟨(4, x), by simp [hT, at1, at2, n1], by simp [hT, at1, at2, at3, n2], bad (by omega) (by omega)⟩
              | true =>
                refine ⟨actR x (GAct.mk n w2 w3 0), ?_, ?_, .inr (.inr ⟨_, rfl⟩)⟩
                · simp [hT, at1, at2, at3, n1, addAct_eq hs ha]
                · simp [hT, at1, at2, at3, n2, l18Act_eq hs ha]
          · obtain ⟨r1, n1, n2⟩ := num_same (hm w1 (by simp)).2
            obtain ⟨r2, n3, n4⟩ := num_same (hm w4 (by simp)).2
            by_cases hT : w2 = wTurn
            · obtain ⟨n, q⟩ := r1
              obtain ⟨m, q'⟩ := r2
              cases q with
              | false => exact ⟨(4, x), by simp [hT, at1, at2, at3, at4, n1, n3], by simp [hT, at1, at2, at3, at4, n2, n4], bad (by omega) (by omega)⟩
              | true =>
                cases q' with
                | false => exact ⟨(4, x), by simp [hT, at1, at2, at3, at4, n1, n3], by simp [hT, at1, at2, at3, at4, n2, n4], bad (by omega) (by omega)⟩
                | true =>
                  refine ⟨actR x (GAct.mk n w2 w3 m), ?_, ?_, .inr (.inr ⟨_, rfl⟩)⟩
                  · simp [hT, at1, at2, at3, at4, n1, n3, addAct_eq hs ha]
                  · simp [hT, at1, at2, at3, at4, n2, n4, l18Act_eq hs ha]
            · exact ⟨(2, x), by simp [hT, at1, at2, at3, at4], by simp [hT, at1, at2, at3, at4], bad (by omega) (by omega)⟩
          · refine ⟨(2, x), ?_, rfl, bad (by omega) (by omega)⟩
            by_cases hT : w2 = wTurn <;> simp [hT, at2]
          · refine ⟨(2, x), ?_, ?_, bad (by omega) (by omega)⟩
            · simp only [List.length_cons, at2, Option.bind_some]
              rw [if_pos (by omega)]
              simp only [Option.bind_some]
              have e5 : ¬ ((t.length + 1 + 1 + 1 + 1 + 1 + 1 + 1 : Nat) : Int) = 5 := by omega
              have e4 : ¬ ((t.length + 1 + 1 + 1 + 1 + 1 + 1 + 1 : Nat) : Int) = 4 := by omega
              rw [if_neg e5, decide_eq_false e4]
              by_cases hT : w2 = wTurn <;> simp [hT]
            · simp only [List.length_cons]
              rw [if_neg (by omega), decide_eq_true (by omega)]
              rfl
        · rw [Bool.not_eq_true] at h3
          rw [h3]
          exact ⟨(1, x), rfl, rfl, bad (by omega) (by omega)⟩
end Go.Vs.G

namespace Go.Vs.G
open Go Go.Vs

def rowF (x : GScript) (row : List UInt8) : Int × GScript := (impl_Script_addRow x row).getD (0, x)
theorem row_F {x : GScript} {row : List UInt8} (hs : x.Slides.length ≤ 60) (ha : x.Acts.length ≤ 60) (hl : row.length ≤ 3000) : impl_Script_addRow x row = some (rowF x row) ∧ spec_l18Row x row = some (rowF x row) ∧ RowP x (rowF x row) := by
  obtain ⟨r, h1, h2, h3⟩ := row_ok hs ha hl
  have : rowF x row = r := by unfold rowF; rw [h1]; rfl
  rw [this]
  exact ⟨h1, h2, h3⟩
theorem sldC_bd (l : List (List UInt8)) (s : List UInt8) : 0 ≤ sldC l s ∧ sldC l s ≤ 8 := by
  unfold sldC
  split
  · omega
  · split
    · omega
    · split <;> omega
theorem actC_bd (x : GScript) (a : GAct) : 0 ≤ actC x a ∧ actC x a ≤ 8 := by
  unfold actC
  repeat' split
  all_goals omega
theorem RowP.bd {x : GScript} {r : Int × GScript} (h : RowP x r) : 0 ≤ r.1 ∧ r.1 ≤ 8 := by
  rcases h with ⟨h1, h2, _⟩ | ⟨s, rfl⟩ | ⟨a, rfl⟩
  · exact ⟨h1, h2⟩
  · exact sldC_bd _ _
  · exact actC_bd _ _
theorem actC_mono {S : List (List UInt8)} {s : List UInt8} {A : List GAct} {a : GAct} (h : actC (GScript.mk S A) a = 0) : actC (GScript.mk (S ++ [s]) A) a = 0 := by
  unfold actC at h ⊢
  split at h
  · cases h
  · rename_i g1
    rw [if_neg g1]
    split at h
    · cases h
    · rename_i g2
      have : decide (a.Slide ∈ S ++ [s]) = true := by
        simp only [decide_eq_true_eq, List.mem_append]
        left; simpa using g2
      rw [if_neg (by simp only [this]; simp)]
      exact h
theorem gd_app1 {α : Type} [Inhabited α] {l m : List α} {i : Nat} (h : i < l.length) : gd (l ++ m) i = gd l i := by rw [gd_append, if_pos h]
theorem gd_app2 {α : Type} [Inhabited α] {l : List α} {a : α} : gd (l ++ [a]) l.length = a := by rw [gd_append, if_neg (by omega)]; simp [gd]
theorem VS.snocS {x : GScript} (h : VS x) {s : List UInt8} (hs : sldC x.Slides s = 0) : VS (GScript.mk (x.Slides ++ [s]) x.Acts) := by
  refine ⟨fun i hi => ?_, fun i hi => actC_mono (h.2 i hi)⟩
  simp only [List.length_append, List.length_singleton] at hi
  simp only
  rcases Nat.lt_or_ge i x.Slides.length with h1 | h1
  · rw [List.take_append_of_le_length (by omega), gd_app1 h1]
    exact h.1 i h1
  · obtain rfl : i = x.Slides.length := by omega
    rw [List.take_left', gd_app2]
    · exact hs
    · rfl
theorem VS.snocA {x : GScript} (h : VS x) {a : GAct} (ha : actC x a = 0) : VS (GScript.mk x.Slides (x.Acts ++ [a])) := by
  refine ⟨h.1, fun i hi => ?_⟩
  simp only [List.length_append, List.length_singleton] at hi
  simp only
  rcases Nat.lt_or_ge i x.Acts.length with h1 | h1
  · rw [List.take_append_of_le_length (by omega), gd_app1 h1]
    exact h.2 i h1
  · obtain rfl : i = x.Acts.length := by omega
    rw [List.take_left', gd_app2]
    · exact ha
    · rfl
theorem RowP.vs {x : GScript} {r : Int × GScript} (h : RowP x r) (hx : VS x) : VS r.2 := by
  rcases h with ⟨_, _, h3⟩ | ⟨s, rfl⟩ | ⟨a, rfl⟩
  · rw [h3]; exact hx
  · unfold sldR; simp only; split
    · exact hx.snocS ‹_›
    · exact hx
  · unfold actR; simp only; split
    · exact hx.snocA ‹_›
    · exact hx
theorem VS.lens {x : GScript} (h : VS x) : x.Slides.length ≤ 60 ∧ x.Acts.length ≤ 60 := ⟨h.facts.s60, h.facts.a60⟩
def rdK (rows : List (List UInt8)) : Nat → GScript × List GRemark
  | 0 => (GScript.mk [] [], [])
  | k + 1 => ((rowF (rdK rows k).1 (gd rows k)).2, if (rowF (rdK rows k).1 (gd rows k)).1 = 0 then (rdK rows k).2 else if (rdK rows k).2.length < 20 then (rdK rows k).2 ++ [GRemark.mk ((k : Int) + 1) (rowF (rdK rows k).1 (gd rows k)).1] else (rdK rows k).2)
/-- what is true behind k rows -/
structure RG (k : Nat) (p : GScript × List GRemark) : Prop where
  vs : VS p.1
  l20 : p.2.length ≤ 20
  el : ∀ i, i < p.2.length → 1 ≤ (gd p.2 i).Row ∧ (gd p.2 i).Row ≤ (k : Int) ∧ 1 ≤ (gd p.2 i).Kind ∧ (gd p.2 i).Kind ≤ 8
  inc : ∀ i, i + 1 < p.2.length → (gd p.2 i).Row < (gd p.2 (i + 1)).Row
theorem VS.empty : VS (GScript.mk [] []) := ⟨fun i hi => by simp at hi, fun i hi => by simp at hi⟩
section
variable {rows : List (List UInt8)} (hr : ∀ r, r ∈ rows → r.length ≤ 3000)
include hr
theorem rdK_ok : ∀ {k : Nat}, k ≤ rows.length → RG k (rdK rows k)
  | 0, _ => ⟨VS.empty, by simp [rdK], fun i hi => by simp [rdK] at hi, fun i hi => by simp [rdK] at hi⟩
  | k + 1, hk => by
    have ih := rdK_ok (k := k) (by omega)
    obtain ⟨hs, ha⟩ := ih.vs.lens
    have hm : gd rows k ∈ rows := by rw [gd_of (show k < rows.length by omega)]; exact List.getElem_mem _
    obtain ⟨_, _, hp⟩ := row_F hs ha (hr _ hm)
    obtain ⟨b0, b8⟩ := hp.bd
    have hv := hp.vs ih.vs
    simp only [rdK]
    generalize rowF (rdK rows k).1 (gd rows k) = r at *
    refine ⟨hv, ?_, ?_, ?_⟩
    · simp only; split
      · exact ih.l20
      · split
        · simp; omega
        · exact ih.l20
    · simp only
      have old : ∀ i, i < (rdK rows k).2.length → 1 ≤ (gd (rdK rows k).2 i).Row ∧ (gd (rdK rows k).2 i).Row ≤ ((k + 1 : Nat) : Int) ∧ 1 ≤ (gd (rdK rows k).2 i).Kind ∧ (gd (rdK rows k).2 i).Kind ≤ 8 := fun i hi => by
        have := ih.el i hi; omega
      split
      · exact old
      · split
        · intro i hi
          simp only [List.length_append, List.length_singleton] at hi
          rcases Nat.lt_or_ge i (rdK rows k).2.length with h1 | h1
          · rw [gd_app1 h1]; exact old i h1
          · obtain rfl : i = (rdK rows k).2.length := by omega
            rw [gd_app2]; simp only; omega
        · exact old
    · simp only
      split
      · exact ih.inc
      · split
        · intro i hi
          simp only [List.length_append, List.length_singleton] at hi
          rcases Nat.lt_or_ge (i + 1) (rdK rows k).2.length with h1 | h1
          · rw [gd_app1 h1, gd_app1 (by omega)]; exact ih.inc i h1
          · have h2 : i + 1 = (rdK rows k).2.length := by omega
            rw [gd_app1 (by omega), h2, gd_app2]
            have := ih.el i (by omega)
            simp only; omega
        · exact ih.inc
end
def rsR (t : List UInt8) : GScript × (List GRemark) × Int := if t.length ≤ 3000 then ((rdK (spl 10 t) (spl 10 t).length).1, (rdK (spl 10 t) (spl 10 t).length).2, 0) else (GScript.mk [] [], [], 2)
theorem rows_len {t : List UInt8} (h : t.length ≤ 3000) : ∀ r, r ∈ spl 10 t → r.length ≤ 3000 := fun r hr => by have := spl_mem_len hr; omega
theorem ReadScript_eq {t : List UInt8} (ht : t.length ≤ 1000000) : impl_ReadScript t = some (rsR t) ∧ spec_ReadScript t = some (rsR t) := by
  unfold impl_ReadScript spec_ReadScript rsR
  by_cases h : t.length ≤ 3000
  · have hl := spl_len 10 t
    have h' : ¬ (t.length : Int) > 3000 := by omega
    rw [if_neg h', if_neg h', if_pos h, strings_Split_eq ht, show spec_l01Split t 10 = some (spl 10 t) from l01Split_eq (c := 10) ht]
    simp only [Option.bind_some]
    have hr := rows_len h
    generalize spl 10 t = rows at hl hr ⊢
    have key : ∀ k, k < rows.length → (if (rowF (rdK rows k).1 (gd rows k)).1 = 0 then (rdK rows k).2 else if (rdK rows k).2.length < 20 then (rdK rows k).2 ++ [GRemark.mk ((k : Int) + 1) (rowF (rdK rows k).1 (gd rows k)).1] else (rdK rows k).2) = (rdK rows (k + 1)).2 := fun k _ => rfl
    constructor
    · refine eq_of_wp ?_
      refine wp_cnt (fun k => ((rdK rows k).1, (rdK rows k).2, (k : Int))) rows.length rfl (by omega) (fun k hk => ?_) (b := ((rdK rows rows.length).1, (rdK rows rows.length).2)) ?_ (wp_some rfl)
      · have ih := rdK_ok hr (k := k) (by omega)
        obtain ⟨hs, ha⟩ := ih.vs.lens
        have h20 := ih.l20
        have hm : gd rows k ∈ rows := by rw [gd_of hk]; exact List.getElem_mem _
        obtain ⟨e1, _, _⟩ := row_F hs ha (hr _ hm)
        simp only
        rw [if_pos (by omega), at_gd hk, Option.bind_some, e1, Option.bind_some, w64_id (by omega) (by omega), app_ok (by simp; omega), Option.bind_some]
        simp only [rdK]
        generalize rowF (rdK rows k).1 (gd rows k) = r
        by_cases h1 : r.1 = 0
        · simp [h1]
        · by_cases h2 : (rdK rows k).2.length < 20
          · simp only [h1, h2, if_false, if_true, Option.bind_some]
            rw [decide_eq_true (by omega)]
            rfl
          · simp only [h1, h2, if_false, Option.bind_some]
            rw [decide_eq_false (by omega)]
            rfl
      · simp only; rw [if_neg (by omega)]
    · unfold spec_l18Empty
      simp only [Option.bind_some]
      refine eq_of_wp ?_
      refine wp_cnt (fun k => ((rdK rows k).1, (rdK rows k).2, (k : Int))) rows.length rfl (by omega) (fun k hk => ?_) (b := ((rdK rows rows.length).1, (rdK rows rows.length).2)) ?_ (wp_some rfl)
      · have ih := rdK_ok hr (k := k) (by omega)
        obtain ⟨hs, ha⟩ := ih.vs.lens
        have h20 := ih.l20
        have hm : gd rows k ∈ rows := by rw [gd_of hk]; exact List.getElem_mem _
        obtain ⟨_, e1, _⟩ := row_F hs ha (hr _ hm)
        simp only
        rw [if_pos (by omega), at_gd hk, Option.bind_some, e1, Option.bind_some, w64_id (by omega) (by omega), app_ok (by simp; omega), Option.bind_some]
        simp only [rdK]
        generalize rowF (rdK rows k).1 (gd rows k) = r
        by_cases h1 : r.1 = 0
        · simp [h1]
        · by_cases h2 : (rdK rows k).2.length < 20
          · simp only [h1, h2, if_false, if_true, Option.bind_some]
            rw [decide_eq_true (by omega)]
            rfl
          · simp only [h1, h2, if_false, Option.bind_some]
            rw [decide_eq_false (by omega)]
            rfl
      · simp only; rw [if_neg (by omega)]
  · have h' : (t.length : Int) > 3000 := by omega
    rw [if_pos h', if_pos h', if_neg h]
    exact ⟨rfl, rfl⟩
/- remarks as text -/
def rmOk (r : GRemark) : Prop := (1 ≤ r.Row ∧ r.Row ≤ 3001) ∧ 1 ≤ r.Kind ∧ r.Kind ≤ 8
theorem RemarkText_same (r : GRemark) : ∃ t, impl_RemarkText r = some t ∧ spec_RemarkText r = some t ∧ (rmOk r → t ≠ []) := by
  unfold impl_RemarkText spec_RemarkText rmOk
  rw [within_eqR, l00In_eqB, within_eqR, l00In_eqB]
  simp only [Option.bind_some]
  by_cases h1 : 1 ≤ r.Row ∧ r.Row ≤ 3001
  · rw [decide_eq_true h1]
    by_cases h2 : 1 ≤ r.Kind ∧ r.Kind ≤ 8
    · rw [decide_eq_true h2]
      have hl := txt_len (n := r.Row) (by omega) (by omega)
      simp only [if_true, Option.bind_some, Bool.not_true, Bool.false_eq_true, if_false]
      rw [Decimal_eq (by omega) (by omega), l01Dec_eq (by omega) (by omega), Option.bind_some, Option.bind_some, app_ok (by simp; omega), Option.bind_some, Option.bind_some, app_ok (by simp; omega), Option.bind_some, Option.bind_some]
      show ∃ t, ((at? (tblOf 989900) r.Kind).bind fun c1 => _) = some t ∧ ((at? (tblOf 989900) r.Kind).bind fun c1 => _) = some t ∧ _
      obtain ⟨v, hv, hvl⟩ : ∃ v, at? (tblOf 989900) r.Kind = some v ∧ v.length ≤ 10 := by
        have : r.Kind = 1 ∨ r.Kind = 2 ∨ r.Kind = 3 ∨ r.Kind = 4 ∨ r.Kind = 5 ∨ r.Kind = 6 ∨ r.Kind = 7 ∨ r.Kind = 8 := by omega
        rcases this with h | h | h | h | h | h | h | h <;> (rw [h]; exact ⟨_, rfl, by decide⟩)
      rw [hv, Option.bind_some, app_ok (by simp; omega)]
      exact ⟨_, rfl, rfl, fun _ => by simp⟩
    · rw [decide_eq_false h2]
      exact ⟨[], rfl, rfl, fun h => absurd h.2 h2⟩
  · rw [decide_eq_false h1]
    exact ⟨[], rfl, rfl, fun h => absurd h.1 h1⟩
end Go.Vs.G

