/- Plain facts about the typed functions, up to the law: no program in sight. No conditions. -/
import Derived.Test.YtolinhiimdajhaaV5
import Derived.Test.YtolinhiimdajhaaDLActs
namespace Go.Vs
open Go

section
variable {α β S B R : Type}

open Classical in
/-- a loop that looks at each round for a reason to stop -/
theorem scan {body : Int → Option (Step Int Unit R)} {kb : Unit → Option β} {kr : R → Option β} {s n : Nat} {c : Nat → Bool} {r : R} (hs : s ≤ n) (hn : n < 9223372036854775807)
    (hb : ∀ i : Nat, s ≤ i → i < n → body (i : Int) = some (if c i = true then .next ((i : Int) + 1) else .ret r)) (he : body (n : Int) = some (.brk ())) :
    onL (loop body loopLim (s : Int)) kb kr = if ∀ i, s ≤ i → i < n → c i = true then kb () else kr r := by
  by_cases h : ∀ i, s ≤ i → i < n → c i = true
  · rw [if_pos h]
    have := loop_brk (body := body) (fun j => ((s + j : Nat) : Int)) (b := ()) (n - s) (by omega) (fun j hj => by
      rw [hb (s + j) (by omega) (by omega), if_pos (h _ (by omega) (by omega))]; congr 2) (by rw [show s + (n - s) = n by omega]; exact he)
    simp only [Nat.add_zero] at this
    rw [this]; rfl
  · rw [if_neg h]
    have hex : ∃ k, s ≤ k ∧ k < n ∧ c k = false := by
      refine Classical.byContradiction fun hc => h fun i h1 h2 => ?_
      cases hci : c i with
      | true => rfl
      | false => exact absurd ⟨i, h1, h2, hci⟩ hc
    -- the first of them
    have hleast : ∃ k, (s ≤ k ∧ k < n ∧ c k = false) ∧ ∀ j, s ≤ j → j < k → c j = true := by
      obtain ⟨k, hk⟩ := hex
      induction k using Nat.strongRecOn with
      | _ k ih =>
        by_cases hall : ∀ j, s ≤ j → j < k → c j = true
        · exact ⟨k, hk, hall⟩
        · have : ∃ j, s ≤ j ∧ j < k ∧ c j = false := by
            refine Classical.byContradiction fun hc => hall fun i h1 h2 => ?_
            cases hci : c i with
            | true => rfl
            | false => exact absurd ⟨i, h1, h2, hci⟩ hc
          obtain ⟨j, h1, h2, h3⟩ := this
          exact ih j h2 ⟨h1, by omega, h3⟩
    obtain ⟨k, ⟨h1, h2, h3⟩, h4⟩ := hleast
    have := loop_ret' (body := body) (fun j => ((s + j : Nat) : Int)) (r := r) (k - s) (by omega) (fun j hj => by
      rw [hb (s + j) (by omega) (by omega), if_pos (h4 _ (by omega) (by omega))]; congr 2) (by
      rw [show s + (k - s) = k by omega, hb k h1 h2, h3]; rfl)
    simp only [Nat.add_zero] at this
    rw [this]; rfl
theorem w64_succ {i n : Nat} (h : i < n) (hn : n < 9223372036854775807) : w64 ((i : Int) + 1) = (i : Int) + 1 := w64_id (by omega) (by omega)
theorem at_of {l : List α} {i : Nat} (h : i < l.length) : at? l (i : Int) = some l[i] := at_nat h
/-- comparisons element by element -/
theorem eqS {f : α → α → Option Bool} {c : α → α → Bool} (a b : List α) (hf : ∀ x, x ∈ a → ∀ y, y ∈ b → f x y = some (c x y)) (ha : a.length < 9223372036854775807) :
    (if (a.length : Int) = (b.length : Int) then (onL (loop (S := Int) (B := Unit) (R := Bool) (fun (i1 : Int) => if i1 < (a.length : Int) then
      ((at? a i1).bind fun v1 => (at? b i1).bind fun v2 => (f v1 v2).bind fun r1 => if r1 then (some (.next (w64 (i1 + 1)))) else some (.ret false)) else some (.brk ())) loopLim 0) (fun (_ : Unit) => some true) (fun r => some r)) else some false)
      = some (decide (a.length = b.length) && (List.zipWith c a b).all id) := by
  by_cases hl : a.length = b.length
  · rw [if_pos (by omega)]
    have := scan (body := fun (i1 : Int) => if i1 < (a.length : Int) then
      ((at? a i1).bind fun v1 => (at? b i1).bind fun v2 => (f v1 v2).bind fun r1 => if r1 then (some (.next (w64 (i1 + 1)))) else some (.ret false)) else some (.brk ()))
      (kb := fun (_ : Unit) => some true) (kr := fun r => some r) (s := 0) (n := a.length) (c := fun i => if h : i < a.length ∧ i < b.length then c a[i] b[i] else true) (r := false) (by omega) ha ?_ (by simp)
    · simp only [Int.natCast_zero] at this
      refine this.trans ?_
      split
      · rename_i h
        congr 1
        symm
        simp only [Bool.and_eq_true, decide_eq_true_eq, hl, true_and, List.all_eq_true, id]
        intro x hx
        obtain ⟨i, hi, rfl⟩ := List.getElem_of_mem hx
        simp only [List.length_zipWith] at hi
        have := h i (by omega) (by omega)
        simpa [show i < a.length ∧ i < b.length by omega] using this
      · rename_i h
        congr 1
        symm
        simp only [Bool.and_eq_false_iff]
        right
        refine Classical.byContradiction fun hc => h fun i _ hi => ?_
        have hall : (List.zipWith c a b).all id = true := by simpa using hc
        rw [List.all_eq_true] at hall
        have hi2 : i < a.length ∧ i < b.length := ⟨hi, by omega⟩
        have := hall (c a[i] b[i]) (by
          rw [List.mem_iff_getElem]
          exact ⟨i, by simp; omega, by simp⟩)
        simpa [hi2] using this
    · intro i _ hi
      have hib : i < b.length := by omega
      have h1 : (i : Int) < (a.length : Int) := by omega
      simp only [h1, if_true, at_of hi, at_of hib, Option.bind_some, hf _ (List.getElem_mem hi) _ (List.getElem_mem hib), hi, hib, and_self, dite_true]
      split
      · rw [w64_id (by omega) (by omega)]
      · rfl
  · rw [if_neg (by omega)]
    simp [hl]
theorem zip_eq [DecidableEq α] {c : α → α → Bool} (hc : ∀ x y, c x y = decide (x = y)) : ∀ (a b : List α), (decide (a.length = b.length) && (List.zipWith c a b).all id) = decide (a = b)
  | [], [] => by simp
  | [], _ :: _ => by simp
  | _ :: _, [] => by simp
  | x :: a, y :: b => by
    have ih := zip_eq hc a b
    simp only [List.length_cons, Nat.add_right_cancel_iff, List.zipWith_cons_cons, List.all_cons, id, List.cons.injEq, hc] at ih ⊢
    by_cases hxy : x = y
    · simp [hxy, ih]
    · simp [hxy]
end
/-- the same with a proposition for a test -/
theorem eqSp {α : Type} [DecidableEq α] (a b : List α) (ha : a.length < 9223372036854775807) :
    (if (a.length : Int) = (b.length : Int) then (onL (loop (S := Int) (B := Unit) (R := Bool) (fun (i1 : Int) => if i1 < (a.length : Int) then
      ((at? a i1).bind fun v1 => (at? b i1).bind fun v2 => if v1 = v2 then (some (.next (w64 (i1 + 1)))) else some (.ret false)) else some (.brk ())) loopLim 0) (fun (_ : Unit) => some true) (fun r => some r)) else some false)
      = some (decide (a = b)) := by
  rw [← zip_eq (c := fun x y => decide (x = y)) (fun _ _ => rfl), ← eqS (f := fun x y => some (decide (x = y))) (c := fun x y => decide (x = y)) a b (fun _ _ _ _ => rfl) ha]
  congr 3
  funext i
  split
  · congr 1; funext v1; congr 1; funext v2
    simp only [Option.bind_some, decide_eq_true_eq]
  · rfl
end Go.Vs

namespace Go.Vs.G
open Go Go.Vs

/-- a source that can still be asked; B bounds the place that it has come to -/
structure SrcOk (B : Int) (s : GL00Src) : Prop where
  bytes : ∀ x, x ∈ s.code → 0 ≤ x ∧ x ≤ 255
  len : s.code.length ≤ 1000000
  at0 : 0 ≤ s.at_
  atB : s.at_ ≤ B
theorem SrcOk.mono {B B' : Int} {s : GL00Src} (h : SrcOk B s) (hB : B ≤ B') : SrcOk B' s := ⟨h.bytes, h.len, h.at0, Int.le_trans h.atB hB⟩
theorem srcOk_from {code : List Int} (h : okL (okI .u8) code) (hl : code.length ≤ 1000000) : SrcOk 0 (GL00Src.mk code 0 0) :=
  ⟨fun x hx => okU8 (h.2 x hx), hl, by simp, by simp⟩
theorem shr40 (n : Int) : shr? .u64 n 40 = some (n.fdiv (2 ^ 40)) := by
  simp [shr?, IntKind.bits]
theorem and255 (n : Int) : 0 ≤ bit_and .u64 n 255 ∧ bit_and .u64 n 255 ≤ 255 := by
  unfold bit_and
  rw [wu64_def]
  have h : (BitVec.ofInt IntKind.u64.bits n &&& BitVec.ofInt IntKind.u64.bits 255).toNat ≤ 255 := by
    rw [BitVec.toNat_and]
    exact Nat.le_trans Nat.and_le_right (by decide)
  omega
theorem next_ok {B : Int} {s : GL00Src} (h : SrcOk B s) (hB : B ≤ 4611686018427387904) : ∃ v s', spec_l00Src_next s = some (v, s') ∧ 0 ≤ v ∧ v ≤ 255 ∧ SrcOk (B + 1) s' := by
  have h1 := h.at0
  have h2 := h.atB
  have h3 := h.len
  have hat : w64 (s.at_ + 1) = s.at_ + 1 := w64_id (by omega) (by omega)
  have hb : ∃ b, (if s.at_ < (s.code.length : Int) then ((at? s.code s.at_).bind fun v1 => some (w64 v1)) else some 0) = some b ∧ 0 ≤ b ∧ b ≤ 255 := by
    split
    · rename_i hlt
      rw [at_ok h1 (by omega), Option.bind_some]
      obtain ⟨g1, g2⟩ := h.bytes s.code[s.at_.toNat] (List.getElem_mem (by omega))
      exact ⟨_, rfl, by rw [w64_id (by omega) (by omega)]; omega, by rw [w64_id (by omega) (by omega)]; omega⟩
    · exact ⟨0, rfl, by omega, by omega⟩
  obtain ⟨b, hb, b0, b1⟩ := hb
  unfold spec_l00Src_next
  rw [hb, Option.bind_some, hat]
  split
  · exact ⟨_, _, rfl, b0, b1, ⟨h.bytes, h.len, by simp only; omega, by simp only; omega⟩⟩
  · rw [shr40, Option.bind_some]
    have := and255 ((IntKind.wrap .u64 ((IntKind.wrap .u64 ((IntKind.wrap .u64 (s.seed * 6364136223846793005)) + (IntKind.wrap .u64 b))) + 1442695040888963407)).fdiv (2 ^ 40))
    exact ⟨_, _, rfl, by rw [w64_id (by omega) (by omega)]; omega, by rw [w64_id (by omega) (by omega)]; omega, ⟨h.bytes, h.len, by simp only; omega, by simp only; omega⟩⟩
theorem pick_ok {B : Int} {s : GL00Src} (h : SrcOk B s) (hB : B ≤ 4611686018427387000) (n : Int) : ∃ v s', spec_l00Src_pick s n = some (v, s') ∧ 0 ≤ v ∧ (v = 0 ∨ v < n) ∧ SrcOk (B + 2) s' := by
  unfold spec_l00Src_pick
  by_cases hn : n ≤ 1
  · rw [if_pos hn]; exact ⟨0, s, rfl, by omega, .inl rfl, h.mono (by omega)⟩
  · rw [if_neg hn]
    obtain ⟨v, s1, e1, v0, v1, k1⟩ := next_ok h (by omega)
    rw [e1, Option.bind_some]
    by_cases h2 : n > 200
    · rw [if_pos h2]
      obtain ⟨u, s2, e2, u0, u1, k2⟩ := next_ok k1 (by omega)
      simp only
      rw [e2, Option.bind_some, mod_ok (by omega), Option.bind_some, w64_id (n := v * 256) (by omega) (by omega), w64_id (by simp only; omega) (by simp only; omega)]
      have e : (v * 256 + u).tmod n = (v * 256 + u) % n := Int.tmod_eq_emod_of_nonneg (by omega)
      refine ⟨_, _, rfl, ?_, ?_, by rw [show B + 2 = B + 1 + 1 by omega]; exact k2⟩
      · simp only [e]; exact Int.emod_nonneg _ (by omega)
      · simp only [e]; right; exact Int.emod_lt_of_pos _ (by omega)
    · rw [if_neg h2, mod_ok (by omega), Option.bind_some]
      simp only
      have e : v.tmod n = v % n := Int.tmod_eq_emod_of_nonneg (by omega)
      refine ⟨_, _, rfl, ?_, ?_, k1.mono (by omega)⟩
      · rw [e]; exact Int.emod_nonneg _ (by omega)
      · rw [e]; right; exact Int.emod_lt_of_pos _ (by omega)
/-- one of some numbers -/
theorem among_ok {B : Int} {s : GL00Src} (h : SrcOk B s) (hB : B ≤ 4611686018427387000) {l : List Int} (hl : 1 ≤ l.length) (hl2 : l.length ≤ 1000) : ∃ v s', spec_l00Src_among s l = some (v, s') ∧ v ∈ l ∧ SrcOk (B + 2) s' := by
  unfold spec_l00Src_among
  obtain ⟨v, s1, e1, v0, v1, k1⟩ := pick_ok h hB (l.length : Int)
  rw [e1, Option.bind_some]
  simp only
  rw [at_ok v0 (by omega), Option.bind_some]
  exact ⟨_, _, rfl, List.getElem_mem _, k1⟩
end Go.Vs.G

namespace Go.Vs.G
open Go Go.Vs

/-- f is n / d in lowest terms -/
structure Red (n d : Int) (f : GFraction) : Prop where
  pos : 0 < f.Den
  cop : Int.gcd f.Num f.Den = 1
  eq : f.Num * d = n * f.Den
theorem dvd_of_cop {a b c : Int} (h : Int.gcd a b = 1) (hd : b ∣ a * c) : b ∣ c := by
  rw [← Int.natAbs_dvd_natAbs] at hd ⊢
  rw [Int.natAbs_mul] at hd
  have : Nat.Coprime b.natAbs a.natAbs := by rw [Nat.coprime_comm]; exact h
  exact this.dvd_of_dvd_mul_left hd
theorem Red.unique {f g : GFraction} (hf : 0 < f.Den) (hg : 0 < g.Den) (cf : Int.gcd f.Num f.Den = 1) (cg : Int.gcd g.Num g.Den = 1) (h : f.Num * g.Den = g.Num * f.Den) : f = g := by
  have h1 : f.Den ∣ g.Den := dvd_of_cop cf ⟨g.Num, by rw [h, Int.mul_comm]⟩
  have h2 : g.Den ∣ f.Den := dvd_of_cop cg ⟨f.Num, by rw [← h, Int.mul_comm]⟩
  have hd : f.Den = g.Den := Int.le_antisymm (Int.le_of_dvd hg h1) (Int.le_of_dvd hf h2)
  have hn : f.Num = g.Num := by
    rw [hd] at h
    exact Int.eq_of_mul_eq_mul_right (by omega) h
  cases f; cases g
  simp_all
end Go.Vs.G

namespace Go.Vs.G
open Go Go.Vs

theorem Red.same {n d : Int} {f g : GFraction} (hf : Red n d f) (hg : Red n d g) (hd : d ≠ 0) : f = g := by
  refine Red.unique hf.pos hg.pos hf.cop hg.cop ?_
  have e1 := hf.eq
  have e2 := hg.eq
  refine Int.eq_of_mul_eq_mul_left (a := d) hd ?_
  calc d * (f.Num * g.Den) = (f.Num * d) * g.Den := by simp only [Int.mul_assoc, Int.mul_comm, Int.mul_left_comm]
    _ = (g.Num * d) * f.Den := by rw [e1, e2]; simp only [Int.mul_assoc, Int.mul_comm, Int.mul_left_comm]
    _ = d * (g.Num * f.Den) := by simp only [Int.mul_assoc, Int.mul_comm, Int.mul_left_comm]
/- counting -/
/- the same on both sides -/
/- draws -/
theorem one_ok {B : Int} {s : GL00Src} (h : SrcOk B s) (hB : B ≤ 4611686018427387000) (n : Int) : ∃ v s', spec_l00Src_one s n = some (v, s') ∧ SrcOk (B + 2) s' := by
  unfold spec_l00Src_one
  obtain ⟨v, s1, e1, _, _, k1⟩ := pick_ok h hB n
  rw [e1]; exact ⟨_, _, rfl, k1⟩
end Go.Vs.G

namespace Go.Vs
open Go

section
variable {α β γ R : Type}

theorem take_succ_map {g : α → β} {l : List α} {j : Nat} (hj : j < l.length) : (l.take j).map g ++ [g l[j]] = (l.take (j + 1)).map g := by
  rw [List.take_add_one, List.getElem?_eq_getElem hj, List.map_append]; rfl
/-- a loop that lays one value behind another -/
theorem mapS {f : α → Option β} (g : α → β) (l : List α) (hf : ∀ x, x ∈ l → f x = some (g x)) (hl : l.length ≤ 4294967296)
    {body : List β × Int → Option (Step (List β × Int) (List β) R)} {kb : List β → Option γ} {kr : R → Option γ}
    (hb : ∀ (out : List β) (i : Int), body (out, i) = if i < (l.length : Int) then ((at? l i).bind fun v => (f v).bind fun r => (app? out ([r] : List β)).bind fun l1 => some (.next (l1, w64 (i + 1)))) else some (.brk out)) :
    onL (loop body loopLim ([], 0)) kb kr = kb (l.map g) := by
  have := loop_brk (body := body) (fun j : Nat => ((l.take j).map g, (j : Int))) (b := l.map g) l.length (by omega) (fun j hj => by
    rw [hb, if_pos (by omega), at_of hj, Option.bind_some, hf _ (List.getElem_mem hj), Option.bind_some, app_ok (by simp; omega), Option.bind_some, w64_id (by omega) (by omega)]
    rw [take_succ_map hj]; rfl) (by rw [hb, if_neg (by omega)]; simp)
  simp only [List.take_zero, List.map_nil, Int.natCast_zero] at this
  rw [this]; rfl
/-- the library's IndexFunc -/
theorem idxFS {f : α → Option Bool} (c : α → Bool) (l : List α) (hf : ∀ x, x ∈ l → f x = some (c x)) (hl : l.length < 9223372036854775807)
    {body : Int → Option (Step Int Unit Int)}
    (hb : ∀ (i : Int), body i = if i < (l.length : Int) then ((at? l i).bind fun v => (f v).bind fun r => if r = true then some (.ret i) else some (.next (w64 (i + 1)))) else some (.brk ())) :
    wp (onL (loop body loopLim 0) (fun (_ : Unit) => some (-1 : Int)) (fun r => some r)) fun r => (r = -1 ∧ l.any c = false) ∨ (∃ k : Nat, r = (k : Int) ∧ ∃ h : k < l.length, c l[k] = true ∧ (∀ j (h2 : j < k), c (l[j]'(by omega)) = false) ∧ l.any c = true) := by
  refine wp_loop (fun t : Int => ∃ k : Nat, t = (k : Int) ∧ k ≤ l.length ∧ ∀ j (h2 : j < k) (h3 : j < l.length), c l[j] = false) (fun t => (l.length - t).toNat) ⟨0, rfl, by omega, fun j hj => by omega⟩ (by omega) ?_
  rintro i ⟨k, rfl, hk, hall⟩
  rw [hb]
  refine wp_ite (fun h => ?_) (fun h => ?_)
  · have hk2 : k < l.length := by omega
    rw [at_of hk2, Option.bind_some, hf _ (List.getElem_mem hk2), Option.bind_some]
    refine wp_ite (fun h3 => ?_) (fun h3 => ?_)
    · exact wp_some (wp_some (.inr ⟨k, rfl, hk2, h3, fun j hj => hall j hj (by omega), List.any_eq_true.2 ⟨_, List.getElem_mem hk2, h3⟩⟩))
    · rw [w64_succ hk2 (by omega)]
      refine wp_some ⟨⟨k + 1, rfl, by omega, fun j hj hj2 => ?_⟩, by omega⟩
      rcases Nat.lt_or_ge j k with h4 | h4
      · exact hall j h4 hj2
      · obtain rfl : j = k := by omega
        simpa using h3
  · obtain rfl : k = l.length := by omega
    refine wp_some (wp_some (.inl ⟨rfl, ?_⟩))
    refine Bool.eq_false_iff.2 fun hc => ?_
    obtain ⟨x, hx, hx2⟩ := List.any_eq_true.1 hc
    obtain ⟨j, hj, rfl⟩ := List.getElem_of_mem hx
    rw [hall j hj hj] at hx2
    cases hx2
/-- the library's ContainsFunc -/
theorem contS {f : α → Option Bool} (c : α → Bool) (l : List α) (hf : ∀ x, x ∈ l → f x = some (c x)) (hl : l.length < 9223372036854775807)
    {body : Int → Option (Step Int Unit Int)}
    (hb : ∀ (i : Int), body i = if i < (l.length : Int) then ((at? l i).bind fun v => (f v).bind fun r => if r = true then some (.ret i) else some (.next (w64 (i + 1)))) else some (.brk ())) :
    ((onL (loop body loopLim 0) (fun (_ : Unit) => some (-1 : Int)) (fun r => some r)).bind fun r => some (decide (r ≥ 0))) = some (l.any c) := by
  obtain ⟨r, h1, h2⟩ := idxFS c l hf hl hb
  rw [h1, Option.bind_some]
  rcases h2 with ⟨rfl, h⟩ | ⟨k, rfl, _, _, _, h⟩
  · rw [h]; rfl
  · rw [h, decide_eq_true (by omega)]
/-- a loop whose state at each round is told -/
theorem wp_cnt {S B : Type} {Q : γ → Prop} {body : S → Option (Step S B R)} {kb : B → Option γ} {kr : R → Option γ} {s0 : S} (st : Nat → S) (n : Nat) (h0 : s0 = st 0) (hn : n < 18446744073709551616)
    (hs : ∀ k, k < n → body (st k) = some (.next (st (k + 1)))) {b : B} (he : body (st n) = some (.brk b)) (hq : wp (kb b) Q) : wp (onL (loop body loopLim s0) kb kr) Q := by
  rw [h0, loop_brk st n hn hs he]; exact hq
/-- the numbers below n that fit -/
def sl (c : Nat → Bool) : Nat → List Int
  | 0 => []
  | k + 1 => if c k = true then sl c k ++ [(k : Int)] else sl c k
end
end Go.Vs

namespace Go.Vs
theorem wp_seq {α β : Type} {A : Option β} {k : β → Option α} {P : β → Prop} {Q : α → Prop} (h : wp A P) (hk : ∀ x, P x → wp (k x) Q) : wp (A.bind k) Q := by
  obtain ⟨x, rfl, hx⟩ := h; exact hk x hx
end Go.Vs
namespace Go.Vs.G
open Go Go.Vs

section
variable {α : Type} {Q : α → Prop} {B : Int} {s : GL00Src}
theorem wp_pick {n : Int} {k : Int × GL00Src → Option α} (h : SrcOk B s) (hB : B ≤ 4611686018427387000) (hk : ∀ v s', 0 ≤ v → (v = 0 ∨ v < n) → SrcOk (B + 2) s' → wp (k (v, s')) Q) : wp ((spec_l00Src_pick s n).bind k) Q := by
  obtain ⟨v, s', e, h0, h1, h2⟩ := pick_ok h hB n
  rw [e]; exact hk v s' h0 h1 h2
theorem wp_one {n : Int} {k : Bool × GL00Src → Option α} (h : SrcOk B s) (hB : B ≤ 4611686018427387000) (hk : ∀ v s', SrcOk (B + 2) s' → wp (k (v, s')) Q) : wp ((spec_l00Src_one s n).bind k) Q := by
  obtain ⟨v, s', e, h2⟩ := one_ok h hB n
  rw [e]; exact hk v s' h2
theorem wp_among {l : List Int} {k : Int × GL00Src → Option α} (h : SrcOk B s) (hB : B ≤ 4611686018427387000) (hl : 1 ≤ l.length) (hl2 : l.length ≤ 1000) (hk : ∀ v s', v ∈ l → SrcOk (B + 2) s' → wp (k (v, s')) Q) : wp ((spec_l00Src_among s l).bind k) Q := by
  obtain ⟨v, s', e, h1, h2⟩ := among_ok h hB hl hl2
  rw [e]; exact hk v s' h1 h2
theorem wp_from {code : List Int} {k : GL00Src → Option α} (h : okL (okI .u8) code) (hl : code.length ≤ 1000000) (hk : ∀ s, SrcOk 0 s → wp (k s) Q) : wp ((spec_l00From code).bind k) Q := hk _ (srcOk_from h hl)
theorem wp_app {β : Type} {l m : List β} {k : List β → Option α} (h : l.length + m.length ≤ 4294967296) (hk : wp (k (l ++ m)) Q) : wp ((app? l m).bind k) Q := by
  rw [app_ok h]; exact hk
theorem wp_bif {b : Bool} {A A' : Option α} (h1 : b = true → wp A Q) (h2 : b = false → wp A' Q) : wp (if b = true then A else A') Q := by
  cases b
  · exact h2 rfl
  · exact h1 rfl
end
end Go.Vs.G

namespace Go.Vs
open Go
section
variable {α : Type} [Inhabited α]
def gd (l : List α) (i : Nat) : α := l.getD i default
theorem gd_of {l : List α} {i : Nat} (h : i < l.length) : gd l i = l[i] := by unfold gd; simp [h]
theorem at_gd {l : List α} {i : Nat} (h : i < l.length) : at? l (i : Int) = some (gd l i) := by rw [at_of h, gd_of h]
theorem gd_mem {l : List α} {i : Nat} (h : i < l.length) : gd l i ∈ l := by rw [gd_of h]; exact List.getElem_mem h
theorem mem_gd {l : List α} {x : α} (h : x ∈ l) : ∃ i, i < l.length ∧ x = gd l i := by
  obtain ⟨i, hi, rfl⟩ := List.getElem_of_mem h; exact ⟨i, hi, (gd_of hi).symm⟩
theorem gd_tab {f : Nat → α} {n i : Nat} (h : i < n) : gd (tab f n) i = f i := by rw [gd_of (by simpa using h)]; simp [tab]
theorem gd_map {β : Type} [Inhabited β] {f : β → α} {l : List β} {i : Nat} (h : i < l.length) : gd (l.map f) i = f (gd l i) := by
  rw [gd_of (by simpa using h), gd_of h]; simp
theorem ext_gd {l m : List α} (hl : l.length = m.length) (h : ∀ i, i < l.length → gd l i = gd m i) : l = m := by
  refine List.ext_getElem hl fun i h1 h2 => ?_
  have := h i h1
  rwa [gd_of h1, gd_of h2] at this
theorem tab_gd (l : List α) : tab (gd l) l.length = l := (eq_tab l default).symm
end
end Go.Vs
namespace Go.Vs.G
open Go Go.Vs
def vpt (p : GPoint) : Bool := decide (0 ≤ p.X ∧ p.X ≤ 1000) && decide (0 ≤ p.Y ∧ p.Y ≤ 1000)
def vps (j : List GPoint) : Bool := decide (1 ≤ j.length ∧ j.length ≤ 8) && j.all vpt
theorem within_d (n a b : Int) : impl_within n a b = some (decide (a ≤ n ∧ n ≤ b)) := by
  unfold impl_within
  by_cases h : n ≥ a
  · rw [if_pos h]; exact congrArg some (decide_eq_decide.2 (by omega))
  · rw [if_neg h, decide_eq_false (by omega)]
theorem l00In_d (n a b : Int) : spec_l00In n a b = some (decide (a ≤ n ∧ n ≤ b)) := by
  unfold spec_l00In
  by_cases h : n ≥ a
  · rw [if_pos h]; exact congrArg some (decide_eq_decide.2 (by omega))
  · rw [if_neg h, decide_eq_false (by omega)]
/- what lies between -/
section
variable {a b : List GPoint} (ha : vps a = true) (hb : vps b = true) (hl : a.length = b.length) {p n : Int} (hp : 0 ≤ p ∧ p ≤ n) (hn : 1 ≤ n ∧ n ≤ 10000)
include ha hb hl hp hn
end
end Go.Vs.G

namespace Go.Vs.G
open Go Go.Vs

def small (c : UInt8) : Bool := decide (97 ≤ c.toNat ∧ c.toNat ≤ 122)
def letter (c : UInt8) : Bool := small c || decide (48 ≤ c.toNat ∧ c.toNat ≤ 57) || decide (c.toNat = 45)
/-- a name: one to twelve small letters, digits and hyphens, a letter first -/
def isName : List UInt8 → Bool
  | [] => false
  | c :: s => decide (s.length ≤ 11) && small c && (c :: s).all letter
theorem scanBytes {s : List UInt8} (hl : s.length ≤ 12) {k : Nat} (hk : k ≤ s.length) {body : Int → Option (Step Int Unit Bool)} (hb : ∀ i : Nat, k ≤ i → (hi : i < s.length) → body (i : Int) = some (if letter s[i] = true then .next ((i : Int) + 1) else .ret false)) (he : body (s.length : Int) = some (.brk ())) :
    onL (loop body loopLim (k : Int)) (fun _ => some true) (fun r => some r) = some ((s.drop k).all letter) := by
  rw [scan (n := s.length) (c := fun i => if h : i < s.length then letter s[i] else true) (r := false) hk (by omega) (fun i h1 h2 => by rw [hb i h1 h2]; simp [h2]) he]
  split
  · rename_i h
    congr 1; symm
    rw [List.all_eq_true]
    intro c hc
    obtain ⟨i, hi, rfl⟩ := List.getElem_of_mem hc
    rw [List.length_drop] at hi
    have := h (k + i) (by omega) (by omega)
    simpa [show k + i < s.length by omega] using this
  · rename_i h
    congr 1; symm
    refine Classical.byContradiction fun hc => h fun i h1 h2 => ?_
    have hall : (s.drop k).all letter = true := by simpa using hc
    rw [List.all_eq_true] at hall
    simp only [h2, dite_true]
    refine hall _ ?_
    rw [List.mem_iff_getElem]
    exact ⟨i - k, by rw [List.length_drop]; omega, by simp [show k + (i - k) = i by omega]⟩
theorem small_iff (c : UInt8) : small c = true ↔ 97 ≤ c.toNat ∧ c.toNat ≤ 122 := by simp [small]
theorem letter_iff (c : UInt8) : letter c = true ↔ (97 ≤ c.toNat ∧ c.toNat ≤ 122) ∨ (48 ≤ c.toNat ∧ c.toNat ≤ 57) ∨ c.toNat = 45 := by simp [letter, small, or_assoc]
theorem impl_IsName_eq (s : List UInt8) (hs : s.length ≤ 9223372036854775807) : impl_IsName s = some (isName s) := by
  unfold impl_IsName
  cases s with
  | nil => simp [isName]
  | cons c t =>
    have h0 : at? (c :: t) 0 = some c := rfl
    have hlen : ((c :: t).length : Int) = t.length + 1 := by simp
    simp only [h0, Option.bind_some, hlen]
    rw [if_neg (show ¬ (t.length : Int) + 1 < 1 by omega)]
    by_cases h1 : (t.length : Int) + 1 > 12
    · rw [if_pos h1]
      have : ¬ t.length ≤ 11 := by omega
      simp [isName, this]
    · rw [if_neg h1]
      have h11 : t.length ≤ 11 := by omega
      have hsm : (if (c.toNat : Int) < 97 then some true else some (decide ((c.toNat : Int) > 122))) = some (!small c) := by
        split
        · rename_i h; congr 1; symm; have : ¬ (small c = true) := by rw [small_iff]; omega
          simpa using this
        · rename_i h; congr 1
          rw [Bool.eq_iff_iff]; simp [small]; omega
      rw [hsm, Option.bind_some]
      by_cases hc : small c = true
      · simp only [hc, Bool.not_true, Bool.false_eq_true, if_false]
        have hlc : letter c = true := by simp [letter, hc]
        refine (scanBytes (s := c :: t) (by simp; omega) (k := 1) (by simp) ?_ (by simp)).trans ?_
        rotate_left
        · simp [isName, h11, hc, hlc]
        · intro i hi1 hi2
          have h5 : (i : Int) < (t.length : Int) + 1 := by simp at hi2; omega
          simp only [h5, if_true, at_of hi2, Option.bind_some]
          generalize (c :: t)[i] = d
          have hw : w64 ((i : Int) + 1) = i + 1 := w64_id (by omega) (by omega)
          have key : (if (d.toNat : Int) < 97 then (if (d.toNat : Int) < 48 then some (!(decide ((d.toNat : Int) = 45))) else if (d.toNat : Int) > 57 then some (!(decide ((d.toNat : Int) = 45))) else some false)
            else if (d.toNat : Int) > 122 then (if (d.toNat : Int) < 48 then some (!(decide ((d.toNat : Int) = 45))) else if (d.toNat : Int) > 57 then some (!(decide ((d.toNat : Int) = 45))) else some false) else some false) = some (!letter d) := by
            have hl := letter_iff d
            cases hd : letter d <;> simp only [hd, Bool.false_eq_true, false_iff, true_iff, not_or] at hl
            · repeat' split
              all_goals simp
              all_goals omega
            · repeat' split
              all_goals simp
              all_goals omega
          rw [key, Option.bind_some, hw]
          cases letter d <;> rfl
      · have hc' : small c = false := by simpa using hc
        simp [hc', isName]
theorem l01Small_eq (c : UInt8) : spec_l01Small (c.toNat : Int) = some (small c) := by
  unfold spec_l01Small small
  split
  · congr 1; rw [decide_eq_decide]; omega
  · congr 1; symm; rw [decide_eq_false_iff_not]; omega
theorem l01Digit_eq (c : UInt8) : spec_l01Digit (c.toNat : Int) = some (decide (48 ≤ c.toNat ∧ c.toNat ≤ 57)) := by
  unfold spec_l01Digit
  split
  · congr 1; rw [decide_eq_decide]; omega
  · congr 1; symm; rw [decide_eq_false_iff_not]; omega
theorem spec_IsName_eq (s : List UInt8) (hs : s.length ≤ 9223372036854775807) : spec_IsName s = some (isName s) := by
  unfold spec_IsName
  cases s with
  | nil => simp [isName]
  | cons c t =>
    have h0 : at? (c :: t) 0 = some c := rfl
    have hlen : ((c :: t).length : Int) = t.length + 1 := by simp
    simp only [h0, Option.bind_some, hlen, l01Small_eq, l01Digit_eq]
    rw [if_neg (by simp)]
    by_cases h1 : (t.length : Int) + 1 > 12
    · rw [if_pos h1]
      have : ¬ t.length ≤ 11 := by omega
      simp [isName, this]
    · rw [if_neg h1]
      have h11 : t.length ≤ 11 := by omega
      by_cases hc : small c = true
      · simp only [hc, Bool.not_true, Bool.false_eq_true, if_false, Option.bind_some]
        refine (scanBytes (s := c :: t) (by simp; omega) (k := 0) (by simp) ?_ (by simp)).trans ?_
        rotate_left
        · simp [isName, h11, hc]
        · intro i hi1 hi2
          have h5 : (i : Int) < (t.length : Int) + 1 := by simp at hi2; omega
          simp only [h5, if_true, at_of hi2, Option.bind_some, l01Small_eq, l01Digit_eq]
          generalize (c :: t)[i] = d
          have hw : w64 ((i : Int) + 1) = i + 1 := w64_id (by omega) (by omega)
          have key : (if small d = true then some false else if decide (48 ≤ d.toNat ∧ d.toNat ≤ 57) = true then some false else some (!(decide ((d.toNat : Int) = 45)))) = some (!letter d) := by
            unfold letter
            split
            · simp_all
            · split
              · simp_all
              · have : decide ((d.toNat : Int) = 45) = decide (d.toNat = 45) := by rw [decide_eq_decide]; omega
                simp_all
                omega
          rw [key, Option.bind_some, hw]
          cases letter d <;> rfl
      · have hc' : small c = false := by simpa using hc
        simp [hc', isName]
end Go.Vs.G

namespace Go.Vs
open Go
/-- a loop that keeps some -/
theorem filtS {α γ R : Type} [Inhabited α] {c : α → Bool} (l : List α) (hl : l.length ≤ 4294967296)
    {body : List α × Int → Option (Step (List α × Int) (List α) R)} {kb : List α → Option γ} {kr : R → Option γ}
    (hb : ∀ (out : List α) (i : Nat), i < l.length → out.length ≤ i → body (out, (i : Int)) = some (.next (if c (gd l i) = true then out ++ [gd l i] else out, (i : Int) + 1)))
    (he : ∀ (out : List α), body (out, (l.length : Int)) = some (.brk out)) :
    onL (loop body loopLim ([], 0)) kb kr = kb (l.filter c) := by
  have := loop_brk (body := body) (fun j : Nat => ((l.take j).filter c, (j : Int))) (b := l.filter c) l.length (by omega) (fun j hj => by
    rw [hb _ j hj (Nat.le_trans (List.length_filter_le _ _) (by simp; omega)), List.take_add_one, List.getElem?_eq_getElem hj, List.filter_append, ← gd_of hj]
    cases hc : c (gd l j) <;> simp [hc]) (by simp only [List.take_length]; exact he _)
  simp only [List.take_zero, List.filter_nil, Int.natCast_zero] at this
  rw [this]; rfl
end Go.Vs
namespace Go.Vs.G
open Go Go.Vs
abbrev wShow : List UInt8 := [115, 104, 111, 119]
abbrev wHide : List UInt8 := [104, 105, 100, 101]
abbrev wTurn : List UInt8 := [116, 117, 114, 110]
theorem beqd {α : Type} [BEq α] [LawfulBEq α] [DecidableEq α] (a b : α) : (a == b) = decide (a = b) := by
  rw [Bool.eq_iff_iff]; simp
/-- whether a slide is shown behind the first k acts -/
def shown (acts : List GAct) (s : List UInt8) : Nat → Bool
  | 0 => false
  | k + 1 => if (gd acts k).Slide = s ∧ (gd acts k).Word ≠ wTurn then decide ((gd acts k).Word = wShow) else shown acts s k
theorem shown_congr {a b : List GAct} {s : List UInt8} : ∀ {k : Nat}, (∀ i, i < k → (gd a i).Slide = (gd b i).Slide ∧ (gd a i).Word = (gd b i).Word) → shown a s k = shown b s k
  | 0, _ => rfl
  | k + 1, h => by
    rw [shown, shown, (h k (by omega)).1, (h k (by omega)).2, shown_congr fun i hi => h i (by omega)]
theorem shown_has {a : List GAct} {s : List UInt8} : ∀ {k : Nat}, shown a s k = true → ∃ i, i < k ∧ (gd a i).Slide = s ∧ (gd a i).Word = wShow
  | 0, h => by cases h
  | k + 1, h => by
    rw [shown] at h
    split at h
    · rename_i hc; exact ⟨k, by omega, hc.1, of_decide_eq_true h⟩
    · obtain ⟨i, h1, h2⟩ := shown_has h; exact ⟨i, by omega, h2⟩
theorem isShown_eq {a : List GAct} (s : List UInt8) (hl : a.length ≤ 1000000) : impl_isShown a s = some (shown a s a.length) := by
  unfold impl_isShown
  refine eq_of_wp ?_
  refine wp_loop (fun i : Int => ∃ k : Nat, i = (k : Int) - 1 ∧ k ≤ a.length ∧ shown a s k = shown a s a.length) (fun i => (i + 1).toNat) ⟨a.length, by rw [w64_id (by omega) (by omega)], by omega, rfl⟩ (by rw [w64_id (by omega) (by omega)]; omega) ?_
  rintro _ ⟨k, rfl, hk, he⟩
  refine wp_ite (fun h0 => ?_) (fun h0 => ?_)
  · have hk1 : k - 1 < a.length := by omega
    rw [show (k : Int) - 1 = ((k - 1 : Nat) : Int) by omega, at_gd hk1, Option.bind_some, Option.bind_some, Option.bind_some]
    have hs : shown a s k = if (gd a (k - 1)).Slide = s ∧ (gd a (k - 1)).Word ≠ wTurn then decide ((gd a (k - 1)).Word = wShow) else shown a s (k - 1) := by
      rw [show k = k - 1 + 1 by omega, shown, Nat.add_sub_cancel]
    by_cases h1 : (gd a (k - 1)).Slide = s
    · by_cases h2 : (gd a (k - 1)).Word = wTurn
      · have e : ((gd a (k - 1)).Word == wTurn) = true := beq_iff_eq.2 h2
        rw [if_pos (beq_iff_eq.2 h1), e, Bool.not_true, Option.bind_some, if_neg (by simp), w64_id (by omega) (by omega)]
        refine wp_some ⟨⟨k - 1, by omega, by omega, ?_⟩, by omega⟩
        rw [← he, hs, if_neg (fun h => h.2 h2)]
      · have e : ((gd a (k - 1)).Word == wTurn) = false := by simpa using h2
        rw [if_pos (beq_iff_eq.2 h1), e, Bool.not_false, Option.bind_some, if_pos rfl]
        refine wp_some (wp_some ?_)
        rw [← he, hs, if_pos ⟨h1, h2⟩]; exact beqd _ _
    · rw [if_neg (fun h => h1 (beq_iff_eq.1 h)), Option.bind_some, if_neg (by simp), w64_id (by omega) (by omega)]
      refine wp_some ⟨⟨k - 1, by omega, by omega, ?_⟩, by omega⟩
      rw [← he, hs, if_neg (fun h => h1 h.1)]
  · obtain rfl : k = 0 := by omega
    exact wp_some (wp_some he)
theorem l18Is_eq {a : List GAct} (s : List UInt8) (hl : a.length ≤ 1000000) : spec_l18Is a s = some (shown a s a.length) := by
  unfold spec_l18Is
  refine eq_of_wp ?_
  refine wp_cnt (fun k => (shown a s k, (k : Int))) a.length rfl (by omega) (fun k hk => ?_) (b := shown a s a.length) ?_ (wp_some rfl)
  · simp only
    rw [if_pos (by omega), at_gd hk, Option.bind_some, Option.bind_some, Option.bind_some, w64_id (n := (k : Int) + 1) (by omega) (by omega), shown]
    by_cases h1 : (gd a k).Slide = s
    · by_cases h2 : (gd a k).Word = wTurn
      · have e : ((gd a k).Word == wTurn) = true := beq_iff_eq.2 h2
        rw [if_pos (beq_iff_eq.2 h1), e, Bool.not_true, Option.bind_some, if_neg (by simp), if_neg (fun h => h.2 h2)]; rfl
      · have e : ((gd a k).Word == wTurn) = false := by simpa using h2
        rw [if_pos (beq_iff_eq.2 h1), e, Bool.not_false, Option.bind_some, if_pos rfl, if_pos ⟨h1, h2⟩, beqd]; rfl
    · rw [if_neg (fun h => h1 (beq_iff_eq.1 h)), Option.bind_some, if_neg (by simp), if_neg (fun h => h1 h.1)]; rfl
  · simp only; rw [if_neg (by omega)]
/- slides -/
theorem hasSlide_eq {x : GScript} (s : List UInt8) (hl : x.Slides.length ≤ 1000000) : impl_Script_hasSlide x s = some (decide (s ∈ x.Slides)) := by
  unfold impl_Script_hasSlide slices_Contains_string_string_809 slices_Index_string_string_832
  refine (congrArg (fun o => Option.bind o _) (contS (f := fun v => some (s == v)) (fun v => s == v) x.Slides (fun _ _ => rfl) (by omega) (fun _ => rfl))).trans ?_
  rw [Option.bind_some]
  congr 1
  rw [Bool.eq_iff_iff, List.any_eq_true, decide_eq_true_eq]
  exact ⟨fun ⟨v, h1, h2⟩ => by rw [beq_iff_eq.1 h2]; exact h1, fun h => ⟨s, h, beq_self_eq_true s⟩⟩
theorem l18Has_eq {l : List (List UInt8)} (s : List UInt8) (hl : l.length ≤ 1000000) : spec_l18Has l s = some (decide (s ∈ l)) := by
  unfold spec_l18Has
  refine eq_of_wp ?_
  refine wp_loop (fun i : Int => ∃ k : Nat, i = (k : Int) ∧ k ≤ l.length ∧ ∀ j, j < k → gd l j ≠ s) (fun i => (l.length - i).toNat) ⟨0, rfl, by omega, by omega⟩ (by omega) ?_
  rintro _ ⟨k, rfl, hk, hall⟩
  refine wp_ite (fun h => ?_) (fun h => wp_some (wp_some ?_))
  · have hk' : k < l.length := by omega
    rw [at_gd hk', Option.bind_some]
    refine wp_ite (fun h1 => wp_some (wp_some ?_)) (fun h1 => ?_)
    · rw [← beq_iff_eq.1 h1]; exact (decide_eq_true (gd_mem hk')).symm
    · rw [w64_id (by omega) (by omega)]
      refine wp_some ⟨⟨k + 1, rfl, by omega, fun j hj => ?_⟩, by omega⟩
      rcases Nat.lt_or_ge j k with h2 | h2
      · exact hall j h2
      · rw [show j = k by omega]; exact fun h => h1 (beq_iff_eq.2 h)
  · obtain rfl : k = l.length := by omega
    refine (decide_eq_false fun hm => ?_).symm
    obtain ⟨j, hj, he⟩ := mem_gd hm
    exact hall j hj he.symm
/-- what is said of an act that is added -/
def actC (x : GScript) (a : GAct) : Int :=
  if (decide (a.Word = wShow) || (decide (a.Word = wHide) || decide (a.Word = wTurn))) = false then 1 else if decide (a.Slide ∈ x.Slides) = false then 6
  else if (decide (0 ≤ a.Tick ∧ a.Tick ≤ 10000) && (decide (0 ≤ a.Many ∧ a.Many ≤ 1000) && (decide (a.Many = 0) || decide (a.Word = wTurn)))) = false then 4
  else if decide (0 < x.Acts.length ∧ (gd x.Acts (x.Acts.length - 1)).Tick > a.Tick) = true then 7
  else if (decide (a.Word = wShow) == shown x.Acts a.Slide x.Acts.length) = true then 5 else if decide (60 ≤ x.Acts.length) = true then 8 else 0
def actR (x : GScript) (a : GAct) : Int × GScript := (actC x a, if actC x a = 0 then GScript.mk x.Slides (x.Acts ++ [a]) else x)
def sldC (l : List (List UInt8)) (s : List UInt8) : Int := if isName s = false then 3 else if s ∈ l then 5 else if 60 ≤ l.length then 8 else 0
def sldR (x : GScript) (s : List UInt8) : Int × GScript := (sldC x.Slides s, if sldC x.Slides s = 0 then GScript.mk (x.Slides ++ [s]) x.Acts else x)
theorem lastTick {x : GScript} (ha : x.Acts.length ≤ 60) (a : GAct) : (if (x.Acts.length : Int) > 0 then
 ((at? x.Acts (w64 ((x.Acts.length : Int) - 1))).bind fun v1 =>
 some (decide (v1.Tick > a.Tick)))
 else
 some false) = some (decide (0 < x.Acts.length ∧ (gd x.Acts (x.Acts.length - 1)).Tick > a.Tick)) := by
  by_cases h : 0 < x.Acts.length
  · rw [if_pos (by omega), w64_id (by omega) (by omega), show (x.Acts.length : Int) - 1 = ((x.Acts.length - 1 : Nat) : Int) by omega, at_gd (by omega), Option.bind_some]
    exact congrArg some (decide_eq_decide.2 ⟨fun h2 => ⟨h, h2⟩, fun h2 => h2.2⟩)
  · rw [if_neg (by omega), decide_eq_false (fun h2 => h h2.1)]
section
variable {x : GScript} (hs : x.Slides.length ≤ 60) (ha : x.Acts.length ≤ 60)
include hs ha
theorem addAct_eq (a : GAct) : impl_Script_addAct x a = some (actR x a) := by
  unfold impl_Script_addAct actR actC
  rw [hasSlide_eq _ (by omega), within_d, within_d, isShown_eq _ (by omega), lastTick ha]
  simp only [beqd, Option.bind_some]
  have ha' : app? x.Acts [a] = some (x.Acts ++ [a]) := app_ok (by simp; omega)
  rw [ha']
  generalize decide (a.Word = [115, 104, 111, 119]) = b1
  generalize decide (a.Word = [104, 105, 100, 101]) = b2
  generalize decide (a.Word = [116, 117, 114, 110]) = b3
  generalize decide (a.Slide ∈ x.Slides) = b4
  generalize decide (0 ≤ a.Tick ∧ a.Tick ≤ 10000) = b5
  generalize decide (0 ≤ a.Many ∧ a.Many ≤ 1000) = b6
  generalize decide (0 < x.Acts.length ∧ (gd x.Acts (x.Acts.length - 1)).Tick > a.Tick) = b8
  generalize shown x.Acts a.Slide x.Acts.length = b9
  by_cases h7 : a.Many = 0 <;> by_cases h10 : x.Acts.length = 60
  · simp only [h7, h10, decide_true, if_true]
    cases b4 <;> cases b1 <;> cases b2 <;> cases b3 <;> cases b5 <;> cases b6 <;> cases b8 <;> cases b9 <;> rfl
  · have g1 : ¬ (x.Acts.length : Int) = 60 := by omega
    have g2 : ¬ (x.Acts.length : Int) ≥ 60 := by omega
    have g3 : ¬ 60 ≤ x.Acts.length := by omega
    simp only [h7, g1, g2, g3, decide_true, decide_false, if_true, if_false]
    cases b4 <;> cases b1 <;> cases b2 <;> cases b3 <;> cases b5 <;> cases b6 <;> cases b8 <;> cases b9 <;> rfl
  · simp only [h7, h10, decide_true, decide_false, if_true, if_false]
    cases b4 <;> cases b1 <;> cases b2 <;> cases b3 <;> cases b5 <;> cases b6 <;> cases b8 <;> cases b9 <;> rfl
  · have g1 : ¬ (x.Acts.length : Int) = 60 := by omega
    have g2 : ¬ (x.Acts.length : Int) ≥ 60 := by omega
    have g3 : ¬ 60 ≤ x.Acts.length := by omega
    simp only [h7, g1, g2, g3, decide_true, decide_false, if_true, if_false]
    cases b4 <;> cases b1 <;> cases b2 <;> cases b3 <;> cases b5 <;> cases b6 <;> cases b8 <;> cases b9 <;> rfl
theorem l18Act_eq (a : GAct) : spec_l18Act x a = some (actR x a) := by
  unfold spec_l18Act actR actC
  rw [l18Has_eq _ (by omega), l00In_d, l00In_d, l18Is_eq _ (by omega), lastTick ha]
  simp only [beqd, Option.bind_some]
  have ha' : app? x.Acts [a] = some (x.Acts ++ [a]) := app_ok (by simp; omega)
  rw [ha']
  generalize decide (a.Word = [115, 104, 111, 119]) = b1
  generalize decide (a.Word = [104, 105, 100, 101]) = b2
  generalize decide (a.Word = [116, 117, 114, 110]) = b3
  generalize decide (a.Slide ∈ x.Slides) = b4
  generalize decide (0 ≤ a.Tick ∧ a.Tick ≤ 10000) = b5
  generalize decide (0 ≤ a.Many ∧ a.Many ≤ 1000) = b6
  generalize decide (0 < x.Acts.length ∧ (gd x.Acts (x.Acts.length - 1)).Tick > a.Tick) = b8
  generalize shown x.Acts a.Slide x.Acts.length = b9
  by_cases h7 : a.Many = 0 <;> by_cases h10 : x.Acts.length = 60
  · simp only [h7, h10, decide_true, if_true]
    cases b4 <;> cases b1 <;> cases b2 <;> cases b3 <;> cases b5 <;> cases b6 <;> cases b8 <;> cases b9 <;> rfl
  · have g1 : ¬ (x.Acts.length : Int) = 60 := by omega
    have g2 : ¬ (x.Acts.length : Int) ≥ 60 := by omega
    have g3 : ¬ 60 ≤ x.Acts.length := by omega
    simp only [h7, g1, g2, g3, decide_true, decide_false, if_true, if_false]
    cases b4 <;> cases b1 <;> cases b2 <;> cases b3 <;> cases b5 <;> cases b6 <;> cases b8 <;> cases b9 <;> rfl
  · simp only [h7, h10, decide_true, decide_false, if_true, if_false]
    cases b4 <;> cases b1 <;> cases b2 <;> cases b3 <;> cases b5 <;> cases b6 <;> cases b8 <;> cases b9 <;> rfl
  · have g1 : ¬ (x.Acts.length : Int) = 60 := by omega
    have g2 : ¬ (x.Acts.length : Int) ≥ 60 := by omega
    have g3 : ¬ 60 ≤ x.Acts.length := by omega
    simp only [h7, g1, g2, g3, decide_true, decide_false, if_true, if_false]
    cases b4 <;> cases b1 <;> cases b2 <;> cases b3 <;> cases b5 <;> cases b6 <;> cases b8 <;> cases b9 <;> rfl
end
end Go.Vs.G

namespace Go.Vs.G
open Go Go.Vs
def smallS (x : GScript) : Prop := x.Slides.length ≤ 1000 ∧ x.Acts.length ≤ 1000 ∧ ∀ s, s ∈ x.Slides → s.length ≤ 1000
theorem addSlide_eq {x : GScript} {s : List UInt8} (hs : x.Slides.length ≤ 60) (hn : s.length ≤ 1000) : impl_Script_addSlide x s = some (sldR x s) := by
  unfold impl_Script_addSlide sldR sldC
  rw [impl_IsName_eq _ (by omega), hasSlide_eq _ (by omega), Option.bind_some, Option.bind_some, app_ok (by simp; omega)]
  cases isName s with
  | false => rfl
  | true =>
    by_cases h : s ∈ x.Slides
    · simp [h]
    · by_cases h2 : x.Slides.length = 60
      · simp [h, h2]
      · have g1 : ¬ (x.Slides.length : Int) = 60 := by omega
        have g3 : ¬ 60 ≤ x.Slides.length := by omega
        simp [h, g1, g3]
theorem l18Slide_eq {x : GScript} {s : List UInt8} (hs : x.Slides.length ≤ 60) (hn : s.length ≤ 1000) : spec_l18Slide x s = some (sldR x s) := by
  unfold spec_l18Slide sldR sldC
  rw [spec_IsName_eq _ (by omega), l18Has_eq _ (by omega), Option.bind_some, Option.bind_some, app_ok (by simp; omega)]
  cases isName s with
  | false => rfl
  | true =>
    by_cases h : s ∈ x.Slides
    · simp [h]
    · by_cases h2 : x.Slides.length = 60
      · simp [h, h2]
      · have g1 : ¬ (x.Slides.length : Int) ≥ 60 := by omega
        have g3 : ¬ 60 ≤ x.Slides.length := by omega
        simp [h, g1, g3]
def VS (x : GScript) : Prop := (∀ i, i < x.Slides.length → sldC (x.Slides.take i) (gd x.Slides i) = 0) ∧ ∀ i, i < x.Acts.length → actC (GScript.mk x.Slides (x.Acts.take i)) (gd x.Acts i) = 0
open Classical in
noncomputable def vsc (x : GScript) : Bool := decide (VS x)
theorem vsc_iff {x : GScript} : vsc x = true ↔ VS x := by unfold vsc; simp only [decide_eq_true_eq]
theorem sldC_lt {l : List (List UInt8)} {s : List UInt8} (h : sldC l s = 0) : l.length < 60 := by
  unfold sldC at h
  split at h
  · cases h
  · split at h
    · cases h
    · split at h
      · cases h
      · omega
theorem actC_lt {x : GScript} {a : GAct} (h : actC x a = 0) : x.Acts.length < 60 := by
  unfold actC at h
  split at h
  · cases h
  · split at h
    · cases h
    · split at h
      · cases h
      · split at h
        · cases h
        · split at h
          · cases h
          · split at h
            · cases h
            · rename_i h1
              simp only [decide_eq_true_eq] at h1; omega
theorem take_snoc {α : Type} [Inhabited α] {l : List α} {k : Nat} (h : k < l.length) : l.take k ++ [gd l k] = l.take (k + 1) := by
  rw [List.take_add_one, List.getElem?_eq_getElem h, gd_of h]; rfl
theorem validLoop {x : GScript} (hx : smallS x) {fS : GScript → List UInt8 → Option (Int × GScript)} {fA : GScript → GAct → Option (Int × GScript)}
    (hS : ∀ (own : GScript) s, own.Slides.length ≤ 60 → s.length ≤ 1000 → fS own s = some (sldR own s)) (hA : ∀ (own : GScript) a, own.Slides.length ≤ 60 → own.Acts.length ≤ 60 → fA own a = some (actR own a)) :
 onL (loop (S := (GScript × Int)) (B := GScript) (R := Bool) (fun ((own1, x2) : GScript × Int) =>
 if x2 < (x.Slides.length : Int) then
 ((at? x.Slides x2).bind fun v1 =>
 (fS own1 v1).bind fun r1 =>
 if r1.1 = 0 then
 (some (.next (r1.2, w64 (x2 + 1))))
 else
 some (.ret false))
 else
 some (.brk own1)) loopLim ((GScript.mk [] []), 0))
 (fun (own2 : GScript) => onL (loop (S := (GScript × Int)) (B := Unit) (R := Bool) (fun ((own3, x3) : GScript × Int) =>
 if x3 < (x.Acts.length : Int) then
 ((at? x.Acts x3).bind fun v2 =>
 (fA own3 v2).bind fun r2 =>
 if r2.1 = 0 then
 (some (.next (r2.2, w64 (x3 + 1))))
 else
 some (.ret false))
 else
 some (.brk ())) loopLim (own2, 0))
 (fun (_ : Unit) => some true) (fun r => some r)) (fun r => some r) = some (vsc x) := by
  obtain ⟨x1, x2, x3⟩ := hx
  have hf : ¬ VS x → vsc x = false := fun h => by
    cases hv : vsc x with
    | false => rfl
    | true => exact absurd (vsc_iff.1 hv) h
  refine eq_of_wp ?_
  refine wp_loop (fun q : GScript × Int => ∃ k : Nat, q.2 = (k : Int) ∧ k ≤ x.Slides.length ∧ k ≤ 60 ∧ q.1 = GScript.mk (x.Slides.take k) [] ∧ ∀ i, i < k → sldC (x.Slides.take i) (gd x.Slides i) = 0) (fun q => (x.Slides.length - q.2).toNat) ⟨0, rfl, by omega, by omega, by simp, by omega⟩ (by simp only; omega) ?_
  rintro ⟨own, i⟩ ⟨k, rfl, k1, k2, rfl, k3⟩
  simp only
  refine wp_ite (fun h => ?_) (fun h => wp_some ?_)
  · have hk : k < x.Slides.length := by omega
    rw [at_gd hk, Option.bind_some, hS _ _ (by simp; omega) (x3 _ (gd_mem hk)), Option.bind_some]
    unfold sldR
    simp only
    by_cases hc : sldC (x.Slides.take k) (gd x.Slides k) = 0
    · have := sldC_lt hc
      simp only [List.length_take] at this
      rw [if_pos hc, if_pos hc, take_snoc hk, w64_id (by omega) (by omega)]
      refine wp_some ⟨⟨k + 1, rfl, by omega, by omega, rfl, fun i hi => ?_⟩, by simp only; omega⟩
      rcases Nat.lt_or_ge i k with h1 | h1
      · exact k3 i h1
      · rw [show i = k by omega]; exact hc
    · rw [if_neg hc]
      exact wp_some (wp_some (hf fun hv => hc (hv.1 k hk)).symm)
  · obtain rfl : k = x.Slides.length := by omega
    rw [List.take_length]
    refine wp_loop (fun q : GScript × Int => ∃ k : Nat, q.2 = (k : Int) ∧ k ≤ x.Acts.length ∧ k ≤ 60 ∧ q.1 = GScript.mk x.Slides (x.Acts.take k) ∧ ∀ i, i < k → actC (GScript.mk x.Slides (x.Acts.take i)) (gd x.Acts i) = 0) (fun q => (x.Acts.length - q.2).toNat) ⟨0, rfl, by omega, by omega, by simp, by omega⟩ (by simp only; omega) ?_
    rintro ⟨own, i⟩ ⟨k, rfl, q1, q2, rfl, q3⟩
    simp only
    refine wp_ite (fun h => ?_) (fun h => wp_some (wp_some ?_))
    · have hk : k < x.Acts.length := by omega
      rw [at_gd hk, Option.bind_some, hA _ _ (by simp only; omega) (by simp; omega), Option.bind_some]
      unfold actR
      simp only
      by_cases hc : actC (GScript.mk x.Slides (x.Acts.take k)) (gd x.Acts k) = 0
      · have := actC_lt hc
        simp only [List.length_take] at this
        rw [if_pos hc, if_pos hc, take_snoc hk, w64_id (by omega) (by omega)]
        refine wp_some ⟨⟨k + 1, rfl, by omega, by omega, rfl, fun i hi => ?_⟩, by simp only; omega⟩
        rcases Nat.lt_or_ge i k with h1 | h1
        · exact q3 i h1
        · rw [show i = k by omega]; exact hc
      · rw [if_neg hc]
        exact wp_some (wp_some (hf fun hv => hc (hv.2 k hk)).symm)
    · obtain rfl : k = x.Acts.length := by omega
      exact (vsc_iff.2 ⟨k3, q3⟩).symm
theorem ValidScript_eq {x : GScript} (hx : smallS x) : impl_ValidScript x = some (vsc x) := by
  unfold impl_ValidScript
  exact validLoop hx (fun own s h1 h2 => addSlide_eq h1 h2) (fun own a h1 h2 => addAct_eq h1 h2 a)
theorem l18Ok_eq {x : GScript} (hx : smallS x) : spec_l18Ok x = some (vsc x) := by
  unfold spec_l18Ok spec_l18Empty
  rw [Option.bind_some]
  exact validLoop hx (fun own s h1 h2 => l18Slide_eq h1 h2) (fun own a h1 h2 => l18Act_eq h1 h2 a)
/- what a valid script is -/
structure VF (x : GScript) : Prop where
  s60 : x.Slides.length ≤ 60
  a60 : x.Acts.length ≤ 60
  t : ∀ i, i < x.Acts.length → 0 ≤ (gd x.Acts i).Tick ∧ (gd x.Acts i).Tick ≤ 10000
  m : ∀ i, 0 < i → i < x.Acts.length → (gd x.Acts (i - 1)).Tick ≤ (gd x.Acts i).Tick
  alt : ∀ i, i < x.Acts.length → decide ((gd x.Acts i).Word = wShow) ≠ shown x.Acts (gd x.Acts i).Slide i
theorem gd_take {α : Type} [Inhabited α] {l : List α} {i k : Nat} (h : i < k) : gd (l.take k) i = gd l i := by
  unfold gd; rw [List.getD_eq_getElem?_getD, List.getD_eq_getElem?_getD, List.getElem?_take, if_pos h]
theorem VS.facts {x : GScript} (h : VS x) : VF x := by
  have hA : ∀ i, i < x.Acts.length → (0 ≤ (gd x.Acts i).Tick ∧ (gd x.Acts i).Tick ≤ 10000) ∧ (0 < i → (gd x.Acts (i - 1)).Tick ≤ (gd x.Acts i).Tick) ∧ decide ((gd x.Acts i).Word = wShow) ≠ shown x.Acts (gd x.Acts i).Slide i := by
    intro i hi
    have hc := h.2 i hi
    have hlen : (x.Acts.take i).length = i := by rw [List.length_take]; omega
    unfold actC at hc
    simp only [hlen] at hc
    split at hc
    · cases hc
    · split at hc
      · cases hc
      · split at hc
        · cases hc
        · rename_i g4
          split at hc
          · cases hc
          · rename_i g7
            split at hc
            · cases hc
            · rename_i g5
              simp only [Bool.and_eq_true, decide_eq_true_eq, Bool.not_eq_false] at g4
              simp only [decide_eq_true_eq] at g7
              refine ⟨g4.1, fun h0 => ?_, fun he => ?_⟩
              · rw [gd_take (show i - 1 < i by omega)] at g7; omega
              · refine g5 (beq_iff_eq.2 (he.trans ?_))
                exact shown_congr fun j hj => by rw [gd_take hj]; exact ⟨rfl, rfl⟩
  refine ⟨?_, ?_, fun i hi => (hA i hi).1, fun i h0 hi => (hA i hi).2.1 h0, fun i hi => (hA i hi).2.2⟩
  · refine Nat.le_of_not_lt fun hlt => ?_
    have := sldC_lt (h.1 60 hlt)
    simp only [List.length_take] at this; omega
  · refine Nat.le_of_not_lt fun hlt => ?_
    have := actC_lt (h.2 60 hlt)
    simp only [List.length_take] at this; omega
/- never shown -/
def isS (s : List UInt8) (a : GAct) : Bool := (a.Slide == s) && (a.Word == wShow)
noncomputable def nevR (x : GScript) : List (List UInt8) × Int := if vsc x = true then (x.Slides.filter fun s => !x.Acts.any (isS s), 0) else ([], 1)
theorem NeverShown_eq {x : GScript} (hx : smallS x) : impl_NeverShown x = some (nevR x) := by
  unfold impl_NeverShown nevR
  rw [ValidScript_eq hx, Option.bind_some]
  cases hv : vsc x with
  | false => rfl
  | true =>
    rw [if_pos rfl, if_pos rfl]
    have hf := (vsc_iff.1 hv).facts
    have h60 := hf.s60
    have h60' := hf.a60
    refine (filtS (c := fun s => !x.Acts.any (isS s)) x.Slides (by omega) (fun out i hi ho => ?_) (fun out => ?_)).trans rfl
    · simp only
      have hcf : slices_ContainsFunc_impl_Act_impl_Act_797 x.Acts (fun a0 => impl_NeverShown_1 a0 (gd x.Slides i)) = some (x.Acts.any (isS (gd x.Slides i))) := by
        unfold slices_ContainsFunc_impl_Act_impl_Act_797 slices_IndexFunc_impl_Act_impl_Act_819
        refine contS (isS (gd x.Slides i)) x.Acts (fun a _ => ?_) (by omega) (fun _ => rfl)
        unfold impl_NeverShown_1 isS
        cases a.Slide == gd x.Slides i <;> rfl
      rw [if_pos (by omega), at_gd hi, Option.bind_some, hcf, Option.bind_some, app_ok (by simp; omega), w64_id (by omega) (by omega)]
      cases x.Acts.any (isS (gd x.Slides i)) <;> rfl
    · simp only; rw [if_neg (by omega)]
theorem any_take_succ {α : Type} [Inhabited α] {l : List α} {c : α → Bool} {k : Nat} (h : k < l.length) : (l.take (k + 1)).any c = ((l.take k).any c || c (gd l k)) := by
  rw [← take_snoc h, List.any_append]; simp
theorem l18Never_eq {x : GScript} (hx : smallS x) : spec_NeverShown x = some (nevR x) := by
  unfold spec_NeverShown nevR
  rw [l18Ok_eq hx, Option.bind_some]
  cases hv : vsc x with
  | false => rfl
  | true =>
    rw [if_pos rfl, if_pos rfl]
    have hf := (vsc_iff.1 hv).facts
    have h60 := hf.s60
    have h60' := hf.a60
    refine (filtS (c := fun s => !x.Acts.any (isS s)) x.Slides (by omega) (fun out i hi ho => ?_) (fun out => ?_)).trans rfl
    · simp only
      rw [if_pos (by omega), at_gd hi, Option.bind_some, app_ok (by simp; omega), w64_id (by omega) (by omega)]
      refine eq_of_wp ?_
      refine wp_cnt (fun k => ((x.Acts.take k).any (isS (gd x.Slides i)), (k : Int))) x.Acts.length (by simp) (by omega) (fun k hk => ?_) (b := x.Acts.any (isS (gd x.Slides i))) ?_ ?_
      · simp only
        rw [if_pos (by omega), at_gd hk, any_take_succ hk, w64_id (by omega) (by omega)]
        simp only [Option.bind_some]
        unfold isS
        cases (x.Acts.take k).any fun a => (a.Slide == gd x.Slides i) && (a.Word == wShow)
        · cases (gd x.Acts k).Word == [115, 104, 111, 119]
          · simp
          · simp
        · rfl
      · simp only [List.take_length]; rw [if_neg (by omega)]
      · cases x.Acts.any (isS (gd x.Slides i)) <;> exact wp_some rfl
    · simp only; rw [if_neg (by omega)]
/- shown at a tick -/
def cntT (a : List GAct) (t : Int) : Nat := (a.takeWhile fun a => decide (a.Tick ≤ t)).length
theorem cntT_eq {t : Int} : ∀ {a : List GAct} {k : Nat}, k ≤ a.length → (∀ i, i < k → (gd a i).Tick ≤ t) → (k < a.length → ¬ (gd a k).Tick ≤ t) → cntT a t = k
  | [], k, h, _, _ => by simp at h; rw [h]; rfl
  | c :: a, 0, _, _, h2 => by
    have := h2 (by simp)
    unfold cntT
    rw [List.takeWhile_cons, if_neg (by simpa [gd] using this)]; rfl
  | c :: a, k + 1, h, h1, h2 => by
    have h0 := h1 0 (by omega)
    have ih := cntT_eq (a := a) (k := k) (by simpa using h) (fun i hi => by simpa [gd] using h1 (i + 1) (by omega)) (fun hk => by simpa [gd] using h2 (by simpa using hk))
    unfold cntT at ih ⊢
    rw [List.takeWhile_cons, if_pos (by simpa [gd] using h0), List.length_cons, ih]
theorem cntT_le (a : List GAct) (t : Int) : cntT a t ≤ a.length := (List.takeWhile_sublist _).length_le
noncomputable def shwR (x : GScript) (t : Int) : List (List UInt8) × Int := if vsc x = true then (if 0 ≤ t ∧ t ≤ 10000 then (x.Slides.filter fun s => shown x.Acts s (cntT x.Acts t), 0) else ([], 2)) else ([], 1)
theorem shown_take {a : List GAct} {s : List UInt8} {k : Nat} (h : k ≤ a.length) : shown (a.take k) s (a.take k).length = shown a s k := by
  rw [List.length_take, Nat.min_eq_left h]
  exact shown_congr fun i hi => by rw [gd_take hi]; exact ⟨rfl, rfl⟩
theorem countActs {γ : Type} {x : GScript} (hl : x.Acts.length ≤ 60) (t : Int) {kb : Int → Option γ} {kr : Empty → Option γ} : onL (loop (S := Int) (B := Int) (R := Empty) (fun (n1 : Int) =>
 ((if n1 < (x.Acts.length : Int) then
 ((at? x.Acts n1).bind fun v1 =>
 some (decide (v1.Tick ≤ t)))
 else
 some false) : Option Bool).bind fun (x2 : Bool) =>
 if x2 then
 (some (.next (w64 (n1 + 1))))
 else
 some (.brk n1)) loopLim 0) kb kr = kb (cntT x.Acts t) := by
  have : loop (S := Int) (B := Int) (R := Empty) (fun (n1 : Int) =>
     ((if n1 < (x.Acts.length : Int) then
     ((at? x.Acts n1).bind fun v1 =>
     some (decide (v1.Tick ≤ t)))
     else
     some false) : Option Bool).bind fun (x2 : Bool) =>
     if x2 then
     (some (.next (w64 (n1 + 1))))
     else
     some (.brk n1)) loopLim 0 = some (.brk ((cntT x.Acts t : Nat) : Int)) := by
    have hw : wp (onL (loop (S := Int) (B := Int) (R := Empty) (fun (n1 : Int) =>
       ((if n1 < (x.Acts.length : Int) then
       ((at? x.Acts n1).bind fun v1 =>
       some (decide (v1.Tick ≤ t)))
       else
       some false) : Option Bool).bind fun (x2 : Bool) =>
       if x2 then
       (some (.next (w64 (n1 + 1))))
       else
       some (.brk n1)) loopLim 0) (fun b => some (Out.brk (R := Empty) b)) Empty.elim) fun r => r = .brk ((cntT x.Acts t : Nat) : Int) := by
      refine wp_loop (fun i : Int => ∃ k : Nat, i = (k : Int) ∧ k ≤ x.Acts.length ∧ ∀ j, j < k → (gd x.Acts j).Tick ≤ t) (fun i => (x.Acts.length - i).toNat) ⟨0, rfl, by omega, by omega⟩ (by omega) ?_
      rintro _ ⟨k, rfl, hk, hall⟩
      by_cases h : k < x.Acts.length
      · rw [if_pos (by omega), at_gd h, Option.bind_some, Option.bind_some]
        by_cases h2 : (gd x.Acts k).Tick ≤ t
        · rw [decide_eq_true h2, if_pos rfl, w64_id (by omega) (by omega)]
          refine wp_some ⟨⟨k + 1, rfl, by omega, fun j hj => ?_⟩, by omega⟩
          rcases Nat.lt_or_ge j k with h3 | h3
          · exact hall j h3
          · rw [show j = k by omega]; exact h2
        · rw [decide_eq_false h2, if_neg (by simp)]
          exact wp_some (wp_some (by rw [cntT_eq hk hall fun _ => h2]))
      · rw [if_neg (by omega), Option.bind_some, if_neg (by simp)]
        exact wp_some (wp_some (by rw [cntT_eq hk hall fun h2 => absurd h2 h]))
    obtain ⟨r, h1, h2⟩ := hw
    revert h1
    cases hlp : loop _ loopLim (0 : Int) with
    | none => intro h1; cases h1
    | some o =>
      cases o with
      | brk b => intro h1; simp only [onL, Option.some.injEq] at h1; rw [h1, h2]
      | ret r => exact r.elim
  rw [this]; rfl
theorem ShownAt_eq {x : GScript} (hx : smallS x) (t : Int) : impl_ShownAt x t = some (shwR x t) := by
  unfold impl_ShownAt shwR
  rw [ValidScript_eq hx, Option.bind_some]
  cases hv : vsc x with
  | false => rfl
  | true =>
    rw [if_pos rfl, if_pos rfl, within_d, Option.bind_some]
    have hf := (vsc_iff.1 hv).facts
    have h60 := hf.s60
    have h60' := hf.a60
    by_cases ht : 0 ≤ t ∧ t ≤ 10000
    · have hcl := cntT_le x.Acts t
      rw [decide_eq_true ht, if_pos rfl, if_pos ht, countActs h60']
      refine (filtS (c := fun s => shown x.Acts s (cntT x.Acts t)) x.Slides (by omega) (fun out i hi ho => ?_) (fun out => ?_)).trans rfl
      · simp only
        rw [if_pos (by omega), at_gd hi, Option.bind_some, sub_ok (by omega) (by omega) (by omega), Option.bind_some, Int.toNat_natCast, Int.toNat_zero, List.drop_zero, isShown_eq _ (by simp; omega), shown_take hcl, Option.bind_some, app_ok (by simp; omega), w64_id (by omega) (by omega)]
        cases shown x.Acts (gd x.Slides i) (cntT x.Acts t) <;> rfl
      · simp only; rw [if_neg (by omega)]
    · rw [decide_eq_false ht, if_neg ht]; rfl
theorem specShownAt_eq {x : GScript} (hx : smallS x) (t : Int) : spec_ShownAt x t = some (shwR x t) := by
  unfold spec_ShownAt shwR
  rw [l18Ok_eq hx, Option.bind_some]
  cases hv : vsc x with
  | false => rfl
  | true =>
    rw [if_pos rfl, if_pos rfl, l00In_d, Option.bind_some]
    have hf := (vsc_iff.1 hv).facts
    have h60 := hf.s60
    have h60' := hf.a60
    by_cases ht : 0 ≤ t ∧ t ≤ 10000
    · have hcl := cntT_le x.Acts t
      rw [decide_eq_true ht, if_pos rfl, if_pos ht, countActs h60']
      refine (filtS (c := fun s => shown x.Acts s (cntT x.Acts t)) x.Slides (by omega) (fun out i hi ho => ?_) (fun out => ?_)).trans rfl
      · simp only
        rw [if_pos (by omega), sub_ok (by omega) (by omega) (by omega), Option.bind_some, at_gd hi, Option.bind_some, Int.toNat_natCast, Int.toNat_zero, List.drop_zero, l18Is_eq _ (by simp; omega), shown_take hcl, Option.bind_some, Option.bind_some, app_ok (by simp; omega), w64_id (by omega) (by omega)]
        cases shown x.Acts (gd x.Slides i) (cntT x.Acts t) <;> rfl
      · simp only; rw [if_neg (by omega)]
    · rw [decide_eq_false ht, if_neg ht]; rfl
end Go.Vs.G

namespace Go.Vs.G
open Go Go.Vs
def shA (d : Int) (a : GAct) : GAct := GAct.mk (a.Tick + d) a.Word a.Slide a.Many
def shX (x : GScript) (d : Int) : GScript := GScript.mk x.Slides (x.Acts.map (shA d))
theorem shX_small {x : GScript} (hx : smallS x) (d : Int) : smallS (shX x d) := ⟨hx.1, by unfold shX; simpa using hx.2.1, hx.2.2⟩
noncomputable def shfR (x : GScript) (d : Int) : GScript × Int := if vsc x = true then (if 0 ≤ d ∧ d ≤ 10000 then (if vsc (shX x d) = true then (shX x d, 0) else (GScript.mk [] [], 5)) else (GScript.mk [] [], 2)) else (GScript.mk [] [], 1)
theorem ShiftScript_eq {x : GScript} (hx : smallS x) (d : Int) : impl_ShiftScript x d = some (shfR x d) := by
  unfold impl_ShiftScript shfR
  rw [ValidScript_eq hx, Option.bind_some]
  cases hv : vsc x with
  | false => rfl
  | true =>
    rw [if_pos rfl, if_pos rfl, within_d, Option.bind_some]
    have hf := (vsc_iff.1 hv).facts
    have h60 := hf.s60
    have h60' := hf.a60
    by_cases ht : 0 ≤ d ∧ d ≤ 10000
    · rw [decide_eq_true ht, if_pos rfl, if_pos ht]
      unfold cloneL
      rw [if_pos (by omega), Option.bind_some, if_pos (by omega), Option.bind_some]
      refine eq_of_wp ?_
      refine wp_cnt (fun k => (tab (fun j => if j < k then shA d (gd x.Acts j) else gd x.Acts j) x.Acts.length, (k : Int))) x.Acts.length (by simp only [Nat.not_lt_zero, if_false]; rw [tab_gd]; rfl) (by omega) (fun k hk => ?_) (b := x.Acts.map (shA d)) ?_ ?_
      · have hb := hf.t k hk
        simp only
        rw [if_pos (by omega), tab_at (by omega) (by omega), Option.bind_some, Option.bind_some, Int.toNat_natCast, tab_set, if_neg (by omega), w64_id (n := (k : Int) + 1) (by omega) (by omega), w64_id (by omega) (by omega)]
        refine congrArg some (congrArg Step.next (Prod.ext (tab_congr fun j hj => ?_) rfl))
        by_cases h1 : j = k
        · rw [if_pos h1, if_pos (by omega), h1]; rfl
        · by_cases h2 : j < k
          · rw [if_neg h1, if_pos h2, if_pos (by omega)]
          · rw [if_neg h1, if_neg h2, if_neg (by omega)]
      · simp only
        rw [if_neg (by omega)]
        refine congrArg some (congrArg Step.brk (ext_gd (by simp) fun i hi => ?_))
        rw [tab_length] at hi
        rw [gd_tab hi, if_pos hi, gd_map hi]
      · have := ValidScript_eq (shX_small hx d)
        unfold shX at this
        rw [this, Option.bind_some]
        show wp (if vsc (shX x d) = true then some (shX x d, (0 : Int)) else some (GScript.mk [] [], 5)) _
        cases vsc (shX x d) <;> exact wp_some rfl
    · rw [decide_eq_false ht, if_neg ht]; rfl
theorem specShift_eq {x : GScript} (hx : smallS x) (d : Int) : spec_ShiftScript x d = some (shfR x d) := by
  unfold spec_ShiftScript shfR
  rw [l18Ok_eq hx, Option.bind_some]
  cases hv : vsc x with
  | false => rfl
  | true =>
    rw [if_pos rfl, if_pos rfl, l00In_d, Option.bind_some]
    have hf := (vsc_iff.1 hv).facts
    have h60 := hf.s60
    have h60' := hf.a60
    by_cases ht : 0 ≤ d ∧ d ≤ 10000
    · rw [decide_eq_true ht, if_pos rfl, if_pos ht, app_ok (by simp; omega), Option.bind_some, List.nil_append]
      refine (mapS (R := Empty) (f := fun a => some (GAct.mk (w64 (a.Tick + d)) a.Word a.Slide a.Many)) (shA d) x.Acts (fun a ha => ?_) (by omega) (fun out i => ?_)).trans ?_
      · obtain ⟨i, hi, rfl⟩ := mem_gd ha
        have := hf.t i hi
        rw [w64_id (by omega) (by omega)]; rfl
      · rfl
      · have := l18Ok_eq (shX_small hx d)
        unfold shX at this
        rw [this, Option.bind_some]
        show (if vsc (shX x d) = true then some (shX x d, (0 : Int)) else some (GScript.mk [] [], 5)) = _
        cases vsc (shX x d) <;> rfl
    · rw [decide_eq_false ht, if_neg ht]; rfl
/- ticks shown -/
def sinT (a : List GAct) (s : List UInt8) : Nat → Int
  | 0 => 0
  | k + 1 => if (gd a k).Slide = s ∧ (gd a k).Word = wShow then (gd a k).Tick else sinT a s k
def sumT (a : List GAct) (s : List UInt8) : Nat → Int
  | 0 => 0
  | k + 1 => if (gd a k).Slide = s ∧ (gd a k).Word = wHide then sumT a s k + ((gd a k).Tick - sinT a s k) else sumT a s k
theorem sin_bd {x : GScript} (h : VF x) (s : List UInt8) : ∀ {k : Nat}, k ≤ x.Acts.length → 0 ≤ sinT x.Acts s k ∧ ∀ i, k ≤ i → i < x.Acts.length → sinT x.Acts s k ≤ (gd x.Acts i).Tick
  | 0, _ => ⟨by simp [sinT], fun i _ hi => by have := (h.t i hi).1; simpa [sinT] using this⟩
  | k + 1, hk => by
    have hb := h.t k (by omega)
    have mono : ∀ i, k ≤ i → i < x.Acts.length → (gd x.Acts k).Tick ≤ (gd x.Acts i).Tick := by
      intro i
      induction i with
      | zero => intro h1 _; rw [show k = 0 by omega]; omega
      | succ i ih =>
        intro h1 h2
        rcases Nat.lt_or_ge k (i + 1) with h3 | h3
        · have h4 := ih (by omega) (by omega)
          have h5 := h.m (i + 1) (by omega) h2
          simp only [Nat.add_sub_cancel] at h5; omega
        · rw [show k = i + 1 by omega]; omega
    have ih := sin_bd h s (k := k) (by omega)
    rw [sinT]
    split
    · exact ⟨hb.1, fun i h1 h2 => mono i (by omega) h2⟩
    · exact ⟨ih.1, fun i h1 h2 => ih.2 i (by omega) h2⟩
theorem sum_bd {x : GScript} (h : VF x) (s : List UInt8) : ∀ {k : Nat}, k ≤ x.Acts.length → 0 ≤ sumT x.Acts s k ∧ sumT x.Acts s k ≤ 10000 * k
  | 0, _ => by simp [sumT]
  | k + 1, hk => by
    have hb := h.t k (by omega)
    have ih := sum_bd h s (k := k) (by omega)
    have h1 := sin_bd h s (k := k) (by omega)
    have h2 := h1.2 k (by omega) (by omega)
    rw [sumT]
    split <;> omega
noncomputable def tksR (x : GScript) (s : List UInt8) : Int × Int := if vsc x = true then (if s ∈ x.Slides then (if shown x.Acts s x.Acts.length = true then (0, 6) else (sumT x.Acts s x.Acts.length, 0)) else (0, 3)) else (0, 1)
theorem TicksShown_eq {x : GScript} (hx : smallS x) (s : List UInt8) : impl_TicksShown x s = some (tksR x s) := by
  unfold impl_TicksShown tksR
  rw [ValidScript_eq hx, Option.bind_some]
  cases hv : vsc x with
  | false => rfl
  | true =>
    have hf := (vsc_iff.1 hv).facts
    have h60 := hf.s60
    have h60' := hf.a60
    rw [if_pos rfl, if_pos rfl, hasSlide_eq _ (by omega), Option.bind_some, isShown_eq _ (by omega), Option.bind_some]
    by_cases hm : s ∈ x.Slides
    · rw [decide_eq_true hm, if_pos rfl, if_pos hm]
      cases hsh : shown x.Acts s x.Acts.length with
      | true => rfl
      | false =>
        rw [if_neg (by simp), if_neg (by simp)]
        refine eq_of_wp ?_
        refine wp_cnt (fun k => (sumT x.Acts s k, sinT x.Acts s k, (k : Int))) x.Acts.length rfl (by omega) (fun k hk => ?_) (b := sumT x.Acts s x.Acts.length) ?_ (wp_some rfl)
        · have hb := hf.t k hk
          have h1 := sin_bd hf s (k := k) (by omega)
          have h2 := h1.2 k (by omega) hk
          have h3 := sum_bd hf s (k := k) (by omega)
          simp only
          rw [if_pos (by omega), at_gd hk, Option.bind_some, w64_id (n := (k : Int) + 1) (by omega) (by omega), w64_id (n := (gd x.Acts k).Tick - sinT x.Acts s k) (by omega) (by omega), w64_id (by omega) (by omega), sumT, sinT]
          simp only [beqd, decide_eq_true_eq]
          by_cases c1 : (gd x.Acts k).Slide = s
          · by_cases c2 : (gd x.Acts k).Word = wShow
            · have c3 : ¬ (gd x.Acts k).Word = wHide := by rw [c2]; decide
              rw [if_pos c1, if_pos c2, if_neg (fun h => c3 h.2), if_pos ⟨c1, c2⟩]; rfl
            · by_cases c3 : (gd x.Acts k).Word = wHide
              · rw [if_pos c1, if_neg c2, if_pos c3, if_pos ⟨c1, c3⟩, if_neg (fun h => c2 h.2)]; rfl
              · rw [if_pos c1, if_neg c2, if_neg c3, if_neg (fun h => c3 h.2), if_neg (fun h => c2 h.2)]; rfl
          · rw [if_neg c1, if_neg (fun h => c1 h.1), if_neg (fun h => c1 h.1)]; rfl
        · simp only; rw [if_neg (by omega)]
    · rw [decide_eq_false hm, if_neg hm]; rfl
theorem specTicks_eq {x : GScript} (hx : smallS x) (s : List UInt8) : spec_TicksShown x s = some (tksR x s) := by
  unfold spec_TicksShown tksR
  rw [l18Ok_eq hx, Option.bind_some]
  cases hv : vsc x with
  | false => rfl
  | true =>
    have hf := (vsc_iff.1 hv).facts
    have h60 := hf.s60
    have h60' := hf.a60
    rw [if_pos rfl, if_pos rfl, l18Has_eq _ (by omega), Option.bind_some]
    by_cases hm : s ∈ x.Slides
    · rw [decide_eq_true hm, if_pos rfl, if_pos hm]
      refine eq_of_wp ?_
      refine wp_cnt (fun k => (sumT x.Acts s k, (if shown x.Acts s k = true then sinT x.Acts s k else -1), (k : Int))) x.Acts.length rfl (by omega) (fun k hk => ?_) (b := (sumT x.Acts s x.Acts.length, if shown x.Acts s x.Acts.length = true then sinT x.Acts s x.Acts.length else -1)) ?_ ?_
      · have hb := hf.t k hk
        have h1 := sin_bd hf s (k := k) (by omega)
        have h2 := h1.2 k (by omega) hk
        have h3 := sum_bd hf s (k := k) (by omega)
        have ha := hf.alt k hk
        simp only
        rw [if_pos (by omega), at_gd hk, Option.bind_some, w64_id (n := (k : Int) + 1) (by omega) (by omega), sumT, sinT, shown]
        simp only [beqd, decide_eq_true_eq]
        by_cases c1 : (gd x.Acts k).Slide = s
        · rw [c1] at ha
          by_cases c2 : (gd x.Acts k).Word = wShow
          · have c3 : ¬ (gd x.Acts k).Word = wHide := by rw [c2]; decide
            have c4 : (gd x.Acts k).Word ≠ wTurn := by rw [c2]; decide
            rw [if_pos c1, if_pos c2, Option.bind_some, if_neg c3, if_neg (show ¬ ((gd x.Acts k).Slide = s ∧ (gd x.Acts k).Word = wHide) from fun h => c3 h.2), if_pos (show (gd x.Acts k).Slide = s ∧ (gd x.Acts k).Word = wShow from ⟨c1, c2⟩), if_pos (show (gd x.Acts k).Slide = s ∧ (gd x.Acts k).Word ≠ wTurn from ⟨c1, c4⟩), if_pos (decide_eq_true c2)]; rfl
          · have hon : shown x.Acts s k = true := by
              cases hs : shown x.Acts s k with
              | true => rfl
              | false => rw [hs] at ha; exact absurd (decide_eq_false c2) ha
            rw [hon, if_pos rfl]
            by_cases c3 : (gd x.Acts k).Word = wHide
            · have c4 : (gd x.Acts k).Word ≠ wTurn := by rw [c3]; decide
              have c5 : ¬ decide ((gd x.Acts k).Word = wShow) = true := by simpa using c2
              rw [if_pos c1, if_neg c2, Option.bind_some, if_pos c3, if_pos (show (gd x.Acts k).Slide = s ∧ (gd x.Acts k).Word = wHide from ⟨c1, c3⟩), if_pos (show (gd x.Acts k).Slide = s ∧ (gd x.Acts k).Word ≠ wTurn from ⟨c1, c4⟩), if_neg c5, w64_id (n := (gd x.Acts k).Tick - sinT x.Acts s k) (by omega) (by omega), w64_id (by omega) (by omega)]; rfl
            · have c5 : ¬ decide ((gd x.Acts k).Word = wShow) = true := by simpa using c2
              rw [if_pos c1, if_neg c2, Option.bind_some, if_neg c3, if_neg (show ¬ ((gd x.Acts k).Slide = s ∧ (gd x.Acts k).Word = wHide) from fun h => c3 h.2), if_neg (show ¬ ((gd x.Acts k).Slide = s ∧ (gd x.Acts k).Word = wShow) from fun h => c2 h.2)]
              by_cases c4 : (gd x.Acts k).Word = wTurn
              · rw [if_neg (show ¬ ((gd x.Acts k).Slide = s ∧ (gd x.Acts k).Word ≠ wTurn) from fun h => h.2 c4), if_pos rfl]; rfl
              · exfalso
                have := (vsc_iff.1 hv).2 k hk
                unfold actC at this
                simp only [c2, c3, c4, decide_false, Bool.or_self, if_true] at this
                cases this
        · rw [if_neg c1, if_neg (show ¬ ((gd x.Acts k).Slide = s ∧ (gd x.Acts k).Word = wHide) from fun h => c1 h.1), if_neg (show ¬ ((gd x.Acts k).Slide = s ∧ (gd x.Acts k).Word = wShow) from fun h => c1 h.1), if_neg (show ¬ ((gd x.Acts k).Slide = s ∧ (gd x.Acts k).Word ≠ wTurn) from fun h => c1 h.1)]; rfl
      · simp only; rw [if_neg (by omega)]
      · simp only
        have h1 := sin_bd hf s (k := x.Acts.length) (by omega)
        cases shown x.Acts s x.Acts.length with
        | true => rw [if_pos rfl, if_pos h1.1]; exact wp_some rfl
        | false => simp only [Bool.false_eq_true, if_false]; rw [if_neg (by omega)]; exact wp_some rfl
    · rw [decide_eq_false hm, if_neg hm]; rfl
end Go.Vs.G

namespace Go.Vs.G
open Go Go.Vs
theorem wp_textA {α : Type} {B : Int} {s : GL00Src} {l : List (List UInt8)} {k : List UInt8 × GL00Src → Option α} {Q : α → Prop} (h : SrcOk B s) (hB : B ≤ 4611686018427387000) (hl : 1 ≤ l.length) (hl2 : l.length ≤ 1000) (hk : ∀ v s', v ∈ l → SrcOk (B + 2) s' → wp (k (v, s')) Q) : wp ((spec_l00Src_text s l).bind k) Q := by
  unfold spec_l00Src_text
  rw [Option.bind_assoc]
  refine wp_pick h hB fun v s' v0 v1 h2 => ?_
  have hv : v.toNat < l.length := by omega
  rw [at_ok v0 hv, Option.bind_some, Option.bind_some]
  exact hk _ _ (List.getElem_mem hv) h2
theorem l18Draw_ok {B : Int} {s : GL00Src} (h : SrcOk B s) (hB : B ≤ 4611686018427300000) : wp (spec_l18Draw s) fun r => r.1.Slides.length ≤ 5 ∧ r.1.Acts.length ≤ 11 ∧ (∀ s, s ∈ r.1.Slides → s.length ≤ 100) ∧ SrcOk (B + 1000) r.2 := by
  unfold spec_l18Draw spec_l18Empty
  rw [Option.bind_some]
  refine wp_pick h (by omega) fun n s1 n0 n1 h1 => ?_
  simp only
  refine wp_loop (fun q : List (List UInt8) × Int => 0 ≤ q.2 ∧ q.1.length + q.2.toNat = n.toNat ∧ ∀ s, s ∈ q.1 → s.length ≤ 100) (fun q => q.2.toNat) ⟨n0, by simp, by simp⟩ (by simp only; omega) ?_
  rintro ⟨sl, k⟩ ⟨g1, g2, g3⟩
  simp only at g1 g2 g3 ⊢
  refine wp_ite (fun hk => ?_) (fun hk => wp_some ?_)
  · have hlt : sl.length < 5 := by omega
    rw [at_gd (l := [[99, 97, 115, 116, 108, 101], [109, 111, 111, 110], [114, 97, 116, 45, 50], [115, 104, 105, 112], [115, 116, 111, 114, 109]]) (by simpa using hlt), Option.bind_some, w64_id (by omega) (by omega)]
    refine wp_app (by simp; omega) (wp_some ⟨⟨by simp only; omega, by simp only [List.length_append, List.length_singleton]; omega, fun s hs => ?_⟩, by simp only; omega⟩)
    rcases List.mem_append.1 hs with hs | hs
    · exact g3 s hs
    · have hm := gd_mem (l := ([[99, 97, 115, 116, 108, 101], [109, 111, 111, 110], [114, 97, 116, 45, 50], [115, 104, 105, 112], [115, 116, 111, 114, 109]] : List (List UInt8))) (i := sl.length) (by simpa using hlt)
      rw [List.mem_singleton.1 hs]
      revert hm
      generalize gd ([[99, 97, 115, 116, 108, 101], [109, 111, 111, 110], [114, 97, 116, 45, 50], [115, 104, 105, 112], [115, 116, 111, 114, 109]] : List (List UInt8)) sl.length = v
      intro hm
      have hall : ∀ v : List UInt8, v ∈ ([[99, 97, 115, 116, 108, 101], [109, 111, 111, 110], [114, 97, 116, 45, 50], [115, 104, 105, 112], [115, 116, 111, 114, 109]] : List (List UInt8)) → v.length ≤ 100 := by decide
      exact hall v hm
  · refine wp_pick h1 (by omega) fun m s2 m0 m1 h2 => ?_
    refine wp_loop (fun q : GL00Src × GScript × Int × Int => SrcOk (B + 4 + 10 * (m - q.2.2.2)) q.1 ∧ q.2.1.Slides = sl ∧ 0 ≤ q.2.2.2 ∧ q.2.2.2 ≤ m ∧ (q.2.1.Acts.length : Int) ≤ m - q.2.2.2) (fun q => q.2.2.2.toNat) ⟨h2.mono (by simp only; omega), rfl, m0, by simp only; omega, by simp⟩ (by simp only; omega) ?_
    rintro ⟨s3, x, tick, k2⟩ ⟨q1, q2, q3, q4, q5⟩
    simp only at q1 q2 q3 q4 q5 ⊢
    refine wp_seq (P := fun b => b = true → 0 < k2 ∧ 0 < sl.length) (wp_ite (fun hp => wp_some fun hb => ⟨hp, by have := of_decide_eq_true hb; rw [q2] at this; omega⟩) (fun _ => wp_some (by simp))) fun b hb => ?_
    refine wp_bif (fun hbb => ?_) (fun _ => wp_some (wp_some ⟨by simp only; rw [q2]; omega, by simp only; omega, by simp only; rw [q2]; exact g3, q1.mono (by omega)⟩))
    obtain ⟨p1, p2⟩ := hb hbb
    refine wp_textA q1 (by omega) (by simp) (by simp) fun w s4 hw h4 => wp_pick h4 (by omega) fun u s5 u0 u1 h5 => ?_
    simp only
    rw [q2] at u1 ⊢
    rw [show u = ((u.toNat : Nat) : Int) by omega, at_gd (l := sl) (by omega), Option.bind_some]
    refine wp_seq (P := fun q => SrcOk (B + 4 + 10 * (m - k2) + 6) q.1) (wp_ite (fun _ => wp_pick h5 (by omega) fun v s6 _ _ h6 => wp_some (h6.mono (by omega))) (fun _ => wp_some (h5.mono (by omega)))) ?_
    rintro ⟨s6, a1⟩ h6
    simp only at h6 ⊢
    have hsl : sl.length ≤ 5 := by omega
    rw [l18Act_eq (by rw [q2]; omega) (by omega), Option.bind_some]
    refine wp_pick h6 (by omega) fun v s7 _ _ h7 => ?_
    simp only
    rw [w64_id (n := k2 - 1) (by omega) (by omega)]
    refine wp_some ⟨⟨h7.mono (by simp only; omega), ?_, by simp only; omega, by simp only; omega, ?_⟩, by simp only; omega⟩
    · unfold actR; simp only; split
      · exact q2
      · exact q2
    · unfold actR; simp only; split
      · simp only [List.length_append, List.length_singleton]; omega
      · omega
theorem l18Bent_ok {B : Int} {s : GL00Src} (h : SrcOk B s) (hB : B ≤ 4611686018427200000) : wp (spec_l18Bent s) fun r => smallS r.1 ∧ SrcOk (B + 2000) r.2 := by
  unfold spec_l18Bent
  refine wp_seq (l18Draw_ok h (by omega)) fun r hr => ?_
  obtain ⟨r1, r2, r3, hs⟩ := hr
  refine wp_pick hs (by omega) fun n s1 n0 n1 h1 => ?_
  simp only
  have hsm : smallS r.1 := ⟨by omega, by omega, fun s hs => Nat.le_trans (r3 s hs) (by omega)⟩
  refine wp_ite (fun _ => wp_textA h1 (by omega) (by simp) (by simp) fun v s2 hv h2 => wp_app (by simp; omega) (wp_some ⟨⟨by simp; omega, by simp only; omega, fun s hs => ?_⟩, h2.mono (by omega)⟩)) (fun _ => ?_)
  · rcases List.mem_append.1 hs with hs | hs
    · exact Nat.le_trans (r3 s hs) (by omega)
    · rw [List.mem_singleton.1 hs]
      have hall : ∀ v : List UInt8, v ∈ ([[], [109, 111, 111, 110], [83, 117, 110], [115, 117, 110]] : List (List UInt8)) → v.length ≤ 1000 := by decide
      exact hall v hv
  refine wp_ite (fun _ => wp_among h1 (by omega) (by simp) (by simp) fun v s2 hv h2 => wp_textA h2 (by omega) (by simp) (by simp) fun w s3 hw h3 => wp_textA h3 (by omega) (by simp) (by simp) fun z s4 hz h4 => wp_app (by simp; omega) (wp_some ⟨⟨hsm.1, by simp; omega, hsm.2.2⟩, h4.mono (by omega)⟩)) (fun _ => ?_)
  refine wp_ite (fun _ => wp_among h1 (by omega) (by simp) (by simp) fun v s2 hv h2 => wp_app (by simp; omega) (wp_some ⟨⟨hsm.1, by simp; omega, hsm.2.2⟩, h2.mono (by omega)⟩)) (fun _ => ?_)
  refine wp_ite (fun _ => wp_pick h1 (by omega) fun v s2 v0 v1 h2 => ?_) (fun _ => wp_some ⟨hsm, h1.mono (by omega)⟩)
  simp only
  rw [w64_id (n := 60 + v) (by omega) (by omega)]
  refine wp_loop (fun q : List GAct => (q.length : Int) ≤ 60 + v) (fun q => (60 + v - q.length).toNat) (by simp; omega) (by simp; omega) ?_
  intro q hq
  refine wp_ite (fun hlt => ?_) (fun _ => wp_some (wp_some ⟨⟨by simp, by simp only; omega, by simp⟩, h2.mono (by omega)⟩))
  refine wp_seq (P := fun _ => True) (wp_ite (fun _ => wp_some trivial) (fun _ => wp_some trivial)) fun w _ => ?_
  exact wp_app (by simp; omega) (wp_some ⟨by simp; omega, by simp; omega⟩)
section
variable {code : List Int} (hc : okL (okI .u8) code) (hl : code.length ≤ 1000000)
include hc hl
theorem DrawShownAt_ok : wp (spec_DrawShownAt code) fun r => smallS r.1 := by
  unfold spec_DrawShownAt
  exact wp_from hc hl fun s hs => wp_seq (l18Bent_ok hs (by omega)) fun r hr => wp_one hr.2 (by omega) fun b s1 h1 => wp_ite (fun _ => wp_among h1 (by omega) (by simp) (by simp) fun v s2 hv h2 => wp_some hr.1) (fun _ => wp_pick h1 (by omega) fun v s2 _ _ h2 => wp_some hr.1)
theorem DrawShiftScript_ok : wp (spec_DrawShiftScript code) fun r => smallS r.1 := by
  unfold spec_DrawShiftScript
  exact wp_from hc hl fun s hs => wp_seq (l18Bent_ok hs (by omega)) fun r hr => wp_one hr.2 (by omega) fun b s1 h1 => wp_ite (fun _ => wp_among h1 (by omega) (by simp) (by simp) fun v s2 hv h2 => wp_some hr.1) (fun _ => wp_pick h1 (by omega) fun v s2 _ _ h2 => wp_some hr.1)
theorem DrawTicksShown_ok : wp (spec_DrawTicksShown code) fun r => smallS r.1 := by
  unfold spec_DrawTicksShown
  refine wp_from hc hl fun s hs => wp_seq (l18Bent_ok hs (by omega)) fun r hr => ?_
  have hlen := hr.1.1
  refine wp_seq (P := fun q => SrcOk 3000 q.1 ∧ (q.2 = true → 0 < r.1.Slides.length)) (wp_ite (fun hp => wp_one hr.2 (by omega) fun b s1 h1 => wp_some ⟨h1.mono (by omega), fun _ => by omega⟩) (fun _ => wp_some ⟨hr.2.mono (by omega), by simp⟩)) ?_
  rintro ⟨s1, x⟩ ⟨h1, hx⟩
  simp only at h1 hx ⊢
  refine wp_bif (fun hxx => wp_pick h1 (by omega) fun u s2 u0 u1 h2 => ?_) (fun _ => wp_textA h1 (by omega) (by simp) (by simp) fun v s2 hv h2 => wp_some hr.1)
  have := hx hxx
  simp only
  rw [show u = ((u.toNat : Nat) : Int) by omega, at_gd (by omega), Option.bind_some]
  exact wp_some hr.1
end
theorem f6texts_eq {a b : List (List UInt8)} (ha : a.length ≤ 1000000) : laws_f6texts a b = some (decide (a = b)) := by
  rw [← eqSp a b (by omega)]
  unfold laws_f6texts
  simp only [beqd, decide_eq_true_eq]
theorem f6word_eq {l : List (List UInt8)} (s : List UInt8) (hl : l.length ≤ 1000000) : laws_f6word l s = some (decide (s ∈ l)) := l18Has_eq s hl
theorem SameScript_self {a : GScript} (h1 : a.Slides.length ≤ 1000) (h2 : a.Acts.length ≤ 1000) : spec_SameScript a a = some true := by
  unfold spec_SameScript
  rw [if_pos rfl, decide_eq_true rfl]
  simp only [Bool.not_true, Option.bind_some, Bool.false_eq_true, if_false]
  refine eq_of_wp ?_
  refine wp_cnt (fun k => (k : Int)) a.Slides.length rfl (by omega) (fun k hk => ?_) (b := ()) ?_ ?_
  · rw [if_pos (by omega), at_gd hk, Option.bind_some, Option.bind_some, if_pos (beq_self_eq_true _), w64_id (by omega) (by omega)]; rfl
  · rw [if_neg (by omega)]
  · refine wp_cnt (fun k => (k : Int)) a.Acts.length rfl (by omega) (fun k hk => ?_) (b := ()) ?_ (wp_some rfl)
    · rw [if_pos (by omega), at_gd hk, Option.bind_some, Option.bind_some, if_pos (by simp), w64_id (by omega) (by omega)]; rfl
    · rw [if_neg (by omega)]
theorem shfR_len {x : GScript} (hx : smallS x) (d : Int) : (shfR x d).1.Slides.length ≤ 1000 ∧ (shfR x d).1.Acts.length ≤ 1000 := by
  have h1 := hx.1
  have h2 := hx.2.1
  unfold shfR
  split
  · split
    · split
      · unfold shX; simp only [List.length_map]; omega
      · simp
    · simp
  · simp
theorem shwR_len {x : GScript} (hx : smallS x) (t : Int) : (shwR x t).1.length ≤ 1000 := by
  have h1 := hx.1
  unfold shwR
  split
  · split
    · exact Nat.le_trans (List.length_filter_le _ _) h1
    · simp
  · simp
theorem nevR_len {x : GScript} (hx : smallS x) : (nevR x).1.length ≤ 1000 := by
  have h1 := hx.1
  unfold nevR
  split
  · exact Nat.le_trans (List.length_filter_le _ _) h1
  · simp
theorem shown_not_never {x : GScript} {t : Int} {s : List UInt8} (h : s ∈ (shwR x t).1) : s ∉ (nevR x).1 := by
  unfold shwR at h
  split at h
  · rename_i hv
    split at h
    · have h2 := (List.mem_filter.1 h).2
      obtain ⟨i, hi, h3, h4⟩ := shown_has h2
      unfold nevR
      rw [if_pos hv]
      intro hn
      have hn2 := (List.mem_filter.1 hn).2
      simp only [Bool.not_eq_true', List.any_eq_false] at hn2
      have hlt : i < x.Acts.length := Nat.lt_of_lt_of_le hi (cntT_le _ _)
      refine hn2 _ (gd_mem hlt) ?_
      unfold isS
      rw [beqd, beqd, decide_eq_true h3, decide_eq_true h4]; rfl
    · simp at h
  · simp at h
theorem cntT_shift {a : List GAct} {t d : Int} : cntT (a.map (shA d)) (t + d) = cntT a t := by
  unfold cntT
  rw [List.takeWhile_map, List.length_map]
  congr 2
  funext c
  simp only [Function.comp, shA]
  exact decide_eq_decide.2 (by omega)
theorem shwR_shift {x : GScript} {t d : Int} (h1 : vsc x = true) (h2 : vsc (shX x d) = true) (h3 : 0 ≤ t ∧ t ≤ 10000) (h4 : 0 ≤ t + d ∧ t + d ≤ 10000) : shwR (shX x d) (t + d) = shwR x t ∧ (shwR x t).2 = 0 := by
  unfold shwR
  rw [if_pos h1, if_pos h2, if_pos h3, if_pos h4]
  refine ⟨Prod.ext ?_ rfl, rfl⟩
  simp only [shX, cntT_shift]
  refine congrArg (fun p => List.filter p x.Slides) (funext fun s => shown_congr fun i hi => ?_)
  have hlt : i < x.Acts.length := Nat.lt_of_lt_of_le hi (cntT_le _ _)
  rw [gd_map hlt]; exact ⟨rfl, rfl⟩
theorem laws_FnActs_true {code : List Int} (hc : okL (okI .u8) code) : laws_FnActs code = some true := by
  unfold laws_FnActs laws_f6big
  rw [Option.bind_some]
  by_cases hbig : (code.length : Int) > 4096
  · rw [decide_eq_true hbig]; rfl
  rw [decide_eq_false hbig, if_neg (by simp)]
  have hl : code.length ≤ 1000000 := by omega
  obtain ⟨r2, e2, s2⟩ := DrawShownAt_ok hc hl
  obtain ⟨r7, e7, s7⟩ := DrawShiftScript_ok hc hl
  obtain ⟨r10, e10, s10⟩ := DrawTicksShown_ok hc hl
  have l1 := shwR_len s2 r2.2
  have l2 := nevR_len s2
  have l3 := shfR_len s7 r7.2
  rw [e2, Option.bind_some, ShownAt_eq s2, Option.bind_some, specShownAt_eq s2, Option.bind_some, NeverShown_eq s2, Option.bind_some, l18Never_eq s2, Option.bind_some, e7, Option.bind_some, ShiftScript_eq s7, Option.bind_some, specShift_eq s7, Option.bind_some, e10, Option.bind_some, TicksShown_eq s10, Option.bind_some, specTicks_eq s10, Option.bind_some]
  simp only [if_true, f6texts_eq (show (shwR r2.1 r2.2).1.length ≤ 1000000 by omega), f6texts_eq (show (nevR r2.1).1.length ≤ 1000000 by omega), SameScript_self l3.1 l3.2, Option.bind_some, decide_true, Bool.not_true, Bool.false_eq_true, if_false]
  have h1 : (if (shwR r2.1 r2.2).2 = 0 then
       (onL (loop (S := Int) (B := Unit) (R := Bool) (fun (i1 : Int) =>
       if i1 < ((shwR r2.1 r2.2).1.length : Int) then
       ((at? (shwR r2.1 r2.2).1 i1).bind fun v1 =>
       (laws_f6word (nevR r2.1).1 v1).bind fun r16 =>
       if r16 = true then
       (some (.ret false))
       else
       some (.next (w64 (i1 + 1))))
       else
       some (.brk ())) loopLim 0)
       (fun (_ : Unit) => some (Step.next (B := Empty) (R := Bool) ())) (fun r => some (.ret r)))
       else
       some (.next ())) = some (.next ()) := by
    by_cases h0 : (shwR r2.1 r2.2).2 = 0
    · rw [if_pos h0]
      refine eq_of_wp ?_
      refine wp_cnt (fun k => (k : Int)) (shwR r2.1 r2.2).1.length rfl (by omega) (fun k hk => ?_) (b := ()) ?_ (wp_some rfl)
      · rw [if_pos (by omega), at_gd hk, Option.bind_some, f6word_eq _ (by omega), Option.bind_some, decide_eq_false (shown_not_never (gd_mem hk)), if_neg (by simp), w64_id (by omega) (by omega)]; rfl
      · rw [if_neg (by omega)]
    · rw [if_neg h0]
  rw [h1, onS_next]
  have h2 : (if (tksR r10.1 r10.2).2 = 0 then (some (decide ((tksR r10.1 r10.2).1 < 0))) else some false : Option Bool) = some false := by
    by_cases h0 : (tksR r10.1 r10.2).2 = 0
    · rw [if_pos h0]
      refine congrArg some (decide_eq_false ?_)
      unfold tksR
      split
      · rename_i hv
        split
        · split
          · simp
          · have := sum_bd (vsc_iff.1 hv).facts r10.2 (k := r10.1.Acts.length) (by omega)
            simp only; omega
        · simp
      · simp
    · rw [if_neg h0]
  rw [h2, Option.bind_some, if_neg (by simp)]
  refine eq_of_wp (wp_ite (fun h0 => ?_) (fun _ => wp_some rfl))
  have hsh : vsc r7.1 = true ∧ (0 ≤ r7.2 ∧ r7.2 ≤ 10000) ∧ vsc (shX r7.1 r7.2) = true ∧ (shfR r7.1 r7.2).1 = shX r7.1 r7.2 := by
    unfold shfR at h0 ⊢
    by_cases c1 : vsc r7.1 = true
    · by_cases c2 : 0 ≤ r7.2 ∧ r7.2 ≤ 10000
      · by_cases c3 : vsc (shX r7.1 r7.2) = true
        · rw [if_pos c1, if_pos c2, if_pos c3]; exact ⟨c1, c2, c3, rfl⟩
        · rw [if_pos c1, if_pos c2, if_neg c3] at h0; cases h0
      · rw [if_pos c1, if_neg c2] at h0; cases h0
    · rw [if_neg c1] at h0; cases h0
  obtain ⟨c1, c2, c3, c4⟩ := hsh
  rw [c4]
  refine wp_loop (fun t : Int => 0 ≤ t ∧ t ≤ 70) (fun t => (70 - t).toNat) ⟨by omega, by omega⟩ (by omega) ?_
  rintro t ⟨t0, t1⟩
  by_cases h60 : t ≤ 60
  · rw [if_pos h60, Option.bind_some, w64_id (n := t + r7.2) (by omega) (by omega)]
    by_cases hle : t + r7.2 ≤ 10000
    · obtain ⟨e1, e2⟩ := shwR_shift c1 c3 (t := t) (d := r7.2) (by omega) (by omega)
      have l9 := shwR_len s7 t
      rw [decide_eq_true hle, if_pos rfl, specShownAt_eq s7, Option.bind_some, ShownAt_eq (shX_small s7 _), Option.bind_some, e1, if_pos e2, if_pos e2, f6texts_eq (by omega), Option.bind_some, decide_eq_true rfl, Bool.not_true, Option.bind_some, if_neg (by simp), w64_id (by omega) (by omega)]
      exact wp_some ⟨⟨by omega, by omega⟩, by omega⟩
    · rw [decide_eq_false hle, if_neg (by simp)]; exact wp_some (wp_some rfl)
  · rw [if_neg h60, Option.bind_some, if_neg (by simp)]; exact wp_some (wp_some rfl)
end Go.Vs.G

