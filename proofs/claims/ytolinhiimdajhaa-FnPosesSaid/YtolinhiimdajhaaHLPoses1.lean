/- Plain facts about the typed functions, up to the law: no program in sight. No conditions. -/
import Derived.Test.YtolinhiimdajhaaV5
import Derived.Test.YtolinhiimdajhaaDLPoses
namespace Go.Vs
open Go

section
variable {α β S B R : Type}

open Classical in
/-- a loop that looks at each round for a reason to stop -/
theorem scan {body : Int → Option (Step Int Unit R)} {kb : Unit → Option β} {kr : R → Option β} {s n : Nat} {c : Nat → Bool} {r : R} (hs : s ≤ n) (hn : n < 9223372036854775807)
    (hb : ∀ i : Nat, s ≤ i → i < n → body (i : Int) = some (if c i = true then .next ((i : Int) + 1) else .ret r)) (he : body (n : Int) = some (.brk ())) :
    onL (loop body loopLim (s : Int)) kb kr = if ∀ i, s ≤ i → i < n → c i = true then kb () else kr r := by
  by_cases h : ∀ i, s ≤ i → i < n → c i = true
  · rw [if_pos h]
    have := loop_brk (body := body) (fun j => ((s + j : Nat) : Int)) (b := ()) (n - s) (by omega) (fun j hj => by
      rw [hb (s + j) (by omega) (by omega), if_pos (h _ (by omega) (by omega))]; congr 2) (by rw [show s + (n - s) = n by omega]; exact he)
    simp only [Nat.add_zero] at this
    rw [this]; rfl
  · rw [if_neg h]
    have hex : ∃ k, s ≤ k ∧ k < n ∧ c k = false := by
      refine Classical.byContradiction fun hc => h fun i h1 h2 => ?_
      cases hci : c i with
      | true => rfl
      | false => exact absurd ⟨i, h1, h2, hci⟩ hc
    -- the first of them
    have hleast : ∃ k, (s ≤ k ∧ k < n ∧ c k = false) ∧ ∀ j, s ≤ j → j < k → c j = true := by
      obtain ⟨k, hk⟩ := hex
      induction k using Nat.strongRecOn with
      | _ k ih =>
        by_cases hall : ∀ j, s ≤ j → j < k → c j = true
        · exact ⟨k, hk, hall⟩
        · have : ∃ j, s ≤ j ∧ j < k ∧ c j = false := by
            refine Classical.byContradiction fun hc => hall fun i h1 h2 => ?_
            cases hci : c i with
            | true => rfl
            | false => exact absurd ⟨i, h1, h2, hci⟩ hc
          obtain ⟨j, h1, h2, h3⟩ := this
          exact ih j h2 ⟨h1, by omega, h3⟩
    obtain ⟨k, ⟨h1, h2, h3⟩, h4⟩ := hleast
    have := loop_ret' (body := body) (fun j => ((s + j : Nat) : Int)) (r := r) (k - s) (by omega) (fun j hj => by
      rw [hb (s + j) (by omega) (by omega), if_pos (h4 _ (by omega) (by omega))]; congr 2) (by
      rw [show s + (k - s) = k by omega, hb k h1 h2, h3]; rfl)
    simp only [Nat.add_zero] at this
    rw [this]; rfl
theorem w64_succ {i n : Nat} (h : i < n) (hn : n < 9223372036854775807) : w64 ((i : Int) + 1) = (i : Int) + 1 := w64_id (by omega) (by omega)
theorem at_of {l : List α} {i : Nat} (h : i < l.length) : at? l (i : Int) = some l[i] := at_nat h
/-- comparisons element by element -/
theorem eqS {f : α → α → Option Bool} {c : α → α → Bool} (a b : List α) (hf : ∀ x, x ∈ a → ∀ y, y ∈ b → f x y = some (c x y)) (ha : a.length < 9223372036854775807) :
    (if (a.length : Int) = (b.length : Int) then (onL (loop (S := Int) (B := Unit) (R := Bool) (fun (i1 : Int) => if i1 < (a.length : Int) then
      ((at? a i1).bind fun v1 => (at? b i1).bind fun v2 => (f v1 v2).bind fun r1 => if r1 then (some (.next (w64 (i1 + 1)))) else some (.ret false)) else some (.brk ())) loopLim 0) (fun (_ : Unit) => some true) (fun r => some r)) else some false)
      = some (decide (a.length = b.length) && (List.zipWith c a b).all id) := by
  by_cases hl : a.length = b.length
  · rw [if_pos (by omega)]
    have := scan (body := fun (i1 : Int) => if i1 < (a.length : Int) then
      ((at? a i1).bind fun v1 => (at? b i1).bind fun v2 => (f v1 v2).bind fun r1 => if r1 then (some (.next (w64 (i1 + 1)))) else some (.ret false)) else some (.brk ()))
      (kb := fun (_ : Unit) => some true) (kr := fun r => some r) (s := 0) (n := a.length) (c := fun i => if h : i < a.length ∧ i < b.length then c a[i] b[i] else true) (r := false) (by omega) ha ?_ (by simp)
    · simp only [Int.natCast_zero] at this
      refine this.trans ?_
      split
      · rename_i h
        congr 1
        symm
        simp only [Bool.and_eq_true, decide_eq_true_eq, hl, true_and, List.all_eq_true, id]
        intro x hx
        obtain ⟨i, hi, rfl⟩ := List.getElem_of_mem hx
        simp only [List.length_zipWith] at hi
        have := h i (by omega) (by omega)
        simpa [show i < a.length ∧ i < b.length by omega] using this
      · rename_i h
        congr 1
        symm
        simp only [Bool.and_eq_false_iff]
        right
        refine Classical.byContradiction fun hc => h fun i _ hi => ?_
        have hall : (List.zipWith c a b).all id = true := by simpa using hc
        rw [List.all_eq_true] at hall
        have hi2 : i < a.length ∧ i < b.length := ⟨hi, by omega⟩
        have := hall (c a[i] b[i]) (by
          rw [List.mem_iff_getElem]
          exact ⟨i, by simp; omega, by simp⟩)
        simpa [hi2] using this
    · intro i _ hi
      have hib : i < b.length := by omega
      have h1 : (i : Int) < (a.length : Int) := by omega
      simp only [h1, if_true, at_of hi, at_of hib, Option.bind_some, hf _ (List.getElem_mem hi) _ (List.getElem_mem hib), hi, hib, and_self, dite_true]
      split
      · rw [w64_id (by omega) (by omega)]
      · rfl
  · rw [if_neg (by omega)]
    simp [hl]
theorem zip_eq [DecidableEq α] {c : α → α → Bool} (hc : ∀ x y, c x y = decide (x = y)) : ∀ (a b : List α), (decide (a.length = b.length) && (List.zipWith c a b).all id) = decide (a = b)
  | [], [] => by simp
  | [], _ :: _ => by simp
  | _ :: _, [] => by simp
  | x :: a, y :: b => by
    have ih := zip_eq hc a b
    simp only [List.length_cons, Nat.add_right_cancel_iff, List.zipWith_cons_cons, List.all_cons, id, List.cons.injEq, hc] at ih ⊢
    by_cases hxy : x = y
    · simp [hxy, ih]
    · simp [hxy]
end
/-- the same with a proposition for a test -/
theorem eqSp {α : Type} [DecidableEq α] (a b : List α) (ha : a.length < 9223372036854775807) :
    (if (a.length : Int) = (b.length : Int) then (onL (loop (S := Int) (B := Unit) (R := Bool) (fun (i1 : Int) => if i1 < (a.length : Int) then
      ((at? a i1).bind fun v1 => (at? b i1).bind fun v2 => if v1 = v2 then (some (.next (w64 (i1 + 1)))) else some (.ret false)) else some (.brk ())) loopLim 0) (fun (_ : Unit) => some true) (fun r => some r)) else some false)
      = some (decide (a = b)) := by
  rw [← zip_eq (c := fun x y => decide (x = y)) (fun _ _ => rfl), ← eqS (f := fun x y => some (decide (x = y))) (c := fun x y => decide (x = y)) a b (fun _ _ _ _ => rfl) ha]
  congr 3
  funext i
  split
  · congr 1; funext v1; congr 1; funext v2
    simp only [Option.bind_some, decide_eq_true_eq]
  · rfl
end Go.Vs

namespace Go.Vs.G
open Go Go.Vs

/-- a source that can still be asked; B bounds the place that it has come to -/
structure SrcOk (B : Int) (s : GL00Src) : Prop where
  bytes : ∀ x, x ∈ s.code → 0 ≤ x ∧ x ≤ 255
  len : s.code.length ≤ 1000000
  at0 : 0 ≤ s.at_
  atB : s.at_ ≤ B
theorem SrcOk.mono {B B' : Int} {s : GL00Src} (h : SrcOk B s) (hB : B ≤ B') : SrcOk B' s := ⟨h.bytes, h.len, h.at0, Int.le_trans h.atB hB⟩
theorem srcOk_from {code : List Int} (h : okL (okI .u8) code) (hl : code.length ≤ 1000000) : SrcOk 0 (GL00Src.mk code 0 0) :=
  ⟨fun x hx => okU8 (h.2 x hx), hl, by simp, by simp⟩
theorem shr40 (n : Int) : shr? .u64 n 40 = some (n.fdiv (2 ^ 40)) := by
  simp [shr?, IntKind.bits]
theorem and255 (n : Int) : 0 ≤ bit_and .u64 n 255 ∧ bit_and .u64 n 255 ≤ 255 := by
  unfold bit_and
  rw [wu64_def]
  have h : (BitVec.ofInt IntKind.u64.bits n &&& BitVec.ofInt IntKind.u64.bits 255).toNat ≤ 255 := by
    rw [BitVec.toNat_and]
    exact Nat.le_trans Nat.and_le_right (by decide)
  omega
theorem next_ok {B : Int} {s : GL00Src} (h : SrcOk B s) (hB : B ≤ 4611686018427387904) : ∃ v s', spec_l00Src_next s = some (v, s') ∧ 0 ≤ v ∧ v ≤ 255 ∧ SrcOk (B + 1) s' := by
  have h1 := h.at0
  have h2 := h.atB
  have h3 := h.len
  have hat : w64 (s.at_ + 1) = s.at_ + 1 := w64_id (by omega) (by omega)
  have hb : ∃ b, (if s.at_ < (s.code.length : Int) then ((at? s.code s.at_).bind fun v1 => some (w64 v1)) else some 0) = some b ∧ 0 ≤ b ∧ b ≤ 255 := by
    split
    · rename_i hlt
      rw [at_ok h1 (by omega), Option.bind_some]
      obtain ⟨g1, g2⟩ := h.bytes s.code[s.at_.toNat] (List.getElem_mem (by omega))
      exact ⟨_, rfl, by rw [w64_id (by omega) (by omega)]; omega, by rw [w64_id (by omega) (by omega)]; omega⟩
    · exact ⟨0, rfl, by omega, by omega⟩
  obtain ⟨b, hb, b0, b1⟩ := hb
  unfold spec_l00Src_next
  rw [hb, Option.bind_some, hat]
  split
  · exact ⟨_, _, rfl, b0, b1, ⟨h.bytes, h.len, by simp only; omega, by simp only; omega⟩⟩
  · rw [shr40, Option.bind_some]
    have := and255 ((IntKind.wrap .u64 ((IntKind.wrap .u64 ((IntKind.wrap .u64 (s.seed * 6364136223846793005)) + (IntKind.wrap .u64 b))) + 1442695040888963407)).fdiv (2 ^ 40))
    exact ⟨_, _, rfl, by rw [w64_id (by omega) (by omega)]; omega, by rw [w64_id (by omega) (by omega)]; omega, ⟨h.bytes, h.len, by simp only; omega, by simp only; omega⟩⟩
theorem pick_ok {B : Int} {s : GL00Src} (h : SrcOk B s) (hB : B ≤ 4611686018427387000) (n : Int) : ∃ v s', spec_l00Src_pick s n = some (v, s') ∧ 0 ≤ v ∧ (v = 0 ∨ v < n) ∧ SrcOk (B + 2) s' := by
  unfold spec_l00Src_pick
  by_cases hn : n ≤ 1
  · rw [if_pos hn]; exact ⟨0, s, rfl, by omega, .inl rfl, h.mono (by omega)⟩
  · rw [if_neg hn]
    obtain ⟨v, s1, e1, v0, v1, k1⟩ := next_ok h (by omega)
    rw [e1, Option.bind_some]
    by_cases h2 : n > 200
    · rw [if_pos h2]
      obtain ⟨u, s2, e2, u0, u1, k2⟩ := next_ok k1 (by omega)
      simp only
      rw [e2, Option.bind_some, mod_ok (by omega), Option.bind_some, w64_id (n := v * 256) (by omega) (by omega), w64_id (by simp only; omega) (by simp only; omega)]
      have e : (v * 256 + u).tmod n = (v * 256 + u) % n := Int.tmod_eq_emod_of_nonneg (by omega)
      refine ⟨_, _, rfl, ?_, ?_, by rw [show B + 2 = B + 1 + 1 by omega]; exact k2⟩
      · simp only [e]; exact Int.emod_nonneg _ (by omega)
      · simp only [e]; right; exact Int.emod_lt_of_pos _ (by omega)
    · rw [if_neg h2, mod_ok (by omega), Option.bind_some]
      simp only
      have e : v.tmod n = v % n := Int.tmod_eq_emod_of_nonneg (by omega)
      refine ⟨_, _, rfl, ?_, ?_, k1.mono (by omega)⟩
      · rw [e]; exact Int.emod_nonneg _ (by omega)
      · rw [e]; right; exact Int.emod_lt_of_pos _ (by omega)
/-- one of some numbers -/
theorem among_ok {B : Int} {s : GL00Src} (h : SrcOk B s) (hB : B ≤ 4611686018427387000) {l : List Int} (hl : 1 ≤ l.length) (hl2 : l.length ≤ 1000) : ∃ v s', spec_l00Src_among s l = some (v, s') ∧ v ∈ l ∧ SrcOk (B + 2) s' := by
  unfold spec_l00Src_among
  obtain ⟨v, s1, e1, v0, v1, k1⟩ := pick_ok h hB (l.length : Int)
  rw [e1, Option.bind_some]
  simp only
  rw [at_ok v0 (by omega), Option.bind_some]
  exact ⟨_, _, rfl, List.getElem_mem _, k1⟩
end Go.Vs.G

namespace Go.Vs.G
open Go Go.Vs

/-- f is n / d in lowest terms -/
structure Red (n d : Int) (f : GFraction) : Prop where
  pos : 0 < f.Den
  cop : Int.gcd f.Num f.Den = 1
  eq : f.Num * d = n * f.Den
theorem dvd_of_cop {a b c : Int} (h : Int.gcd a b = 1) (hd : b ∣ a * c) : b ∣ c := by
  rw [← Int.natAbs_dvd_natAbs] at hd ⊢
  rw [Int.natAbs_mul] at hd
  have : Nat.Coprime b.natAbs a.natAbs := by rw [Nat.coprime_comm]; exact h
  exact this.dvd_of_dvd_mul_left hd
theorem Red.unique {f g : GFraction} (hf : 0 < f.Den) (hg : 0 < g.Den) (cf : Int.gcd f.Num f.Den = 1) (cg : Int.gcd g.Num g.Den = 1) (h : f.Num * g.Den = g.Num * f.Den) : f = g := by
  have h1 : f.Den ∣ g.Den := dvd_of_cop cf ⟨g.Num, by rw [h, Int.mul_comm]⟩
  have h2 : g.Den ∣ f.Den := dvd_of_cop cg ⟨f.Num, by rw [← h, Int.mul_comm]⟩
  have hd : f.Den = g.Den := Int.le_antisymm (Int.le_of_dvd hg h1) (Int.le_of_dvd hf h2)
  have hn : f.Num = g.Num := by
    rw [hd] at h
    exact Int.eq_of_mul_eq_mul_right (by omega) h
  cases f; cases g
  simp_all
end Go.Vs.G

namespace Go.Vs.G
open Go Go.Vs

theorem Red.same {n d : Int} {f g : GFraction} (hf : Red n d f) (hg : Red n d g) (hd : d ≠ 0) : f = g := by
  refine Red.unique hf.pos hg.pos hf.cop hg.cop ?_
  have e1 := hf.eq
  have e2 := hg.eq
  refine Int.eq_of_mul_eq_mul_left (a := d) hd ?_
  calc d * (f.Num * g.Den) = (f.Num * d) * g.Den := by simp only [Int.mul_assoc, Int.mul_comm, Int.mul_left_comm]
    _ = (g.Num * d) * f.Den := by rw [e1, e2]; simp only [Int.mul_assoc, Int.mul_comm, Int.mul_left_comm]
    _ = d * (g.Num * f.Den) := by simp only [Int.mul_assoc, Int.mul_comm, Int.mul_left_comm]
/- counting -/
/- the same on both sides -/
/- draws -/
theorem one_ok {B : Int} {s : GL00Src} (h : SrcOk B s) (hB : B ≤ 4611686018427387000) (n : Int) : ∃ v s', spec_l00Src_one s n = some (v, s') ∧ SrcOk (B + 2) s' := by
  unfold spec_l00Src_one
  obtain ⟨v, s1, e1, _, _, k1⟩ := pick_ok h hB n
  rw [e1]; exact ⟨_, _, rfl, k1⟩
end Go.Vs.G

namespace Go.Vs
open Go

section
variable {α β γ R : Type}

theorem take_succ_map {g : α → β} {l : List α} {j : Nat} (hj : j < l.length) : (l.take j).map g ++ [g l[j]] = (l.take (j + 1)).map g := by
  rw [List.take_add_one, List.getElem?_eq_getElem hj, List.map_append]; rfl
/-- the same, with a start -/
theorem mapS' {f : Int → Option β} (g : Nat → β) (n : Nat) (hf : ∀ i : Nat, i < n → f (i : Int) = some (g i)) (hl : n ≤ 4294967296)
    {body : List β × Int → Option (Step (List β × Int) (List β) R)} {kb : List β → Option γ} {kr : R → Option γ}
    (hb : ∀ (out : List β) (i : Int), body (out, i) = if i < (n : Int) then ((f i).bind fun r => (app? out ([r] : List β)).bind fun l1 => some (.next (l1, w64 (i + 1)))) else some (.brk out)) :
    onL (loop body loopLim ([], 0)) kb kr = kb (tab g n) := by
  have := loop_brk (body := body) (fun j : Nat => (tab g j, (j : Int))) (b := tab g n) n (by omega) (fun j hj => by
    rw [hb, if_pos (by omega), hf j hj, Option.bind_some, app_ok (by simp; omega), Option.bind_some, w64_id (by omega) (by omega), tab_succ]
    congr 3) (by rw [hb, if_neg (by omega)])
  simp only [tab_zero, Int.natCast_zero] at this
  rw [this]; rfl
/-- a list of which all fit, asked by a loop -/
theorem allS {f : α → Option Bool} (c : α → Bool) (l : List α) (hf : ∀ x, x ∈ l → f x = some (c x)) (hl : l.length < 9223372036854775807) {r : R}
    {body : Int → Option (Step Int Unit R)} {kb : Unit → Option γ} {kr : R → Option γ}
    (hb : ∀ (i : Int), body i = if i < (l.length : Int) then ((at? l i).bind fun v => (f v).bind fun q => if q = true then some (.next (w64 (i + 1))) else some (.ret r)) else some (.brk ())) :
    onL (loop body loopLim 0) kb kr = if ∀ x, x ∈ l → c x = true then kb () else kr r := by
  have := scan (body := body) (kb := kb) (kr := kr) (s := 0) (n := l.length) (c := fun i => if h : i < l.length then c l[i] else true) (r := r) (by omega) hl (fun i _ hi => by
    rw [hb, if_pos (by omega), at_of hi, Option.bind_some, hf _ (List.getElem_mem hi), Option.bind_some, w64_id (by omega) (by omega)]
    simp only [hi, dif_pos]
    cases c l[i] <;> rfl) (by rw [hb, if_neg (by omega)])
  simp only [Int.natCast_zero] at this
  rw [this]
  have e : (∀ i, 0 ≤ i → i < l.length → (if h : i < l.length then c l[i] else true) = true) ↔ ∀ x, x ∈ l → c x = true := by
    constructor
    · intro h x hx
      obtain ⟨i, hi, rfl⟩ := List.getElem_of_mem hx
      have := h i (by omega) hi
      simpa [hi] using this
    · intro h i _ hi
      simp [hi, h _ (List.getElem_mem hi)]
  split
  · rename_i h; rw [if_pos (e.1 h)]
  · rename_i h; rw [if_neg (fun h2 => h (e.2 h2))]
/-- the library's IndexFunc -/
theorem idxFS {f : α → Option Bool} (c : α → Bool) (l : List α) (hf : ∀ x, x ∈ l → f x = some (c x)) (hl : l.length < 9223372036854775807)
    {body : Int → Option (Step Int Unit Int)}
    (hb : ∀ (i : Int), body i = if i < (l.length : Int) then ((at? l i).bind fun v => (f v).bind fun r => if r = true then some (.ret i) else some (.next (w64 (i + 1)))) else some (.brk ())) :
    wp (onL (loop body loopLim 0) (fun (_ : Unit) => some (-1 : Int)) (fun r => some r)) fun r => (r = -1 ∧ l.any c = false) ∨ (∃ k : Nat, r = (k : Int) ∧ ∃ h : k < l.length, c l[k] = true ∧ (∀ j (h2 : j < k), c (l[j]'(by omega)) = false) ∧ l.any c = true) := by
  refine wp_loop (fun t : Int => ∃ k : Nat, t = (k : Int) ∧ k ≤ l.length ∧ ∀ j (h2 : j < k) (h3 : j < l.length), c l[j] = false) (fun t => (l.length - t).toNat) ⟨0, rfl, by omega, fun j hj => by omega⟩ (by omega) ?_
  rintro i ⟨k, rfl, hk, hall⟩
  rw [hb]
  refine wp_ite (fun h => ?_) (fun h => ?_)
  · have hk2 : k < l.length := by omega
    rw [at_of hk2, Option.bind_some, hf _ (List.getElem_mem hk2), Option.bind_some]
    refine wp_ite (fun h3 => ?_) (fun h3 => ?_)
    · exact wp_some (wp_some (.inr ⟨k, rfl, hk2, h3, fun j hj => hall j hj (by omega), List.any_eq_true.2 ⟨_, List.getElem_mem hk2, h3⟩⟩))
    · rw [w64_succ hk2 (by omega)]
      refine wp_some ⟨⟨k + 1, rfl, by omega, fun j hj hj2 => ?_⟩, by omega⟩
      rcases Nat.lt_or_ge j k with h4 | h4
      · exact hall j h4 hj2
      · obtain rfl : j = k := by omega
        simpa using h3
  · obtain rfl : k = l.length := by omega
    refine wp_some (wp_some (.inl ⟨rfl, ?_⟩))
    refine Bool.eq_false_iff.2 fun hc => ?_
    obtain ⟨x, hx, hx2⟩ := List.any_eq_true.1 hc
    obtain ⟨j, hj, rfl⟩ := List.getElem_of_mem hx
    rw [hall j hj hj] at hx2
    cases hx2
/-- the library's ContainsFunc -/
theorem contS {f : α → Option Bool} (c : α → Bool) (l : List α) (hf : ∀ x, x ∈ l → f x = some (c x)) (hl : l.length < 9223372036854775807)
    {body : Int → Option (Step Int Unit Int)}
    (hb : ∀ (i : Int), body i = if i < (l.length : Int) then ((at? l i).bind fun v => (f v).bind fun r => if r = true then some (.ret i) else some (.next (w64 (i + 1)))) else some (.brk ())) :
    ((onL (loop body loopLim 0) (fun (_ : Unit) => some (-1 : Int)) (fun r => some r)).bind fun r => some (decide (r ≥ 0))) = some (l.any c) := by
  obtain ⟨r, h1, h2⟩ := idxFS c l hf hl hb
  rw [h1, Option.bind_some]
  rcases h2 with ⟨rfl, h⟩ | ⟨k, rfl, _, _, _, h⟩
  · rw [h]; rfl
  · rw [h, decide_eq_true (by omega)]
end
end Go.Vs

namespace Go.Vs
theorem wp_seq {α β : Type} {A : Option β} {k : β → Option α} {P : β → Prop} {Q : α → Prop} (h : wp A P) (hk : ∀ x, P x → wp (k x) Q) : wp (A.bind k) Q := by
  obtain ⟨x, rfl, hx⟩ := h; exact hk x hx
end Go.Vs
namespace Go.Vs.G
open Go Go.Vs

section
variable {α : Type} {Q : α → Prop} {B : Int} {s : GL00Src}
theorem wp_pick {n : Int} {k : Int × GL00Src → Option α} (h : SrcOk B s) (hB : B ≤ 4611686018427387000) (hk : ∀ v s', 0 ≤ v → (v = 0 ∨ v < n) → SrcOk (B + 2) s' → wp (k (v, s')) Q) : wp ((spec_l00Src_pick s n).bind k) Q := by
  obtain ⟨v, s', e, h0, h1, h2⟩ := pick_ok h hB n
  rw [e]; exact hk v s' h0 h1 h2
theorem wp_one {n : Int} {k : Bool × GL00Src → Option α} (h : SrcOk B s) (hB : B ≤ 4611686018427387000) (hk : ∀ v s', SrcOk (B + 2) s' → wp (k (v, s')) Q) : wp ((spec_l00Src_one s n).bind k) Q := by
  obtain ⟨v, s', e, h2⟩ := one_ok h hB n
  rw [e]; exact hk v s' h2
theorem wp_among {l : List Int} {k : Int × GL00Src → Option α} (h : SrcOk B s) (hB : B ≤ 4611686018427387000) (hl : 1 ≤ l.length) (hl2 : l.length ≤ 1000) (hk : ∀ v s', v ∈ l → SrcOk (B + 2) s' → wp (k (v, s')) Q) : wp ((spec_l00Src_among s l).bind k) Q := by
  obtain ⟨v, s', e, h1, h2⟩ := among_ok h hB hl hl2
  rw [e]; exact hk v s' h1 h2
theorem wp_from {code : List Int} {k : GL00Src → Option α} (h : okL (okI .u8) code) (hl : code.length ≤ 1000000) (hk : ∀ s, SrcOk 0 s → wp (k s) Q) : wp ((spec_l00From code).bind k) Q := hk _ (srcOk_from h hl)
theorem wp_app {β : Type} {l m : List β} {k : List β → Option α} (h : l.length + m.length ≤ 4294967296) (hk : wp (k (l ++ m)) Q) : wp ((app? l m).bind k) Q := by
  rw [app_ok h]; exact hk
theorem wp_bif {b : Bool} {A A' : Option α} (h1 : b = true → wp A Q) (h2 : b = false → wp A' Q) : wp (if b = true then A else A') Q := by
  cases b
  · exact h2 rfl
  · exact h1 rfl
end
end Go.Vs.G

namespace Go.Vs
open Go
section
variable {α : Type} [Inhabited α]
def gd (l : List α) (i : Nat) : α := l.getD i default
theorem gd_of {l : List α} {i : Nat} (h : i < l.length) : gd l i = l[i] := by unfold gd; simp [h]
theorem at_gd {l : List α} {i : Nat} (h : i < l.length) : at? l (i : Int) = some (gd l i) := by rw [at_of h, gd_of h]
theorem gd_mem {l : List α} {i : Nat} (h : i < l.length) : gd l i ∈ l := by rw [gd_of h]; exact List.getElem_mem h
theorem mem_gd {l : List α} {x : α} (h : x ∈ l) : ∃ i, i < l.length ∧ x = gd l i := by
  obtain ⟨i, hi, rfl⟩ := List.getElem_of_mem h; exact ⟨i, hi, (gd_of hi).symm⟩
theorem gd_tab {f : Nat → α} {n i : Nat} (h : i < n) : gd (tab f n) i = f i := by rw [gd_of (by simpa using h)]; simp [tab]
theorem gd_map {β : Type} [Inhabited β] {f : β → α} {l : List β} {i : Nat} (h : i < l.length) : gd (l.map f) i = f (gd l i) := by
  rw [gd_of (by simpa using h), gd_of h]; simp
theorem tab_gd (l : List α) : tab (gd l) l.length = l := (eq_tab l default).symm
end
end Go.Vs
namespace Go.Vs.G
open Go Go.Vs
def vpt (p : GPoint) : Bool := decide (0 ≤ p.X ∧ p.X ≤ 1000) && decide (0 ≤ p.Y ∧ p.Y ≤ 1000)
def vps (j : List GPoint) : Bool := decide (1 ≤ j.length ∧ j.length ≤ 8) && j.all vpt
theorem within_d (n a b : Int) : impl_within n a b = some (decide (a ≤ n ∧ n ≤ b)) := by
  unfold impl_within
  by_cases h : n ≥ a
  · rw [if_pos h]; exact congrArg some (decide_eq_decide.2 (by omega))
  · rw [if_neg h, decide_eq_false (by omega)]
theorem l00In_d (n a b : Int) : spec_l00In n a b = some (decide (a ≤ n ∧ n ≤ b)) := by
  unfold spec_l00In
  by_cases h : n ≥ a
  · rw [if_pos h]; exact congrArg some (decide_eq_decide.2 (by omega))
  · rw [if_neg h, decide_eq_false (by omega)]
theorem ValidPose_eq {j : List GPoint} (hl : j.length ≤ 1000000) : impl_ValidPose j = some (vps j) := by
  unfold impl_ValidPose vps
  have hcf : slices_ContainsFunc_impl_Point_impl_Point_804 j (fun a0 => impl_ValidPose_1 a0) = some (j.any fun p => !vpt p) := by
    unfold slices_ContainsFunc_impl_Point_impl_Point_804 slices_IndexFunc_impl_Point_impl_Point_826
    refine contS (fun p => !vpt p) j (fun p hp => ?_) (by omega) (fun _ => rfl)
    unfold impl_ValidPose_1 vpt
    rw [within_d, within_d, Option.bind_some, Option.bind_some]
    cases decide (0 ≤ p.X ∧ p.X ≤ 1000) <;> cases decide (0 ≤ p.Y ∧ p.Y ≤ 1000) <;> rfl
  rw [hcf, Option.bind_some]
  have e : (!j.any fun p => !vpt p) = j.all vpt := by rw [List.not_any_eq_all_not]; simp
  rw [e]
  by_cases h1 : 1 ≤ j.length
  · by_cases h2 : j.length ≤ 8
    · rw [if_pos (by omega), if_pos (by omega), decide_eq_true ⟨h1, h2⟩, Bool.true_and]
    · rw [if_pos (by omega), if_neg (by omega), decide_eq_false (by omega), Bool.false_and]
  · rw [if_neg (by omega), decide_eq_false (by omega), Bool.false_and]
theorem l04Ok_eq {j : List GPoint} (hl : j.length ≤ 1000000) : spec_l04Ok j = some (vps j) := by
  unfold spec_l04Ok
  rw [allS vpt j (f := fun p => some (vpt p)) (fun _ _ => rfl) (by omega) (r := false)]
  · rw [l00In_d, Option.bind_some]
    unfold vps
    by_cases h : ∀ x, x ∈ j → vpt x = true
    · rw [if_pos h, List.all_eq_true.2 h, Bool.and_true]; exact congrArg some (decide_eq_decide.2 (by omega))
    · rw [if_neg h]
      have : j.all vpt = false := by rw [Bool.eq_false_iff]; exact fun hc => h (List.all_eq_true.1 hc)
      rw [this, Bool.and_false]
  · intro i
    by_cases hi : i < (j.length : Int)
    · rw [if_pos hi, if_pos hi]
      cases ha : at? j i with
      | none => rfl
      | some v =>
        simp only [Option.bind_some, l00In_d]
        unfold vpt
        cases decide (0 ≤ v.X ∧ v.X ≤ 1000) <;> cases decide (0 ≤ v.Y ∧ v.Y ≤ 1000) <;> rfl
    · rw [if_neg hi, if_neg hi]
theorem vps_pt {j : List GPoint} (h : vps j = true) {i : Nat} (hi : i < j.length) : 0 ≤ (gd j i).X ∧ (gd j i).X ≤ 1000 ∧ 0 ≤ (gd j i).Y ∧ (gd j i).Y ≤ 1000 := by
  unfold vps at h
  simp only [Bool.and_eq_true, decide_eq_true_eq, List.all_eq_true] at h
  have := h.2 _ (gd_mem hi)
  unfold vpt at this
  simp only [Bool.and_eq_true, decide_eq_true_eq] at this
  omega
theorem vps_len {j : List GPoint} (h : vps j = true) : 1 ≤ j.length ∧ j.length ≤ 8 := by
  unfold vps at h
  simp only [Bool.and_eq_true, decide_eq_true_eq, List.all_eq_true] at h
  exact h.1
theorem vps_of {j : List GPoint} (h : 1 ≤ j.length ∧ j.length ≤ 8) (h2 : ∀ i, i < j.length → 0 ≤ (gd j i).X ∧ (gd j i).X ≤ 1000 ∧ 0 ≤ (gd j i).Y ∧ (gd j i).Y ≤ 1000) : vps j = true := by
  unfold vps
  simp only [Bool.and_eq_true, decide_eq_true_eq, List.all_eq_true]
  refine ⟨h, fun p hp => ?_⟩
  obtain ⟨i, hi, rfl⟩ := mem_gd hp
  have := h2 i hi
  unfold vpt
  simp only [Bool.and_eq_true, decide_eq_true_eq]
  omega
/- what lies between -/
def rnd (u d : Int) : Int := (2 * u + d) / (2 * d)
theorem rounded_eq {u d : Int} (h0 : 0 ≤ u) (h1 : u ≤ 1000000000) (d0 : 1 ≤ d) (d1 : d ≤ 1000000) : impl_rounded u d = some (rnd u d) := by
  unfold impl_rounded rnd
  rw [w64_id (n := 2 * u) (by omega) (by omega), w64_id (n := 2 * u + d) (by omega) (by omega), w64_id (n := 2 * d) (by omega) (by omega), div_ok (by omega), mod_ok (by omega), Option.bind_some, Option.bind_some]
  have e1 : (2 * u + d).tdiv (2 * d) = (2 * u + d) / (2 * d) := Int.tdiv_eq_ediv_of_nonneg (by omega)
  have e2 : (2 * u + d).tmod (2 * d) = (2 * u + d) % (2 * d) := Int.tmod_eq_emod_of_nonneg (by omega)
  have g1 : 0 ≤ (2 * u + d) / (2 * d) := Int.ediv_nonneg (by omega) (by omega)
  have g2 : (2 * u + d) / (2 * d) ≤ 2 * u + d := Int.ediv_le_self _ (by omega)
  have g3 : 0 ≤ (2 * u + d) % (2 * d) := Int.emod_nonneg _ (by omega)
  rw [e1, e2, if_neg (by omega)]
  exact congrArg some (w64_id (by omega) (by omega))
theorem l00Round_eq {u d : Int} (h0 : 0 ≤ u) (h1 : u ≤ 1000000000) (d0 : 1 ≤ d) (d1 : d ≤ 1000000) : spec_l00Round u d = some (rnd u d) := by
  have := rounded_eq h0 h1 d0 d1
  unfold impl_rounded at this
  unfold spec_l00Round spec_l00Floor
  rw [this]; rfl
def mid (x y p n : Int) : Int := rnd (x * (n - p) + y * p) n
theorem mid_bd {x y p n : Int} (x0 : 0 ≤ x ∧ x ≤ 1000) (y0 : 0 ≤ y ∧ y ≤ 1000) (hp : 0 ≤ p ∧ p ≤ n) (hn : 1 ≤ n) : min x y ≤ mid x y p n ∧ mid x y p n ≤ max x y := by
  unfold mid rnd
  have a1 : min x y * (n - p) ≤ x * (n - p) := Int.mul_le_mul_of_nonneg_right (by omega) (by omega)
  have a2 : min x y * p ≤ y * p := Int.mul_le_mul_of_nonneg_right (by omega) (by omega)
  have a3 : x * (n - p) ≤ max x y * (n - p) := Int.mul_le_mul_of_nonneg_right (by omega) (by omega)
  have a4 : y * p ≤ max x y * p := Int.mul_le_mul_of_nonneg_right (by omega) (by omega)
  have b1 : min x y * (n - p) + min x y * p = min x y * n := by rw [← Int.mul_add]; congr 1; omega
  have b2 : max x y * (n - p) + max x y * p = max x y * n := by rw [← Int.mul_add]; congr 1; omega
  refine ⟨(Int.le_ediv_iff_mul_le (by omega)).2 ?_, Int.le_of_lt_add_one ((Int.ediv_lt_iff_lt_mul (by omega)).2 ?_)⟩
  · rw [show min x y * (2 * n) = 2 * (min x y * n) by rw [Int.mul_left_comm]]; omega
  · rw [show (max x y + 1) * (2 * n) = 2 * (max x y * n) + 2 * n by rw [Int.add_mul, Int.mul_left_comm, Int.one_mul]]; omega
theorem mid_lo {x y n : Int} (hn : 1 ≤ n) : mid x y 0 n = x := by
  unfold mid rnd
  rw [Int.mul_zero, Int.add_zero, Int.sub_zero]
  rw [show 2 * (x * n) + n = n + x * (2 * n) by rw [Int.mul_left_comm]; omega, Int.add_mul_ediv_right _ _ (by omega), Int.ediv_eq_zero_of_lt (by omega) (by omega)]; omega
theorem mid_hi {x y n : Int} (hn : 1 ≤ n) : mid x y n n = y := by
  unfold mid rnd
  rw [Int.sub_self, Int.mul_zero, Int.zero_add]
  rw [show 2 * (y * n) + n = n + y * (2 * n) by rw [Int.mul_left_comm]; omega, Int.add_mul_ediv_right _ _ (by omega), Int.ediv_eq_zero_of_lt (by omega) (by omega)]; omega
def bt (a b : List GPoint) (p n : Int) : List GPoint := tab (fun i => GPoint.mk (mid (gd a i).X (gd b i).X p n) (mid (gd a i).Y (gd b i).Y p n)) a.length
theorem bt_lo {a b : List GPoint} {n : Int} (hn : 1 ≤ n) : bt a b 0 n = a := by
  unfold bt
  refine Eq.trans (tab_congr fun i hi => ?_) (tab_gd a)
  rw [mid_lo hn, mid_lo hn]
theorem bt_hi {a b : List GPoint} {n : Int} (hn : 1 ≤ n) (hl : a.length = b.length) : bt a b n n = b := by
  unfold bt
  rw [hl]
  refine Eq.trans (tab_congr fun i hi => ?_) (tab_gd b)
  rw [mid_hi hn, mid_hi hn]
theorem num_bd {p n x y : Int} (hp : 0 ≤ p ∧ p ≤ n) (hn : 1 ≤ n ∧ n ≤ 10000) (x0 : 0 ≤ x ∧ x ≤ 1000) (y0 : 0 ≤ y ∧ y ≤ 1000) : (0 ≤ x * (n - p) ∧ x * (n - p) ≤ 10000000) ∧ (0 ≤ y * p ∧ y * p ≤ 10000000) :=
  ⟨⟨Int.mul_nonneg x0.1 (by omega), Int.le_trans (Int.mul_le_mul x0.2 (show n - p ≤ 10000 by omega) (by omega) (by omega)) (by omega)⟩, ⟨Int.mul_nonneg y0.1 (by omega), Int.le_trans (Int.mul_le_mul y0.2 (show p ≤ 10000 by omega) (by omega) (by omega)) (by omega)⟩⟩
section
variable {a b : List GPoint} (ha : vps a = true) (hb : vps b = true) (hl : a.length = b.length) {p n : Int} (hp : 0 ≤ p ∧ p ≤ n) (hn : 1 ≤ n ∧ n ≤ 10000)
include ha hb hl hp hn
theorem between_eq : impl_between a b p n = some (bt a b p n) := by
  unfold impl_between
  refine mapS' (f := fun x1 => (at? a x1).bind fun v1 => (at? b x1).bind fun v2 => (impl_rounded (w64 ((w64 (v1.X * (w64 (n - p)))) + (w64 (v2.X * p)))) n).bind fun r1 => (at? a x1).bind fun v3 =>
 (at? b x1).bind fun v4 =>
 (impl_rounded (w64 ((w64 (v3.Y * (w64 (n - p)))) + (w64 (v4.Y * p)))) n).bind fun r2 => some (GPoint.mk r1 r2)) (fun i => GPoint.mk (mid (gd a i).X (gd b i).X p n) (mid (gd a i).Y (gd b i).Y p n)) a.length (fun i hi => ?_) (by have := vps_len ha; omega) (fun out i => ?_)
  · have hx := vps_pt ha hi
    have hy := vps_pt hb (hl ▸ hi)
    obtain ⟨⟨q1, q2⟩, q3, q4⟩ := num_bd hp hn (x := (gd a i).X) (y := (gd b i).X) (by omega) (by omega)
    obtain ⟨⟨q5, q6⟩, q7, q8⟩ := num_bd hp hn (x := (gd a i).Y) (y := (gd b i).Y) (by omega) (by omega)
    rw [at_gd hi, at_gd (hl ▸ hi), Option.bind_some, Option.bind_some, w64_id (n := n - p) (by omega) (by omega), w64_id (n := (gd a i).X * (n - p)) (by omega) (by omega), w64_id (n := (gd b i).X * p) (by omega) (by omega), w64_id (n := (gd a i).X * (n - p) + (gd b i).X * p) (by omega) (by omega), rounded_eq (by omega) (by omega) (by omega) (by omega), Option.bind_some, Option.bind_some, Option.bind_some, w64_id (n := (gd a i).Y * (n - p)) (by omega) (by omega), w64_id (n := (gd b i).Y * p) (by omega) (by omega), w64_id (n := (gd a i).Y * (n - p) + (gd b i).Y * p) (by omega) (by omega), rounded_eq (by omega) (by omega) (by omega) (by omega)]
    rfl
  · by_cases hi : i < (a.length : Int)
    · simp only [if_pos hi, Option.bind_assoc, Option.bind_some]
    · simp only [if_neg hi]
theorem l04Between_eq : spec_l04Between a b p n = some (bt a b p n) := by
  unfold spec_l04Between
  refine mapS' (f := fun x1 => (at? a x1).bind fun v1 => (at? b x1).bind fun v2 => (spec_l00Round (w64 ((w64 (v1.X * (w64 (n - p)))) + (w64 (v2.X * p)))) n).bind fun r1 => (at? a x1).bind fun v3 =>
 (at? b x1).bind fun v4 =>
 (spec_l00Round (w64 ((w64 (v3.Y * (w64 (n - p)))) + (w64 (v4.Y * p)))) n).bind fun r2 => some (GPoint.mk r1 r2)) (fun i => GPoint.mk (mid (gd a i).X (gd b i).X p n) (mid (gd a i).Y (gd b i).Y p n)) a.length (fun i hi => ?_) (by have := vps_len ha; omega) (fun out i => ?_)
  · have hx := vps_pt ha hi
    have hy := vps_pt hb (hl ▸ hi)
    obtain ⟨⟨q1, q2⟩, q3, q4⟩ := num_bd hp hn (x := (gd a i).X) (y := (gd b i).X) (by omega) (by omega)
    obtain ⟨⟨q5, q6⟩, q7, q8⟩ := num_bd hp hn (x := (gd a i).Y) (y := (gd b i).Y) (by omega) (by omega)
    rw [at_gd hi, at_gd (hl ▸ hi), Option.bind_some, Option.bind_some, w64_id (n := n - p) (by omega) (by omega), w64_id (n := (gd a i).X * (n - p)) (by omega) (by omega), w64_id (n := (gd b i).X * p) (by omega) (by omega), w64_id (n := (gd a i).X * (n - p) + (gd b i).X * p) (by omega) (by omega), l00Round_eq (by omega) (by omega) (by omega) (by omega), Option.bind_some, Option.bind_some, Option.bind_some, w64_id (n := (gd a i).Y * (n - p)) (by omega) (by omega), w64_id (n := (gd b i).Y * p) (by omega) (by omega), w64_id (n := (gd a i).Y * (n - p) + (gd b i).Y * p) (by omega) (by omega), l00Round_eq (by omega) (by omega) (by omega) (by omega)]
    rfl
  · by_cases hi : i < (a.length : Int)
    · simp only [if_pos hi, Option.bind_assoc, Option.bind_some]
    · simp only [if_neg hi]
end
end Go.Vs.G

namespace Go.Vs.G
open Go Go.Vs
def smallK (l : List GKeyPose) : Prop := l.length ≤ 1000 ∧ ∀ i, i < l.length → (gd l i).Joints.length ≤ 1000
def okK (l : List GKeyPose) (i : Nat) : Bool := decide (0 ≤ (gd l i).Tick ∧ (gd l i).Tick ≤ 10000) && (vps (gd l i).Joints && (decide ((gd l i).Joints.length = (gd l 0).Joints.length) && decide (i = 0 ∨ (gd l (i - 1)).Tick < (gd l i).Tick)))
open Classical in
noncomputable def vks (l : List GKeyPose) : Bool := decide (1 ≤ l.length ∧ l.length ≤ 10) && decide (∀ i, i < l.length → okK l i = true)
theorem vks_iff {l : List GKeyPose} : vks l = true ↔ (1 ≤ l.length ∧ l.length ≤ 10) ∧ ∀ i, i < l.length → okK l i = true := by
  unfold vks; simp only [Bool.and_eq_true, decide_eq_true_eq]
section
variable {l : List GKeyPose} (h : smallK l)
include h
theorem keyStep {f g : Int → Int → Int → Option Bool} {v : List GPoint → Option Bool} (hf : ∀ n a b, f n a b = some (decide (a ≤ n ∧ n ≤ b))) (hv : ∀ j : List GPoint, j.length ≤ 1000000 → v j = some (vps j)) {i : Nat} (hi : i < l.length) :
 (((f (gd l i).Tick 0 10000).bind fun r1 =>
 if r1 then
 ((v (gd l i).Joints).bind fun r2 =>
 if r2 then
 ((at? l 0).bind fun v2 =>
 if ((gd l i).Joints.length : Int) = (v2.Joints.length : Int) then
 (if (i : Int) > 0 then
 ((at? l (w64 ((i : Int) - 1))).bind fun v3 =>
 some (decide (v3.Tick ≥ (gd l i).Tick)))
 else
 some false)
 else
 some true)
 else
 some true)
 else
 some true) : Option Bool) = some (!okK l i) := by
  have hl := h.1
  have h0 : at? l 0 = some (gd l 0) := at_gd (show 0 < l.length by omega)
  have hj := h.2 i hi
  rw [hf, Option.bind_some, hv _ (by omega)]
  unfold okK
  cases decide (0 ≤ (gd l i).Tick ∧ (gd l i).Tick ≤ 10000) with
  | false => rfl
  | true =>
    simp only [if_true, Option.bind_some, Bool.true_and]
    cases vps (gd l i).Joints with
    | false => rfl
    | true =>
      simp only [if_true, Bool.true_and, h0, Option.bind_some]
      by_cases he : (gd l i).Joints.length = (gd l 0).Joints.length
      · rw [if_pos (by omega), decide_eq_true he, Bool.true_and]
        by_cases hi0 : i = 0
        · rw [if_neg (by omega), decide_eq_true (Or.inl hi0)]; rfl
        · rw [if_pos (by omega), w64_id (by omega) (by omega), show (i : Int) - 1 = ((i - 1 : Nat) : Int) by omega, at_gd (by omega), Option.bind_some]
          by_cases ht : (gd l (i - 1)).Tick < (gd l i).Tick
          · rw [decide_eq_true (Or.inr ht), decide_eq_false (by omega)]; rfl
          · rw [decide_eq_false (p := _ ∨ _) (by omega), decide_eq_true (by omega)]; rfl
      · rw [if_neg (by omega), decide_eq_false he]; rfl
theorem ValidKeys_eq : impl_ValidKeys l = some (vks l) := by
  have hl := h.1
  unfold impl_ValidKeys vks
  by_cases h1 : 1 ≤ l.length ∧ l.length ≤ 10
  · rw [if_neg (by omega), Option.bind_some, decide_eq_false (by omega), if_neg (by simp)]
    refine (scan (s := 0) (n := l.length) (c := okK l) (r := false) (by omega) (by omega) (fun i _ hi => ?_) ?_).trans ?_
    · rw [if_pos (by omega), at_gd hi, Option.bind_some]
      refine (congrArg (fun o => Option.bind o _) (keyStep h (g := impl_within) within_d (fun j hj => ValidPose_eq hj) hi)).trans ?_
      rw [Option.bind_some, w64_id (by omega) (by omega)]
      cases okK l i <;> rfl
    · rw [if_neg (by omega)]
    · rw [decide_eq_true h1, Bool.true_and]
      by_cases h2 : ∀ i, i < l.length → okK l i = true
      · rw [if_pos (fun i _ hi => h2 i hi), decide_eq_true h2]
      · rw [if_neg (fun h3 => h2 fun i hi => h3 i (by omega) hi), decide_eq_false h2]
  · rw [decide_eq_false h1, Bool.false_and]
    by_cases h2 : (l.length : Int) < 1
    · rw [if_pos h2]; rfl
    · rw [if_neg h2, Option.bind_some, decide_eq_true (by omega), if_pos rfl]
theorem l04Keys_eq : spec_l04Keys l = some (vks l) := by
  have hl := h.1
  unfold spec_l04Keys vks
  refine (scan (s := 0) (n := l.length) (c := okK l) (r := false) (by omega) (by omega) (fun i _ hi => ?_) ?_).trans ?_
  · rw [if_pos (by omega), at_gd hi, Option.bind_some]
    refine (congrArg (fun o => Option.bind o _) (keyStep h (g := spec_l00In) l00In_d (fun j hj => l04Ok_eq hj) hi)).trans ?_
    rw [Option.bind_some, w64_id (by omega) (by omega)]
    cases okK l i <;> rfl
  · rw [if_neg (by omega)]
  · rw [l00In_d, Option.bind_some]
    by_cases h2 : ∀ i, i < l.length → okK l i = true
    · rw [if_pos (fun i _ hi => h2 i hi), decide_eq_true h2, Bool.and_true]; exact congrArg some (decide_eq_decide.2 (by omega))
    · rw [if_neg (fun h3 => h2 fun i hi => h3 i (by omega) hi), decide_eq_false h2, Bool.and_false]
end
/- keys that are valid -/
structure VK (l : List GKeyPose) : Prop where
  n1 : 1 ≤ l.length
  n2 : l.length ≤ 10
  t : ∀ i, i < l.length → 0 ≤ (gd l i).Tick ∧ (gd l i).Tick ≤ 10000
  v : ∀ i, i < l.length → vps (gd l i).Joints = true
  e : ∀ i, i < l.length → (gd l i).Joints.length = (gd l 0).Joints.length
  m : ∀ i, 0 < i → i < l.length → (gd l (i - 1)).Tick < (gd l i).Tick
theorem vk_iff {l : List GKeyPose} : vks l = true ↔ VK l := by
  rw [vks_iff]
  constructor
  · rintro ⟨⟨h1, h2⟩, h3⟩
    have h4 := fun i hi => h3 i hi
    simp only [okK, Bool.and_eq_true, decide_eq_true_eq] at h4
    exact ⟨h1, h2, fun i hi => (h4 i hi).1, fun i hi => (h4 i hi).2.1, fun i hi => (h4 i hi).2.2.1, fun i h0 hi => by have := (h4 i hi).2.2.2; omega⟩
  · intro h
    refine ⟨⟨h.n1, h.n2⟩, fun i hi => ?_⟩
    simp only [okK, Bool.and_eq_true, decide_eq_true_eq]
    refine ⟨h.t i hi, h.v i hi, h.e i hi, ?_⟩
    by_cases h0 : i = 0
    · exact .inl h0
    · exact .inr (h.m i (by omega) hi)
theorem VK.mono {l : List GKeyPose} (h : VK l) {i : Nat} : ∀ {j : Nat}, i < j → j < l.length → (gd l i).Tick < (gd l j).Tick
  | j + 1, hij, hj => by
    have h1 := h.m (j + 1) (by omega) hj
    simp only [Nat.add_sub_cancel] at h1
    rcases Nat.lt_or_ge i j with h2 | h2
    · have := h.mono (i := i) h2 (by omega); omega
    · rw [show i = j by omega]; exact h1
/-- the pose at a tick, told -/
def PAt (l : List GKeyPose) (t : Int) (r : List GPoint) : Prop :=
  (∃ k, k < l.length ∧ (gd l k).Tick = t ∧ r = (gd l k).Joints) ∨ ∃ k, k + 1 < l.length ∧ (gd l k).Tick < t ∧ t < (gd l (k + 1)).Tick ∧ r = bt (gd l k).Joints (gd l (k + 1)).Joints (t - (gd l k).Tick) ((gd l (k + 1)).Tick - (gd l k).Tick)
theorem VK.inj {l : List GKeyPose} (h : VK l) {i j : Nat} (hi : i < l.length) (hj : j < l.length) (he : (gd l i).Tick = (gd l j).Tick) : i = j := by
  rcases Nat.lt_trichotomy i j with h1 | h1 | h1
  · have := h.mono h1 hj; omega
  · exact h1
  · have := h.mono h1 hi; omega
theorem VK.lt {l : List GKeyPose} (h : VK l) {i j : Nat} (hi : i < l.length) (hj : j < l.length) (he : (gd l i).Tick < (gd l j).Tick) : i < j := by
  rcases Nat.lt_trichotomy i j with h1 | h1 | h1
  · exact h1
  · subst h1; omega
  · have := h.mono h1 hi; omega
theorem PAt.uniq {l : List GKeyPose} (h : VK l) {t : Int} {r r' : List GPoint} (h1 : PAt l t r) (h2 : PAt l t r') : r = r' := by
  rcases h1 with ⟨k, k1, k2, rfl⟩ | ⟨k, k1, k2, k3, rfl⟩ <;> rcases h2 with ⟨q, q1, q2, rfl⟩ | ⟨q, q1, q2, q3, rfl⟩
  · rw [h.inj k1 q1 (by omega)]
  · have := h.lt (i := q) (j := k) (by omega) (by omega) (by omega)
    have := h.lt (i := k) (j := q + 1) (by omega) (by omega) (by omega)
    omega
  · have := h.lt (i := k) (j := q) (by omega) (by omega) (by omega)
    have := h.lt (i := q) (j := k + 1) (by omega) (by omega) (by omega)
    omega
  · have := h.lt (i := k) (j := q + 1) (by omega) (by omega) (by omega)
    have := h.lt (i := q) (j := k + 1) (by omega) (by omega) (by omega)
    obtain rfl : k = q := by omega
    rfl
section
variable {l : List GKeyPose} (h : VK l) {t : Int} (t0 : (gd l 0).Tick ≤ t) (t1 : t ≤ (gd l (l.length - 1)).Tick)
include h t0 t1
theorem poseAt_ok : wp (impl_poseAt l t) (PAt l t) := by
  have n1 := h.n1
  have n2 := h.n2
  unfold impl_poseAt
  refine wp_loop (fun i : Int => ∃ k : Nat, i = (k : Int) ∧ 1 ≤ k ∧ k ≤ l.length ∧ (gd l (k - 1)).Tick ≤ t) (fun i => (l.length - i).toNat) ⟨1, rfl, by omega, by omega, by simpa using t0⟩ (by omega) ?_
  rintro _ ⟨k, rfl, k1, k2, k3⟩
  refine wp_ite (fun hk => ?_) (fun hk => ?_)
  · have hk' : k < l.length := by omega
    have hm := h.m k (by omega) hk'
    have b0 := h.t k hk'
    have b1 := h.t (k - 1) (by omega)
    rw [at_gd hk', Option.bind_some]
    refine wp_ite (fun hlt => ?_) (fun hlt => ?_)
    · rw [w64_id (n := (k : Int) - 1) (by omega) (by omega), show (k : Int) - 1 = ((k - 1 : Nat) : Int) by omega, at_gd (by omega), Option.bind_some, Option.bind_some, Option.bind_some, Option.bind_some, Option.bind_some,
        w64_id (n := t - (gd l (k - 1)).Tick) (by omega) (by omega), w64_id (n := (gd l k).Tick - (gd l (k - 1)).Tick) (by omega) (by omega),
        between_eq (h.v _ (by omega)) (h.v _ hk') (by rw [h.e _ (by omega), h.e _ hk']) (by omega) (by omega), Option.bind_some]
      refine wp_some (wp_some ?_)
      by_cases he : (gd l (k - 1)).Tick = t
      · refine .inl ⟨k - 1, by omega, he, ?_⟩
        rw [he, Int.sub_self, bt_lo (by omega)]
      · refine .inr ⟨k - 1, by omega, by omega, by rw [show k - 1 + 1 = k by omega]; omega, by rw [show k - 1 + 1 = k by omega]⟩
    · rw [w64_id (by omega) (by omega)]
      exact wp_some ⟨⟨k + 1, rfl, by omega, by omega, by simpa using Int.not_lt.1 hlt⟩, by omega⟩
  · obtain rfl : k = l.length := by omega
    refine wp_some ?_
    rw [w64_id (by omega) (by omega), show (l.length : Int) - 1 = ((l.length - 1 : Nat) : Int) by omega, at_gd (by omega), Option.bind_some]
    have hv := vps_len (h.v (l.length - 1) (by omega))
    unfold cloneL
    rw [if_pos (by omega), Option.bind_some]
    exact wp_some (.inl ⟨l.length - 1, by omega, by omega, rfl⟩)
theorem l04At_ok : wp (spec_l04At l t) (PAt l t) := by
  have n1 := h.n1
  have n2 := h.n2
  unfold spec_l04At
  refine wp_loop (fun i : Int => ∃ k : Nat, i = (k : Int) ∧ 1 ≤ k ∧ k ≤ l.length ∧ (gd l (k - 1)).Tick ≤ t ∧ (1 < k → (gd l (k - 1)).Tick < t)) (fun i => (l.length - i).toNat) ⟨1, rfl, by omega, by omega, by simpa using t0, by omega⟩ (by omega) ?_
  rintro _ ⟨k, rfl, k1, k2, k3, k4⟩
  refine wp_ite (fun hk => ?_) (fun hk => ?_)
  · have hk' : k < l.length := by omega
    have hm := h.m k (by omega) hk'
    have b0 := h.t k hk'
    have b1 := h.t (k - 1) (by omega)
    rw [w64_id (n := (k : Int) - 1) (by omega) (by omega), show (k : Int) - 1 = ((k - 1 : Nat) : Int) by omega, at_gd (i := k - 1) (by omega), Option.bind_some, at_gd hk', Option.bind_some]
    refine wp_ite (fun hlt => ?_) (fun hlt => ?_)
    · rw [w64_id (n := t - (gd l (k - 1)).Tick) (by omega) (by omega), w64_id (n := (gd l k).Tick - (gd l (k - 1)).Tick) (by omega) (by omega),
        l04Between_eq (h.v _ (by omega)) (h.v _ hk') (by rw [h.e _ (by omega), h.e _ hk']) (by omega) (by omega), Option.bind_some]
      refine wp_some (wp_some ?_)
      by_cases he : (gd l (k - 1)).Tick = t
      · refine .inl ⟨k - 1, by omega, he, ?_⟩
        rw [he, Int.sub_self, bt_lo (by omega)]
      · by_cases he2 : (gd l k).Tick = t
        · refine .inl ⟨k, by omega, he2, ?_⟩
          rw [← he2, bt_hi (by omega) (by rw [h.e _ (by omega), h.e _ hk'])]
        · refine .inr ⟨k - 1, by omega, by omega, by rw [show k - 1 + 1 = k by omega]; omega, by rw [show k - 1 + 1 = k by omega]⟩
    · rw [w64_id (by omega) (by omega)]
      refine wp_some ⟨⟨k + 1, rfl, by omega, by omega, ?_, fun _ => ?_⟩, by omega⟩ <;> simp only [Nat.add_sub_cancel] <;> omega
  · obtain rfl : k = l.length := by omega
    refine wp_some ?_
    have hone : l.length = 1 := by
      refine Classical.byContradiction fun hc => ?_
      have := k4 (by omega)
      omega
    rw [show at? l 0 = some (gd l 0) from at_gd (show 0 < l.length by omega), Option.bind_some]
    have hv := vps_len (h.v 0 (by omega))
    rw [app_ok (by simp; omega), Option.bind_some, List.nil_append]
    refine wp_some (.inl ⟨0, by omega, ?_, rfl⟩)
    rw [hone] at t1
    simp only [Nat.sub_self] at t1; omega
end
/-- what both ways of asking give -/
theorem poses_same {l : List GKeyPose} (h : VK l) {t : Int} (t0 : (gd l 0).Tick ≤ t) (t1 : t ≤ (gd l (l.length - 1)).Tick) : ∃ r, impl_poseAt l t = some r ∧ spec_l04At l t = some r ∧ PAt l t r := by
  obtain ⟨r, h1, h2⟩ := poseAt_ok h t0 t1
  obtain ⟨r', h3, h4⟩ := l04At_ok h t0 t1
  exact ⟨r, h1, by rw [h3, h4.uniq h h2], h2⟩
theorem PAt.len {l : List GKeyPose} (h : VK l) {t : Int} {r : List GPoint} (hr : PAt l t r) : r.length ≤ 8 := by
  rcases hr with ⟨k, k1, k2, rfl⟩ | ⟨k, k1, k2, k3, rfl⟩
  · exact (vps_len (h.v k k1)).2
  · unfold bt; rw [tab_length]; exact (vps_len (h.v k (by omega))).2
theorem PoseAt_same {l : List GKeyPose} (hs : smallK l) (t : Int) : ∃ r c, impl_PoseAt l t = some (r, c) ∧ spec_PoseAt l t = some (r, c) ∧ r.length ≤ 8 ∧ (c = 0 → VK l ∧ PAt l t r) ∧ (VK l → (gd l 0).Tick ≤ t → t ≤ (gd l (l.length - 1)).Tick → c = 0) := by
  unfold impl_PoseAt spec_PoseAt
  rw [ValidKeys_eq hs, l04Keys_eq hs, Option.bind_some, Option.bind_some]
  cases hv : vks l with
  | false => exact ⟨[], 1, rfl, rfl, by simp, by simp, fun h => by rw [vk_iff.2 h] at hv; cases hv⟩
  | true =>
    have h := vk_iff.1 hv
    have n1 := h.n1
    have n2 := h.n2
    simp only [if_true]
    rw [show at? l 0 = some (gd l 0) from at_gd (show 0 < l.length by omega), Option.bind_some, w64_id (by omega) (by omega), show (l.length : Int) - 1 = ((l.length - 1 : Nat) : Int) by omega, at_gd (by omega), Option.bind_some, Option.bind_some, Option.bind_some, within_d, l00In_d, Option.bind_some, Option.bind_some]
    by_cases ht : (gd l 0).Tick ≤ t ∧ t ≤ (gd l (l.length - 1)).Tick
    · rw [decide_eq_true ht, if_pos rfl, if_pos rfl]
      obtain ⟨r, h1, h2, h3⟩ := poses_same h ht.1 ht.2
      rw [h1, h2]
      exact ⟨r, 0, rfl, rfl, h3.len h, fun _ => ⟨h, h3⟩, fun _ _ _ => rfl⟩
    · rw [decide_eq_false ht]
      exact ⟨[], 2, rfl, rfl, by simp, by simp, fun _ g1 g2 => absurd ⟨g1, g2⟩ ht⟩
theorem SamePose_eq {a b : List GPoint} (ha : a.length ≤ 1000000) : spec_SamePose a b = some (decide (a = b)) := by
  rw [← eqSp a b (by omega)]
  unfold spec_SamePose
  have : ∀ v w : GPoint, (v.X == w.X && (v.Y == w.Y && true)) = decide (v = w) := fun v w => by
    rw [Bool.eq_iff_iff]
    simp only [Bool.and_eq_true, beq_iff_eq, decide_eq_true_eq, Bool.and_true]
    exact ⟨fun h => by obtain ⟨v1, v2⟩ := v; obtain ⟨w1, w2⟩ := w; simp only at h; rw [h.1, h.2], fun h => by rw [h]; exact ⟨rfl, rfl⟩⟩
  simp only [this, decide_eq_true_eq]
theorem eqPose_eq {a b : List GPoint} (ha : a.length ≤ 1000000) : slices_Equal_impl_Point_impl_Point_813 a b = some (decide (a = b)) := by
  rw [← SamePose_eq ha]; rfl
theorem implSamePose_eq {a b : List GPoint} (ha : a.length ≤ 1000000) : impl_SamePose a b = some (decide (a = b)) := by
  unfold impl_SamePose; rw [eqPose_eq ha]; rfl
end Go.Vs.G

namespace Go.Vs.G
open Go Go.Vs
theorem l04New_ok {B : Int} {s : GL00Src} (h : SrcOk B s) (hB : B ≤ 4611686018427300000) {n : Int} (hn : n ≤ 1000) : wp (spec_l04New s n) fun r => r.1.length = n.toNat ∧ SrcOk (B + 4000) r.2 := by
  unfold spec_l04New
  refine wp_loop (fun q : GL00Src × List GPoint × Int => SrcOk (B + 4 * q.2.1.length) q.1 ∧ q.2.1.length + q.2.2.toNat = n.toNat ∧ q.2.2 ≤ n) (fun q => q.2.2.toNat) ⟨h.mono (by simp), by simp, by simp only; omega⟩ (by simp only; omega) ?_
  rintro ⟨s, out, k⟩ ⟨h1, h2, h3⟩
  simp only at h1 h2 h3 ⊢
  refine wp_ite (fun hk => ?_) (fun hk => ?_)
  · refine wp_pick h1 (by omega) fun u s2 _ _ k1 => wp_pick k1 (by omega) fun v s3 _ _ k2 => wp_app (by simp; omega) ?_
    rw [w64_id (by omega) (by omega)]
    exact wp_some ⟨⟨k2.mono (by simp only [List.length_append, List.length_singleton]; omega), by simp only [List.length_append, List.length_singleton]; omega, by simp only; omega⟩, by simp only; omega⟩
  · exact wp_some (wp_some ⟨by simp only; omega, h1.mono (by omega)⟩)
theorem l04Bent_ok {B : Int} {s : GL00Src} (h : SrcOk B s) (hB : B ≤ 4611686018427200000) : wp (spec_l04Bent s) fun r => r.1.length ≤ 9 ∧ SrcOk (B + 5000) r.2 := by
  unfold spec_l04Bent
  refine wp_pick h (by omega) fun u s1 u0 u1 h1 => wp_one h1 (by omega) fun b s2 h2 => ?_
  refine wp_seq (P := fun r => SrcOk (B + 6) r.1 ∧ r.2 ≤ 9) ?_ ?_
  · refine wp_ite (fun _ => wp_among h2 (by omega) (by simp) (by simp) fun v s3 hv h3 => wp_some ⟨h3.mono (by omega), ?_⟩) (fun _ => wp_some ⟨h2.mono (by omega), ?_⟩)
    · simp only [List.mem_cons, List.not_mem_nil, or_false] at hv ⊢; omega
    · simp only; rw [w64_id (by omega) (by omega)]; omega
  · rintro ⟨s3, n⟩ ⟨h3, hn⟩
    simp only at h3 hn ⊢
    refine wp_seq (l04New_ok h3 (by omega) (by omega)) fun r hr => ?_
    obtain ⟨hl, h4⟩ := hr
    refine wp_seq (P := fun q => SrcOk (B + 4010) q.1 ∧ (q.2 = true → 1 ≤ r.1.length)) ?_ ?_
    · refine wp_ite (fun hp => wp_one h4 (by omega) fun c s5 h5 => wp_some ⟨h5.mono (by omega), fun _ => by omega⟩) (fun _ => wp_some ⟨h4.mono (by omega), by simp⟩)
    · rintro ⟨s5, c⟩ ⟨h5, hc⟩
      simp only at h5 hc ⊢
      refine wp_bif (fun hcc => wp_among h5 (by omega) (by simp) (by simp) fun v s6 hv h6 => ?_) (fun _ => wp_some ⟨by simp only; omega, h5.mono (by omega)⟩)
      rw [show at? r.1 0 = some (gd r.1 0) from at_gd (show 0 < r.1.length from hc hcc), Option.bind_some]
      exact wp_some ⟨by simp; omega, h6.mono (by omega)⟩
def smallJ (x : GKeyPose) : Prop := x.Joints.length ≤ 1000
theorem smallK_of {l : List GKeyPose} (h : l.length ≤ 1000) (h2 : ∀ x, x ∈ l → smallJ x) : smallK l := ⟨h, fun i hi => h2 _ (gd_mem hi)⟩
theorem l04Draw_ok {B : Int} {s : GL00Src} (h : SrcOk B s) (hB : B ≤ 4611686018427000000) : wp (spec_l04Draw s) fun r => r.1.length ≤ 11 ∧ (∀ x, x ∈ r.1 → smallJ x) ∧ SrcOk (B + 100000) r.2 := by
  unfold spec_l04Draw
  refine wp_pick h (by omega) fun j s1 j0 j1 h1 => wp_pick h1 (by omega) fun t s2 t0 t1 h2 => wp_pick h2 (by omega) fun n s3 n0 n1 h3 => wp_one h3 (by omega) fun b s4 h4 => ?_
  refine wp_seq (P := fun r => SrcOk (B + 10) r.1 ∧ r.2 ≤ 11) ?_ ?_
  · refine wp_ite (fun _ => wp_among h4 (by omega) (by simp) (by simp) fun v s5 hv h5 => wp_some ⟨h5.mono (by omega), ?_⟩) (fun _ => wp_some ⟨h4.mono (by omega), ?_⟩)
    · simp only [List.mem_cons, List.not_mem_nil, or_false] at hv ⊢; omega
    · simp only; rw [w64_id (by omega) (by omega)]; omega
  · rintro ⟨s5, n⟩ ⟨h5, hn⟩
    simp only at h5 hn ⊢
    refine wp_loop (fun q : GL00Src × List GKeyPose × Int × Int => SrcOk (B + 10 + 5000 * q.2.1.length) q.1 ∧ q.2.1.length + q.2.2.2.toNat = n.toNat ∧ q.2.2.2 ≤ n ∧ ∀ x, x ∈ q.2.1 → smallJ x) (fun q => q.2.2.2.toNat) ⟨h5.mono (by simp), by simp, by simp only; omega, by simp⟩ (by simp only; omega) ?_
    rintro ⟨s6, out, tick, k⟩ ⟨g1, g2, g3, g4⟩
    simp only at g1 g2 g3 g4 ⊢
    refine wp_ite (fun hk => ?_) (fun hk => ?_)
    · rw [w64_id (n := 1 + j) (by omega) (by omega)]
      refine wp_seq (l04New_ok g1 (by omega) (by omega)) fun r hr => ?_
      obtain ⟨hl, k1⟩ := hr
      refine wp_seq (P := fun q => SrcOk (B + 10 + 5000 * out.length + 4002) q.1 ∧ (q.2 = true → 1 ≤ out.length)) ?_ ?_
      · refine wp_ite (fun hp => wp_one k1 (by omega) fun c s7 h7 => wp_some ⟨h7.mono (by omega), fun _ => by omega⟩) (fun _ => wp_some ⟨k1.mono (by omega), by simp⟩)
      · rintro ⟨s7, c⟩ ⟨h7, hc⟩
        simp only at h7 hc ⊢
        refine wp_seq (P := fun q => q.length ≤ 1000) ?_ fun x hx => ?_
        · refine wp_bif (fun hcc => ?_) (fun _ => wp_some (by omega))
          have := hc hcc
          have hmem := g4 _ (gd_mem (l := out) (i := out.length - 1) (by omega))
          unfold smallJ at hmem
          rw [w64_id (by omega) (by omega), show (out.length : Int) - 1 = ((out.length - 1 : Nat) : Int) by omega, at_gd (by omega), Option.bind_some, app_ok (by simp; omega)]
          exact wp_some (by simp; omega)
        · refine wp_app (by simp; omega) (wp_pick h7 (by omega) fun v s8 v0 v1 h8 => ?_)
          rw [w64_id (n := k - 1) (by omega) (by omega)]
          refine wp_some ⟨⟨h8.mono (by simp only [List.length_append, List.length_singleton]; omega), by simp only [List.length_append, List.length_singleton]; omega, by simp only; omega, fun y hy => ?_⟩, by simp only; omega⟩
          rcases List.mem_append.1 hy with hy | hy
          · exact g4 y hy
          · rw [List.mem_singleton.1 hy]; exact hx
    · have hfin : ∀ (i : Nat) (z : GKeyPose), smallJ z → ∀ x, x ∈ out.set i z → smallJ x := fun i z hz x hx => by
        rcases List.mem_or_eq_of_mem_set hx with hx | hx
        · exact g4 x hx
        · rw [hx]; exact hz
      refine wp_some (wp_ite (fun hp => ?_) (fun _ => wp_some ⟨by simp only; omega, g4, g1.mono (by omega)⟩))
      refine wp_pick g1 (by omega) fun u s7 u0 u1 h7 => ?_
      have hu : u.toNat < out.length := by omega
      simp only
      rw [show u = ((u.toNat : Nat) : Int) by omega, at_gd hu, Option.bind_some]
      have hz := g4 _ (gd_mem hu)
      refine wp_pick h7 (by omega) fun w s8 w0 w1 h8 => wp_ite (fun _ => wp_among h8 (by omega) (by simp) (by simp) fun v s9 hv h9 => wp_some ⟨by simp only [List.length_set]; omega, hfin _ _ hz, h9.mono (by omega)⟩)
        (fun _ => wp_ite (fun _ => wp_seq (l04Bent_ok h8 (by omega)) fun r hr => wp_some ⟨by simp only [List.length_set]; omega, hfin _ _ (by unfold smallJ; simp only; omega), hr.2.mono (by omega)⟩) (fun _ => wp_some ⟨by simp only; omega, g4, h8.mono (by omega)⟩))
theorem l04Pair_ok {B : Int} {s : GL00Src} (h : SrcOk B s) (hB : B ≤ 4611686018427000000) : wp (spec_l04Pair s) fun r => r.1.length ≤ 9 ∧ r.2.1.length ≤ 9 ∧ SrcOk (B + 100000) r.2.2 := by
  unfold spec_l04Pair
  refine wp_seq (l04Bent_ok h (by omega)) fun a ha => wp_one ha.2 (by omega) fun b s1 h1 => wp_ite (fun _ => wp_seq (l04Bent_ok h1 (by omega)) fun c hc => wp_some ⟨ha.1, hc.1, hc.2.mono (by omega)⟩)
    (fun _ => wp_seq (l04New_ok h1 (by omega) (by omega)) fun c hc => wp_some ⟨ha.1, by have := hc.1; simp only; omega, hc.2.mono (by omega)⟩)
section
variable {code : List Int} (hc : okL (okI .u8) code) (hl : code.length ≤ 1000000)
include hc hl
theorem DrawPoseBetween_ok : wp (spec_DrawPoseBetween code) fun r => r.1.length ≤ 9 ∧ r.2.1.length ≤ 9 := by
  unfold spec_DrawPoseBetween
  refine wp_from hc hl fun s hs => wp_seq (l04Pair_ok hs (by omega)) fun r hr => wp_pick hr.2.2 (by omega) fun p s1 p0 p1 h1 => wp_one h1 (by omega) fun b s2 h2 => ?_
  refine wp_seq (P := fun q => SrcOk 200000 q.1) (wp_ite (fun _ => wp_among h2 (by omega) (by simp) (by simp) fun v s3 hv h3 => wp_some (h3.mono (by omega))) (fun _ => wp_some (h2.mono (by omega)))) ?_
  rintro ⟨s3, n⟩ h3
  simp only at h3 ⊢
  refine wp_one h3 (by omega) fun c s4 h4 => wp_ite (fun _ => wp_among h4 (by omega) (by simp) (by simp) fun v s5 hv h5 => wp_some ⟨hr.1, hr.2.1⟩) (fun _ => ?_)
  refine wp_seq (P := fun _ => True) (by unfold spec_l00Max; exact wp_ite (fun _ => wp_some trivial) (fun _ => wp_some trivial)) fun m _ => ?_
  exact wp_pick h4 (by omega) fun v s5 _ _ h5 => wp_some ⟨hr.1, hr.2.1⟩
theorem DrawPoseAt_ok : wp (spec_DrawPoseAt code) fun r => smallK r.1 := by
  unfold spec_DrawPoseAt
  exact wp_from hc hl fun s hs => wp_seq (l04Draw_ok hs (by omega)) fun r hr => wp_pick hr.2.2 (by omega) fun p s1 p0 p1 h1 => wp_pick h1 (by omega) fun q s2 _ _ h2 => wp_some (smallK_of (by have := hr.1; simp only; omega) hr.2.1)
theorem DrawMirrorPose_ok : wp (spec_DrawMirrorPose code) fun r => r.1.length ≤ 9 := by
  unfold spec_DrawMirrorPose
  exact wp_from hc hl fun s hs => wp_seq (l04Bent_ok hs (by omega)) fun r hr => wp_one hr.2 (by omega) fun b s1 h1 => wp_ite (fun _ => wp_among h1 (by omega) (by simp) (by simp) fun v s2 hv h2 => wp_some hr.1) (fun _ => wp_pick h1 (by omega) fun v s2 _ _ h2 => wp_some hr.1)
theorem DrawGreatestMove_ok : wp (spec_DrawGreatestMove code) fun r => r.1.length ≤ 9 ∧ r.2.length ≤ 9 := by
  unfold spec_DrawGreatestMove
  exact wp_from hc hl fun s hs => wp_seq (l04Pair_ok hs (by omega)) fun r hr => wp_some ⟨hr.1, hr.2.1⟩
theorem DrawSamePose_ok : wp (spec_DrawSamePose code) fun r => r.1.length ≤ 9 ∧ r.2.length ≤ 10 := by
  unfold spec_DrawSamePose
  refine wp_from hc hl fun s hs => wp_seq (l04Bent_ok hs (by omega)) fun r hr => ?_
  rw [app_ok (by have := hr.1; simp; omega), Option.bind_some, List.nil_append]
  refine wp_seq (P := fun q => SrcOk 5002 q.1 ∧ (q.2 = true → 1 ≤ r.1.length)) ?_ ?_
  · exact wp_ite (fun hp => wp_one hr.2 (by omega) fun c s5 h5 => wp_some ⟨h5.mono (by omega), fun _ => by omega⟩) (fun _ => wp_some ⟨hr.2.mono (by omega), by simp⟩)
  · rintro ⟨s1, x⟩ ⟨h1, hx⟩
    simp only at h1 hx ⊢
    refine wp_seq (P := fun q => SrcOk 5004 q.1 ∧ q.2.length ≤ 9) ?_ ?_
    · refine wp_bif (fun hxx => ?_) (fun _ => wp_some ⟨h1.mono (by omega), hr.1⟩)
      rw [show at? r.1 0 = some (gd r.1 0) from at_gd (show 0 < r.1.length from hx hxx), Option.bind_some]
      exact wp_pick h1 (by omega) fun v s2 _ _ h2 => wp_some ⟨h2, by simp only [List.length_set]; exact hr.1⟩
    · rintro ⟨s2, b⟩ ⟨h2, hb⟩
      simp only at h2 hb ⊢
      exact wp_one h2 (by omega) fun c s3 h3 => wp_ite (fun _ => wp_app (by simp; omega) (wp_some ⟨hr.1, by simp; omega⟩)) (fun _ => wp_some ⟨hr.1, by simp only; omega⟩)
end
/- the functions -/
theorem Between_same {a b : List GPoint} (ha : a.length ≤ 1000) (hb : b.length ≤ 1000) (p n : Int) : ∃ r c, impl_PoseBetween a b p n = some (r, c) ∧ spec_PoseBetween a b p n = some (r, c) ∧ r.length ≤ 8 ∧
    (c = 0 → vps a = true ∧ vps b = true ∧ a.length = b.length ∧ (0 ≤ p ∧ p ≤ n) ∧ (1 ≤ n ∧ n ≤ 10000) ∧ r = bt a b p n) := by
  unfold impl_PoseBetween spec_PoseBetween spec_l04Two
  simp only [ValidPose_eq (show a.length ≤ 1000000 by omega), ValidPose_eq (show b.length ≤ 1000000 by omega), l04Ok_eq (show a.length ≤ 1000000 by omega), l04Ok_eq (show b.length ≤ 1000000 by omega), within_d, l00In_d, Option.bind_some]
  cases hva : vps a with
  | false => exact ⟨[], 1, rfl, rfl, by simp, by simp⟩
  | true =>
  cases hvb : vps b with
  | false => exact ⟨[], 1, rfl, rfl, by simp, by simp⟩
  | true =>
  by_cases hn : 1 ≤ n ∧ n ≤ 10000
  · rw [decide_eq_true hn]
    by_cases hp : 0 ≤ p ∧ p ≤ n
    · rw [decide_eq_true hp]
      by_cases hle : a.length = b.length
      · simp only [hle, if_true, Option.bind_some, Bool.not_true, Bool.false_eq_true, if_false, decide_true, between_eq hva hvb hle hp hn, l04Between_eq hva hvb hle hp hn]
        refine ⟨_, 0, rfl, rfl, ?_, fun _ => ⟨trivial, trivial, trivial, hp, hn, rfl⟩⟩
        unfold bt; rw [tab_length]; exact (vps_len hva).2
      · have : ¬ (a.length : Int) = (b.length : Int) := by omega
        simp only [this, if_true, Option.bind_some, Bool.not_true, Bool.false_eq_true, if_false, decide_false, Bool.not_false]
        exact ⟨[], 8, rfl, rfl, by simp, by simp⟩
    · rw [decide_eq_false hp]; exact ⟨[], 2, rfl, rfl, by simp, by simp⟩
  · rw [decide_eq_false hn]; exact ⟨[], 2, rfl, rfl, by simp, by simp⟩
def mir (w : Int) (p : GPoint) : GPoint := GPoint.mk (w - p.X) p.Y
open Classical in
noncomputable def mirR (j : List GPoint) (w : Int) : List GPoint × Int :=
  if vps j = true then (if 0 ≤ w ∧ w ≤ 1000 then (if ∀ p, p ∈ j → p.X ≤ w then (j.map (mir w), 0) else ([], 6)) else ([], 2)) else ([], 1)
theorem mirLoop {j : List GPoint} {w : Int} (hv : vps j = true) (hw : 0 ≤ w ∧ w ≤ 1000) {body : List GPoint × Int → Option (Step (List GPoint × Int) (List GPoint) (List GPoint × Int))}
    (hb : ∀ (out : List GPoint) (i : Nat), out.length = i → body (out, (i : Int)) = if h : i < j.length then (if (gd j i).X > w then some (.ret ([], 6)) else some (.next (out ++ [mir w (gd j i)], (i : Int) + 1))) else some (.brk out)) :
    onL (loop body loopLim ([], 0)) (fun out => some (out, 0)) (fun r => some r) = some (mirR j w) := by
  have hl := vps_len hv
  refine eq_of_wp ?_
  refine wp_loop (fun q : List GPoint × Int => ∃ k : Nat, q.2 = (k : Int) ∧ k ≤ j.length ∧ q.1 = (j.take k).map (mir w) ∧ ∀ i, i < k → (gd j i).X ≤ w) (fun q => (j.length - q.2).toNat) ⟨0, rfl, by omega, by simp, by omega⟩ (by simp only; omega) ?_
  rintro ⟨out, i⟩ ⟨k, rfl, hk, rfl, hall⟩
  simp only
  rw [hb _ k (by simp; omega)]
  by_cases h : k < j.length
  · rw [dif_pos h]
    refine wp_ite (fun hx => ?_) (fun hx => ?_)
    · refine wp_some (wp_some ?_)
      unfold mirR
      rw [if_pos hv, if_pos hw, if_neg (fun hc => by have := hc _ (gd_mem h); omega)]
    · refine wp_some ⟨⟨k + 1, by simp, by omega, ?_, fun i hi => ?_⟩, by simp only; omega⟩
      · simp only; rw [gd_of h]; exact take_succ_map h
      · rcases Nat.lt_or_ge i k with h1 | h1
        · exact hall i h1
        · rw [show i = k by omega]; omega
  · rw [dif_neg h]
    obtain rfl : k = j.length := by omega
    refine wp_some (wp_some ?_)
    unfold mirR
    rw [if_pos hv, if_pos hw, if_pos (fun p hp => by obtain ⟨i, hi, rfl⟩ := mem_gd hp; exact hall i hi)]
    simp
theorem mirror_eq {j : List GPoint} (hl : j.length ≤ 1000) (w : Int) : impl_MirrorPose j w = some (mirR j w) ∧ spec_MirrorPose j w = some (mirR j w) := by
  unfold impl_MirrorPose spec_MirrorPose
  rw [ValidPose_eq (show j.length ≤ 1000000 by omega), l04Ok_eq (show j.length ≤ 1000000 by omega), within_d, l00In_d]
  simp only [Option.bind_some]
  cases hv : vps j with
  | false => simp [mirR, hv]
  | true =>
  by_cases hw : 0 ≤ w ∧ w ≤ 1000
  · simp only [decide_eq_true hw, if_true]
    constructor
    · refine mirLoop hv hw fun out i ho => ?_
      simp only
      by_cases h : i < j.length
      · have hp := vps_pt hv h
        have hm := vps_len hv
        rw [if_pos (by omega), dif_pos h, at_gd h, Option.bind_some]
        by_cases hx : (gd j i).X > w
        · rw [if_pos hx, if_pos hx]
        · rw [if_neg hx, if_neg hx, app_ok (by simp; omega), Option.bind_some, w64_id (n := (i : Int) + 1) (by omega) (by omega), w64_id (by omega) (by omega)]; rfl
      · rw [if_neg (by omega), dif_neg h]
    · refine mirLoop hv hw fun out i ho => ?_
      simp only
      by_cases h : i < j.length
      · have hp := vps_pt hv h
        have hm := vps_len hv
        rw [if_pos (by omega), dif_pos h, at_gd h, Option.bind_some]
        by_cases hx : (gd j i).X > w
        · rw [if_pos hx, if_pos hx]
        · rw [if_neg hx, if_neg hx, Option.bind_some, Option.bind_some, app_ok (by simp; omega), Option.bind_some, w64_id (n := (i : Int) + 1) (by omega) (by omega), w64_id (by omega) (by omega)]; rfl
      · rw [if_neg (by omega), dif_neg h]
  · simp only [decide_eq_false hw]
    simp [mirR, hv, hw]
theorem mirR_len (j : List GPoint) (w : Int) : (mirR j w).1.length ≤ 8 := by
  unfold mirR
  split
  · rename_i hv
    split
    · split
      · simp only [List.length_map]; exact (vps_len hv).2
      · simp
    · simp
  · simp
theorem mirR_twice {j : List GPoint} {w : Int} (h : (mirR j w).2 = 0) : mirR (mirR j w).1 w = (j, 0) := by
  unfold mirR at h
  by_cases hv : vps j = true
  · by_cases hw : 0 ≤ w ∧ w ≤ 1000
    · by_cases hx : ∀ p, p ∈ j → p.X ≤ w
      · have e : (mirR j w).1 = j.map (mir w) := by unfold mirR; rw [if_pos hv, if_pos hw, if_pos hx]
        rw [e]
        have hv2 : vps (j.map (mir w)) = true := vps_of (by simpa using vps_len hv) fun i hi => by
          have hi2 : i < j.length := by simpa using hi
          have h1 := vps_pt hv hi2
          have h2 := hx _ (gd_mem hi2)
          rw [gd_map hi2]; unfold mir; simp only; omega
        unfold mirR
        rw [if_pos hv2, if_pos hw, if_pos]
        · rw [List.map_map]
          refine Prod.ext ?_ rfl
          refine Eq.trans (List.map_congr_left (g := id) fun p _ => ?_) (List.map_id _)
          obtain ⟨x, y⟩ := p
          simp only [Function.comp, mir, id]
          congr 1; omega
        · intro p hp
          obtain ⟨q, hq, rfl⟩ := List.mem_map.1 hp
          obtain ⟨i, hi, rfl⟩ := mem_gd hq
          have := vps_pt hv hi
          unfold mir; simp only; omega
      · rw [if_pos hv, if_pos hw, if_neg hx] at h; cases h
    · rw [if_pos hv, if_neg hw] at h; cases h
  · rw [if_neg hv] at h; cases h
theorem greatest_same {a b : List GPoint} (ha : a.length ≤ 1000) (hb : b.length ≤ 1000) : ∃ r, impl_GreatestMove a b = some r ∧ spec_GreatestMove a b = some r := by
  have h1 : wp (impl_GreatestMove a b) fun _ => True := by
    unfold impl_GreatestMove
    rw [ValidPose_eq (show a.length ≤ 1000000 by omega), ValidPose_eq (show b.length ≤ 1000000 by omega)]
    simp only [Option.bind_some]
    cases hva : vps a with
    | false => exact wp_some trivial
    | true =>
    cases hvb : vps b with
    | false => exact wp_some trivial
    | true =>
    simp only [if_true, Bool.not_true, Option.bind_some, Bool.false_eq_true, if_false]
    refine wp_ite (fun hle => ?_) (fun _ => wp_some trivial)
    refine wp_loop (fun q : Int × Int × Int => ∃ k : Nat, q.2.2 = (k : Int) ∧ k ≤ a.length) (fun q => (a.length - q.2.2).toNat) ⟨0, rfl, by omega⟩ (by simp only; omega) ?_
    rintro ⟨x, y, i⟩ ⟨k, rfl, hk⟩
    simp only
    refine wp_ite (fun hlt => ?_) (fun _ => wp_some (wp_some trivial))
    rw [at_gd (l := a) (by omega), at_gd (l := b) (by omega), Option.bind_some, Option.bind_some, Option.bind_some, Option.bind_some, w64_id (n := (k : Int) + 1) (by omega) (by omega)]
    exact wp_ite (fun _ => wp_some ⟨⟨k + 1, rfl, by omega⟩, by simp only; omega⟩) (fun _ => wp_some ⟨⟨k + 1, rfl, by omega⟩, by simp only; omega⟩)
  obtain ⟨r, hr, _⟩ := h1
  refine ⟨r, hr, ?_⟩
  rw [← hr]
  unfold impl_GreatestMove spec_GreatestMove spec_l04Two
  rw [ValidPose_eq (show a.length ≤ 1000000 by omega), ValidPose_eq (show b.length ≤ 1000000 by omega), l04Ok_eq (show a.length ≤ 1000000 by omega), l04Ok_eq (show b.length ≤ 1000000 by omega)]
  simp only [Option.bind_some]
  cases vps a with
  | false => rfl
  | true =>
  cases vps b with
  | false => rfl
  | true =>
  by_cases hle : (a.length : Int) = (b.length : Int)
  · rw [decide_eq_true hle, if_pos hle]; rfl
  · rw [decide_eq_false hle, if_neg hle]; rfl
end Go.Vs.G

namespace Go.Vs.G
open Go Go.Vs
theorem laws_FnPoses_true {code : List Int} (hc : okL (okI .u8) code) : laws_FnPoses code = some true := by
  unfold laws_FnPoses laws_f6big
  rw [Option.bind_some]
  by_cases hbig : (code.length : Int) > 4096
  · rw [decide_eq_true hbig]; rfl
  rw [decide_eq_false hbig, if_neg (by simp)]
  have hl : code.length ≤ 1000000 := by omega
  obtain ⟨r2, e2, a2, b2⟩ := DrawPoseBetween_ok hc hl
  obtain ⟨r3, c3, e3, e4, l3, k3⟩ := Between_same (a := r2.1) (b := r2.2.1) (by omega) (by omega) r2.2.2.1 r2.2.2.2
  obtain ⟨r5, e5, s5⟩ := DrawPoseAt_ok hc hl
  obtain ⟨r6, c6, e6, e7, l6, k6, k7⟩ := PoseAt_same s5 r5.2
  obtain ⟨r8, e8, l8⟩ := DrawMirrorPose_ok hc hl
  obtain ⟨e9, e10⟩ := mirror_eq (j := r8.1) (by omega) r8.2
  obtain ⟨r11, e11, a11, b11⟩ := DrawGreatestMove_ok hc hl
  obtain ⟨r12, e12, e13⟩ := greatest_same (a := r11.1) (b := r11.2) (by omega) (by omega)
  obtain ⟨r14, e14, a14, b14⟩ := DrawSamePose_ok hc hl
  have l9 := mirR_len r8.1 r8.2
  rw [e2, Option.bind_some, e3, Option.bind_some, e4, Option.bind_some, e5, Option.bind_some, e6, Option.bind_some, e7, Option.bind_some, e8, Option.bind_some, e9, Option.bind_some, e10, Option.bind_some, e11, Option.bind_some, e12, Option.bind_some, e13, Option.bind_some, e14, Option.bind_some]
  simp only [if_true, SamePose_eq (show r3.length ≤ 1000000 by omega), SamePose_eq (show r6.length ≤ 1000000 by omega), SamePose_eq (show (mirR r8.1 r8.2).1.length ≤ 1000000 by omega), SamePose_eq (show r14.1.length ≤ 1000000 by omega), implSamePose_eq (show r14.1.length ≤ 1000000 by omega), Option.bind_some, decide_true, beq_self_eq_true]
  unfold spec_ValidPose spec_ValidKeys
  simp only [ValidPose_eq (show r8.1.length ≤ 1000000 by omega), l04Ok_eq (show r8.1.length ≤ 1000000 by omega), ValidKeys_eq s5, l04Keys_eq s5, Option.bind_some, beq_self_eq_true, if_true, Bool.not_true, Bool.false_eq_true, if_false]
  have hfin : (if c3 = 0 then (onL (loop (S := Int) (B := Unit) (R := Bool) (fun (i2 : Int) =>
      if i2 < (r3.length : Int) then ((at? r3 i2).bind fun v3 => (((at? r2.1 i2).bind fun v4 =>
       (at? r2.2.1 i2).bind fun v5 =>
       if v3.X < (imin v4.X v5.X) then
       (some true)
       else
       (at? r2.1 i2).bind fun v6 =>
       (at? r2.2.1 i2).bind fun v7 =>
       if v3.X > (imax v6.X v7.X) then
       (some true)
       else
       (at? r2.1 i2).bind fun v8 =>
       (at? r2.2.1 i2).bind fun v9 =>
       if v3.Y < (imin v8.Y v9.Y) then
       (some true)
       else
       (at? r2.1 i2).bind fun v10 =>
       (at? r2.2.1 i2).bind fun v11 =>
       some (decide (v3.Y > (imax v10.Y v11.Y)))) : Option Bool).bind fun (x3 : Bool) =>
       if x3 = true then
       (some (.ret false))
       else
       some (.next (w64 (i2 + 1))))
       else
       some (.brk ())) loopLim 0)
       (fun (_ : Unit) => some true) (fun r => some r))
       else
       some true) = some true := by
    by_cases h0 : c3 = 0
    · rw [if_pos h0]
      obtain ⟨q1, q2, q3, q4, q5, rfl⟩ := k3 h0
      have hlen : (bt r2.1 r2.2.1 r2.2.2.1 r2.2.2.2).length = r2.1.length := by unfold bt; rw [tab_length]
      rw [hlen]
      refine eq_of_wp ?_
      refine wp_loop (fun i : Int => ∃ k : Nat, i = (k : Int) ∧ k ≤ r2.1.length) (fun i => (r2.1.length - i).toNat) ⟨0, rfl, by omega⟩ (by omega) ?_
      rintro _ ⟨k, rfl, hk⟩
      refine wp_ite (fun hlt => ?_) (fun _ => wp_some (wp_some rfl))
      have hka : k < r2.1.length := by omega
      have hkb : k < r2.2.1.length := by omega
      rw [at_gd (l := bt _ _ _ _) (by omega), Option.bind_some, at_gd hka, at_gd hkb]
      simp only [Option.bind_some]
      have hg : gd (bt r2.1 r2.2.1 r2.2.2.1 r2.2.2.2) k = GPoint.mk (mid (gd r2.1 k).X (gd r2.2.1 k).X r2.2.2.1 r2.2.2.2) (mid (gd r2.1 k).Y (gd r2.2.1 k).Y r2.2.2.1 r2.2.2.2) := gd_tab hka
      have ha := vps_pt q1 hka
      have hb := vps_pt q2 hkb
      have m1 := mid_bd (x := (gd r2.1 k).X) (y := (gd r2.2.1 k).X) (by omega) (by omega) q4 q5.1
      have m2 := mid_bd (x := (gd r2.1 k).Y) (y := (gd r2.2.1 k).Y) (by omega) (by omega) q4 q5.1
      rw [hg]
      simp only [imin_def, imax_def]
      rw [if_neg (by omega), if_neg (by omega), if_neg (by omega), decide_eq_false (by omega), Option.bind_some, if_neg (by simp), w64_id (by omega) (by omega)]
      exact wp_some ⟨⟨k + 1, rfl, by omega⟩, by omega⟩
    · rw [if_neg h0]
  have hkeys : (if c6 = 0 then
       (onL (loop (S := Int) (B := Unit) (R := Bool) (fun (i1 : Int) =>
       if i1 < (r5.1.length : Int) then
       ((at? r5.1 i1).bind fun v1 =>
       (impl_PoseAt r5.1 v1.Tick).bind fun r26 =>
       ((if r26.2 = 0 then
       ((at? r5.1 i1).bind fun v2 =>
       (spec_SamePose r26.1 v2.Joints).bind fun r27 =>
       some (!r27))
       else
       some true) : Option Bool).bind fun (x2 : Bool) =>
       if x2 = true then
       (some (.ret false))
       else
       some (.next (w64 (i1 + 1))))
       else
       some (.brk ())) loopLim 0)
       (fun (_ : Unit) => some (Step.next (B := Empty) (R := Bool) ())) (fun r => some (Step.ret r)))
       else
       some (.next ())) = some (.next ()) := by
    by_cases h0 : c6 = 0
    · rw [if_pos h0]
      obtain ⟨hv, _⟩ := k6 h0
      have n2 := hv.n2
      refine eq_of_wp ?_
      refine wp_loop (fun i : Int => ∃ k : Nat, i = (k : Int) ∧ k ≤ r5.1.length) (fun i => (r5.1.length - i).toNat) ⟨0, rfl, by omega⟩ (by omega) ?_
      rintro _ ⟨k, rfl, hk⟩
      refine wp_ite (fun hlt => ?_) (fun _ => wp_some (wp_some rfl))
      have hka : k < r5.1.length := by omega
      obtain ⟨r, c, g1, g2, g3, g4, g5⟩ := PoseAt_same s5 (gd r5.1 k).Tick
      have hlo : (gd r5.1 0).Tick ≤ (gd r5.1 k).Tick := by
        rcases Nat.eq_zero_or_pos k with h | h
        · rw [h]; omega
        · have := hv.mono h hka; omega
      have hhi : (gd r5.1 k).Tick ≤ (gd r5.1 (r5.1.length - 1)).Tick := by
        by_cases h : k = r5.1.length - 1
        · rw [← h]; omega
        · have := hv.mono (i := k) (j := r5.1.length - 1) (by omega) (by omega); omega
      have hc0 := g5 hv hlo hhi
      have hp := (g4 hc0).2.uniq hv (.inl ⟨k, hka, rfl, rfl⟩)
      rw [at_gd hka, Option.bind_some, g1, Option.bind_some]
      simp only [hc0, if_true, Option.bind_some]
      rw [SamePose_eq (by omega), Option.bind_some, Option.bind_some, decide_eq_true hp, Bool.not_true, if_neg (by simp), w64_id (by omega) (by omega)]
      exact wp_some ⟨⟨k + 1, rfl, by omega⟩, by omega⟩
    · rw [if_neg h0]
  have hmir : ((if (mirR r8.1 r8.2).2 = 0 then
       ((impl_MirrorPose (mirR r8.1 r8.2).1 r8.2).bind fun r24 =>
       if r24.2 = 0 then
       ((spec_SamePose r24.1 r8.1).bind fun r25 =>
       if r25 = true then
       (some (Step.next (B := Empty) (R := Bool) ()))
       else
       some (.ret false))
       else
       some (.ret false))
       else
       some (.next ()))) = some (.next ()) := by
    by_cases h0 : (mirR r8.1 r8.2).2 = 0
    · rw [if_pos h0, (mirror_eq (by omega) _).1, Option.bind_some, mirR_twice h0]
      simp only [if_true, SamePose_eq (show r8.1.length ≤ 1000000 by omega), Option.bind_some, decide_true]
    · rw [if_neg h0]
  rw [hmir, onS_next, hkeys, onS_next]
  exact hfin
end Go.Vs.G

