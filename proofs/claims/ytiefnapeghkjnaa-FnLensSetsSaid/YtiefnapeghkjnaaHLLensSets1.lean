/- Plain facts about the typed functions, up to the law: no program in sight. No conditions. -/
import Derived.Test.YtiefnapeghkjnaaV5
import Derived.Test.YtiefnapeghkjnaaDLLensSets
namespace Go.Vs
open Go

section
variable {α β S B R : Type}

open Classical in
/-- a loop that looks at each round for a reason to stop -/
theorem scan {body : Int → Option (Step Int Unit R)} {kb : Unit → Option β} {kr : R → Option β} {s n : Nat} {c : Nat → Bool} {r : R} (hs : s ≤ n) (hn : n < 9223372036854775807)
    (hb : ∀ i : Nat, s ≤ i → i < n → body (i : Int) = some (if c i = true then .next ((i : Int) + 1) else .ret r)) (he : body (n : Int) = some (.brk ())) :
    onL (loop body loopLim (s : Int)) kb kr = if ∀ i, s ≤ i → i < n → c i = true then kb () else kr r := by
  by_cases h : ∀ i, s ≤ i → i < n → c i = true
  · rw [if_pos h]
    have := loop_brk (body := body) (fun j => ((s + j : Nat) : Int)) (b := ()) (n - s) (by omega) (fun j hj => by
      rw [hb (s + j) (by omega) (by omega), if_pos (h _ (by omega) (by omega))]; congr 2) (by rw [show s + (n - s) = n by omega]; exact he)
    simp only [Nat.add_zero] at this
    rw [this]; rfl
  · rw [if_neg h]
    have hex : ∃ k, s ≤ k ∧ k < n ∧ c k = false := by
      refine Classical.byContradiction fun hc => h fun i h1 h2 => ?_
      cases hci : c i with
      | true => rfl
      | false => exact absurd ⟨i, h1, h2, hci⟩ hc
    -- the first of them
    have hleast : ∃ k, (s ≤ k ∧ k < n ∧ c k = false) ∧ ∀ j, s ≤ j → j < k → c j = true := by
      obtain ⟨k, hk⟩ := hex
      induction k using Nat.strongRecOn with
      | _ k ih =>
        by_cases hall : ∀ j, s ≤ j → j < k → c j = true
        · exact ⟨k, hk, hall⟩
        · have : ∃ j, s ≤ j ∧ j < k ∧ c j = false := by
            refine Classical.byContradiction fun hc => hall fun i h1 h2 => ?_
            cases hci : c i with
            | true => rfl
            | false => exact absurd ⟨i, h1, h2, hci⟩ hc
          obtain ⟨j, h1, h2, h3⟩ := this
          exact ih j h2 ⟨h1, by omega, h3⟩
    obtain ⟨k, ⟨h1, h2, h3⟩, h4⟩ := hleast
    have := loop_ret' (body := body) (fun j => ((s + j : Nat) : Int)) (r := r) (k - s) (by omega) (fun j hj => by
      rw [hb (s + j) (by omega) (by omega), if_pos (h4 _ (by omega) (by omega))]; congr 2) (by
      rw [show s + (k - s) = k by omega, hb k h1 h2, h3]; rfl)
    simp only [Nat.add_zero] at this
    rw [this]; rfl
theorem w64_succ {i n : Nat} (h : i < n) (hn : n < 9223372036854775807) : w64 ((i : Int) + 1) = (i : Int) + 1 := w64_id (by omega) (by omega)
theorem at_of {l : List α} {i : Nat} (h : i < l.length) : at? l (i : Int) = some l[i] := at_nat h
/-- comparisons element by element -/
theorem eqS {f : α → α → Option Bool} {c : α → α → Bool} (a b : List α) (hf : ∀ x, x ∈ a → ∀ y, y ∈ b → f x y = some (c x y)) (ha : a.length < 9223372036854775807) :
    (if (a.length : Int) = (b.length : Int) then (onL (loop (S := Int) (B := Unit) (R := Bool) (fun (i1 : Int) => if i1 < (a.length : Int) then
      ((at? a i1).bind fun v1 => (at? b i1).bind fun v2 => (f v1 v2).bind fun r1 => if r1 then (some (.next (w64 (i1 + 1)))) else some (.ret false)) else some (.brk ())) loopLim 0) (fun (_ : Unit) => some true) (fun r => some r)) else some false)
      = some (decide (a.length = b.length) && (List.zipWith c a b).all id) := by
  by_cases hl : a.length = b.length
  · rw [if_pos (by omega)]
    have := scan (body := fun (i1 : Int) => if i1 < (a.length : Int) then
      ((at? a i1).bind fun v1 => (at? b i1).bind fun v2 => (f v1 v2).bind fun r1 => if r1 then (some (.next (w64 (i1 + 1)))) else some (.ret false)) else some (.brk ()))
      (kb := fun (_ : Unit) => some true) (kr := fun r => some r) (s := 0) (n := a.length) (c := fun i => if h : i < a.length ∧ i < b.length then c a[i] b[i] else true) (r := false) (by omega) ha ?_ (by simp)
    · simp only [Int.natCast_zero] at this
      refine this.trans ?_
      split
      · rename_i h
        congr 1
        symm
        simp only [Bool.and_eq_true, decide_eq_true_eq, hl, true_and, List.all_eq_true, id]
        intro x hx
        obtain ⟨i, hi, rfl⟩ := List.getElem_of_mem hx
        simp only [List.length_zipWith] at hi
        have := h i (by omega) (by omega)
        simpa [show i < a.length ∧ i < b.length by omega] using this
      · rename_i h
        congr 1
        symm
        simp only [Bool.and_eq_false_iff]
        right
        refine Classical.byContradiction fun hc => h fun i _ hi => ?_
        have hall : (List.zipWith c a b).all id = true := by simpa using hc
        rw [List.all_eq_true] at hall
        have hi2 : i < a.length ∧ i < b.length := ⟨hi, by omega⟩
        have := hall (c a[i] b[i]) (by
          rw [List.mem_iff_getElem]
          exact ⟨i, by simp; omega, by simp⟩)
        simpa [hi2] using this
    · intro i _ hi
      have hib : i < b.length := by omega
      have h1 : (i : Int) < (a.length : Int) := by omega
      simp only [h1, if_true, at_of hi, at_of hib, Option.bind_some, hf _ (List.getElem_mem hi) _ (List.getElem_mem hib), hi, hib, and_self, dite_true]
      split
      · rw [w64_id (by omega) (by omega)]
      · rfl
  · rw [if_neg (by omega)]
    simp [hl]
theorem zip_eq [DecidableEq α] {c : α → α → Bool} (hc : ∀ x y, c x y = decide (x = y)) : ∀ (a b : List α), (decide (a.length = b.length) && (List.zipWith c a b).all id) = decide (a = b)
  | [], [] => by simp
  | [], _ :: _ => by simp
  | _ :: _, [] => by simp
  | x :: a, y :: b => by
    have ih := zip_eq hc a b
    simp only [List.length_cons, Nat.add_right_cancel_iff, List.zipWith_cons_cons, List.all_cons, id, List.cons.injEq, hc] at ih ⊢
    by_cases hxy : x = y
    · simp [hxy, ih]
    · simp [hxy]
end
/-- the same with a proposition for a test -/
theorem eqSp {α : Type} [DecidableEq α] (a b : List α) (ha : a.length < 9223372036854775807) :
    (if (a.length : Int) = (b.length : Int) then (onL (loop (S := Int) (B := Unit) (R := Bool) (fun (i1 : Int) => if i1 < (a.length : Int) then
      ((at? a i1).bind fun v1 => (at? b i1).bind fun v2 => if v1 = v2 then (some (.next (w64 (i1 + 1)))) else some (.ret false)) else some (.brk ())) loopLim 0) (fun (_ : Unit) => some true) (fun r => some r)) else some false)
      = some (decide (a = b)) := by
  rw [← zip_eq (c := fun x y => decide (x = y)) (fun _ _ => rfl), ← eqS (f := fun x y => some (decide (x = y))) (c := fun x y => decide (x = y)) a b (fun _ _ _ _ => rfl) ha]
  congr 3
  funext i
  split
  · congr 1; funext v1; congr 1; funext v2
    simp only [Option.bind_some, decide_eq_true_eq]
  · rfl
end Go.Vs

namespace Go.Vs.G
open Go Go.Vs

/-- a source that can still be asked; B bounds the place that it has come to -/
structure SrcOk (B : Int) (s : GL00Src) : Prop where
  bytes : ∀ x, x ∈ s.code → 0 ≤ x ∧ x ≤ 255
  len : s.code.length ≤ 1000000
  at0 : 0 ≤ s.at_
  atB : s.at_ ≤ B
theorem SrcOk.mono {B B' : Int} {s : GL00Src} (h : SrcOk B s) (hB : B ≤ B') : SrcOk B' s := ⟨h.bytes, h.len, h.at0, Int.le_trans h.atB hB⟩
theorem srcOk_from {code : List Int} (h : okL (okI .u8) code) (hl : code.length ≤ 1000000) : SrcOk 0 (GL00Src.mk code 0 0) :=
  ⟨fun x hx => okU8 (h.2 x hx), hl, by simp, by simp⟩
theorem shr40 (n : Int) : shr? .u64 n 40 = some (n.fdiv (2 ^ 40)) := by
  simp [shr?, IntKind.bits]
theorem and255 (n : Int) : 0 ≤ bit_and .u64 n 255 ∧ bit_and .u64 n 255 ≤ 255 := by
  unfold bit_and
  rw [wu64_def]
  have h : (BitVec.ofInt IntKind.u64.bits n &&& BitVec.ofInt IntKind.u64.bits 255).toNat ≤ 255 := by
    rw [BitVec.toNat_and]
    exact Nat.le_trans Nat.and_le_right (by decide)
  omega
theorem next_ok {B : Int} {s : GL00Src} (h : SrcOk B s) (hB : B ≤ 4611686018427387904) : ∃ v s', spec_l00Src_next s = some (v, s') ∧ 0 ≤ v ∧ v ≤ 255 ∧ SrcOk (B + 1) s' := by
  have h1 := h.at0
  have h2 := h.atB
  have h3 := h.len
  have hat : w64 (s.at_ + 1) = s.at_ + 1 := w64_id (by omega) (by omega)
  have hb : ∃ b, (if s.at_ < (s.code.length : Int) then ((at? s.code s.at_).bind fun v1 => some (w64 v1)) else some 0) = some b ∧ 0 ≤ b ∧ b ≤ 255 := by
    split
    · rename_i hlt
      rw [at_ok h1 (by omega), Option.bind_some]
      obtain ⟨g1, g2⟩ := h.bytes s.code[s.at_.toNat] (List.getElem_mem (by omega))
      exact ⟨_, rfl, by rw [w64_id (by omega) (by omega)]; omega, by rw [w64_id (by omega) (by omega)]; omega⟩
    · exact ⟨0, rfl, by omega, by omega⟩
  obtain ⟨b, hb, b0, b1⟩ := hb
  unfold spec_l00Src_next
  rw [hb, Option.bind_some, hat]
  split
  · exact ⟨_, _, rfl, b0, b1, ⟨h.bytes, h.len, by simp only; omega, by simp only; omega⟩⟩
  · rw [shr40, Option.bind_some]
    have := and255 ((IntKind.wrap .u64 ((IntKind.wrap .u64 ((IntKind.wrap .u64 (s.seed * 6364136223846793005)) + (IntKind.wrap .u64 b))) + 1442695040888963407)).fdiv (2 ^ 40))
    exact ⟨_, _, rfl, by rw [w64_id (by omega) (by omega)]; omega, by rw [w64_id (by omega) (by omega)]; omega, ⟨h.bytes, h.len, by simp only; omega, by simp only; omega⟩⟩
theorem pick_ok {B : Int} {s : GL00Src} (h : SrcOk B s) (hB : B ≤ 4611686018427387000) (n : Int) : ∃ v s', spec_l00Src_pick s n = some (v, s') ∧ 0 ≤ v ∧ (v = 0 ∨ v < n) ∧ SrcOk (B + 2) s' := by
  unfold spec_l00Src_pick
  by_cases hn : n ≤ 1
  · rw [if_pos hn]; exact ⟨0, s, rfl, by omega, .inl rfl, h.mono (by omega)⟩
  · rw [if_neg hn]
    obtain ⟨v, s1, e1, v0, v1, k1⟩ := next_ok h (by omega)
    rw [e1, Option.bind_some]
    by_cases h2 : n > 200
    · rw [if_pos h2]
      obtain ⟨u, s2, e2, u0, u1, k2⟩ := next_ok k1 (by omega)
      simp only
      rw [e2, Option.bind_some, mod_ok (by omega), Option.bind_some, w64_id (n := v * 256) (by omega) (by omega), w64_id (by simp only; omega) (by simp only; omega)]
      have e : (v * 256 + u).tmod n = (v * 256 + u) % n := Int.tmod_eq_emod_of_nonneg (by omega)
      refine ⟨_, _, rfl, ?_, ?_, by rw [show B + 2 = B + 1 + 1 by omega]; exact k2⟩
      · simp only [e]; exact Int.emod_nonneg _ (by omega)
      · simp only [e]; right; exact Int.emod_lt_of_pos _ (by omega)
    · rw [if_neg h2, mod_ok (by omega), Option.bind_some]
      simp only
      have e : v.tmod n = v % n := Int.tmod_eq_emod_of_nonneg (by omega)
      refine ⟨_, _, rfl, ?_, ?_, k1.mono (by omega)⟩
      · rw [e]; exact Int.emod_nonneg _ (by omega)
      · rw [e]; right; exact Int.emod_lt_of_pos _ (by omega)
/-- one of some numbers -/
theorem among_ok {B : Int} {s : GL00Src} (h : SrcOk B s) (hB : B ≤ 4611686018427387000) {l : List Int} (hl : 1 ≤ l.length) (hl2 : l.length ≤ 1000) : ∃ v s', spec_l00Src_among s l = some (v, s') ∧ v ∈ l ∧ SrcOk (B + 2) s' := by
  unfold spec_l00Src_among
  obtain ⟨v, s1, e1, v0, v1, k1⟩ := pick_ok h hB (l.length : Int)
  rw [e1, Option.bind_some]
  simp only
  rw [at_ok v0 (by omega), Option.bind_some]
  exact ⟨_, _, rfl, List.getElem_mem _, k1⟩
end Go.Vs.G

namespace Go.Vs.G
open Go Go.Vs

/-- f is n / d in lowest terms -/
structure Red (n d : Int) (f : GFraction) : Prop where
  pos : 0 < f.Den
  cop : Int.gcd f.Num f.Den = 1
  eq : f.Num * d = n * f.Den
theorem dvd_of_cop {a b c : Int} (h : Int.gcd a b = 1) (hd : b ∣ a * c) : b ∣ c := by
  rw [← Int.natAbs_dvd_natAbs] at hd ⊢
  rw [Int.natAbs_mul] at hd
  have : Nat.Coprime b.natAbs a.natAbs := by rw [Nat.coprime_comm]; exact h
  exact this.dvd_of_dvd_mul_left hd
theorem Red.unique {f g : GFraction} (hf : 0 < f.Den) (hg : 0 < g.Den) (cf : Int.gcd f.Num f.Den = 1) (cg : Int.gcd g.Num g.Den = 1) (h : f.Num * g.Den = g.Num * f.Den) : f = g := by
  have h1 : f.Den ∣ g.Den := dvd_of_cop cf ⟨g.Num, by rw [h, Int.mul_comm]⟩
  have h2 : g.Den ∣ f.Den := dvd_of_cop cg ⟨f.Num, by rw [← h, Int.mul_comm]⟩
  have hd : f.Den = g.Den := Int.le_antisymm (Int.le_of_dvd hg h1) (Int.le_of_dvd hf h2)
  have hn : f.Num = g.Num := by
    rw [hd] at h
    exact Int.eq_of_mul_eq_mul_right (by omega) h
  cases f; cases g
  simp_all
/-- a valid fraction -/
def GFraction.valid (f : GFraction) : Prop := 1 ≤ f.Den ∧ f.Den ≤ 1000000 ∧ -1000000 ≤ f.Num ∧ f.Num ≤ 1000000 ∧ Int.gcd f.Num f.Den = 1
/-- a drawn fraction -/
structure Drawn (f : GFraction) : Prop where
  d0 : 1 ≤ f.Den
  d1 : f.Den ≤ 20
  n0 : -15 ≤ f.Num
  n1 : f.Num ≤ 44
  cop : Int.gcd f.Num f.Den = 1
theorem Drawn.valid {f : GFraction} (h : Drawn f) : f.valid := ⟨h.d0, by have := h.d1; omega, by have := h.n0; omega, by have := h.n1; omega, h.cop⟩
end Go.Vs.G

namespace Go.Vs.G
open Go Go.Vs

theorem Red.same {n d : Int} {f g : GFraction} (hf : Red n d f) (hg : Red n d g) (hd : d ≠ 0) : f = g := by
  refine Red.unique hf.pos hg.pos hf.cop hg.cop ?_
  have e1 := hf.eq
  have e2 := hg.eq
  refine Int.eq_of_mul_eq_mul_left (a := d) hd ?_
  calc d * (f.Num * g.Den) = (f.Num * d) * g.Den := by simp only [Int.mul_assoc, Int.mul_comm, Int.mul_left_comm]
    _ = (g.Num * d) * f.Den := by rw [e1, e2]; simp only [Int.mul_assoc, Int.mul_comm, Int.mul_left_comm]
    _ = d * (g.Num * f.Den) := by simp only [Int.mul_assoc, Int.mul_comm, Int.mul_left_comm]
/- counting -/
/- the same on both sides -/
/- draws -/
theorem one_ok {B : Int} {s : GL00Src} (h : SrcOk B s) (hB : B ≤ 4611686018427387000) (n : Int) : ∃ v s', spec_l00Src_one s n = some (v, s') ∧ SrcOk (B + 2) s' := by
  unfold spec_l00Src_one
  obtain ⟨v, s1, e1, _, _, k1⟩ := pick_ok h hB n
  rw [e1]; exact ⟨_, _, rfl, k1⟩
end Go.Vs.G

namespace Go.Vs
open Go

section
variable {α β γ R : Type}

theorem take_succ_map {g : α → β} {l : List α} {j : Nat} (hj : j < l.length) : (l.take j).map g ++ [g l[j]] = (l.take (j + 1)).map g := by
  rw [List.take_add_one, List.getElem?_eq_getElem hj, List.map_append]; rfl
/-- a loop that lays one value behind another -/
theorem mapS {f : α → Option β} (g : α → β) (l : List α) (hf : ∀ x, x ∈ l → f x = some (g x)) (hl : l.length ≤ 4294967296)
    {body : List β × Int → Option (Step (List β × Int) (List β) R)} {kb : List β → Option γ} {kr : R → Option γ}
    (hb : ∀ (out : List β) (i : Int), body (out, i) = if i < (l.length : Int) then ((at? l i).bind fun v => (f v).bind fun r => (app? out ([r] : List β)).bind fun l1 => some (.next (l1, w64 (i + 1)))) else some (.brk out)) :
    onL (loop body loopLim ([], 0)) kb kr = kb (l.map g) := by
  have := loop_brk (body := body) (fun j : Nat => ((l.take j).map g, (j : Int))) (b := l.map g) l.length (by omega) (fun j hj => by
    rw [hb, if_pos (by omega), at_of hj, Option.bind_some, hf _ (List.getElem_mem hj), Option.bind_some, app_ok (by simp; omega), Option.bind_some, w64_id (by omega) (by omega)]
    rw [take_succ_map hj]; rfl) (by rw [hb, if_neg (by omega)]; simp)
  simp only [List.take_zero, List.map_nil, Int.natCast_zero] at this
  rw [this]; rfl
/-- a list of which all fit, asked by a loop -/
theorem allS {f : α → Option Bool} (c : α → Bool) (l : List α) (hf : ∀ x, x ∈ l → f x = some (c x)) (hl : l.length < 9223372036854775807) {r : R}
    {body : Int → Option (Step Int Unit R)} {kb : Unit → Option γ} {kr : R → Option γ}
    (hb : ∀ (i : Int), body i = if i < (l.length : Int) then ((at? l i).bind fun v => (f v).bind fun q => if q = true then some (.next (w64 (i + 1))) else some (.ret r)) else some (.brk ())) :
    onL (loop body loopLim 0) kb kr = if ∀ x, x ∈ l → c x = true then kb () else kr r := by
  have := scan (body := body) (kb := kb) (kr := kr) (s := 0) (n := l.length) (c := fun i => if h : i < l.length then c l[i] else true) (r := r) (by omega) hl (fun i _ hi => by
    rw [hb, if_pos (by omega), at_of hi, Option.bind_some, hf _ (List.getElem_mem hi), Option.bind_some, w64_id (by omega) (by omega)]
    simp only [hi, dif_pos]
    cases c l[i] <;> rfl) (by rw [hb, if_neg (by omega)])
  simp only [Int.natCast_zero] at this
  rw [this]
  have e : (∀ i, 0 ≤ i → i < l.length → (if h : i < l.length then c l[i] else true) = true) ↔ ∀ x, x ∈ l → c x = true := by
    constructor
    · intro h x hx
      obtain ⟨i, hi, rfl⟩ := List.getElem_of_mem hx
      have := h i (by omega) hi
      simpa [hi] using this
    · intro h i _ hi
      simp [hi, h _ (List.getElem_mem hi)]
  split
  · rename_i h; rw [if_pos (e.1 h)]
  · rename_i h; rw [if_neg (fun h2 => h (e.2 h2))]
/-- the library's IndexFunc -/
theorem idxFS {f : α → Option Bool} (c : α → Bool) (l : List α) (hf : ∀ x, x ∈ l → f x = some (c x)) (hl : l.length < 9223372036854775807)
    {body : Int → Option (Step Int Unit Int)}
    (hb : ∀ (i : Int), body i = if i < (l.length : Int) then ((at? l i).bind fun v => (f v).bind fun r => if r = true then some (.ret i) else some (.next (w64 (i + 1)))) else some (.brk ())) :
    wp (onL (loop body loopLim 0) (fun (_ : Unit) => some (-1 : Int)) (fun r => some r)) fun r => (r = -1 ∧ l.any c = false) ∨ (∃ k : Nat, r = (k : Int) ∧ ∃ h : k < l.length, c l[k] = true ∧ (∀ j (h2 : j < k), c (l[j]'(by omega)) = false) ∧ l.any c = true) := by
  refine wp_loop (fun t : Int => ∃ k : Nat, t = (k : Int) ∧ k ≤ l.length ∧ ∀ j (h2 : j < k) (h3 : j < l.length), c l[j] = false) (fun t => (l.length - t).toNat) ⟨0, rfl, by omega, fun j hj => by omega⟩ (by omega) ?_
  rintro i ⟨k, rfl, hk, hall⟩
  rw [hb]
  refine wp_ite (fun h => ?_) (fun h => ?_)
  · have hk2 : k < l.length := by omega
    rw [at_of hk2, Option.bind_some, hf _ (List.getElem_mem hk2), Option.bind_some]
    refine wp_ite (fun h3 => ?_) (fun h3 => ?_)
    · exact wp_some (wp_some (.inr ⟨k, rfl, hk2, h3, fun j hj => hall j hj (by omega), List.any_eq_true.2 ⟨_, List.getElem_mem hk2, h3⟩⟩))
    · rw [w64_succ hk2 (by omega)]
      refine wp_some ⟨⟨k + 1, rfl, by omega, fun j hj hj2 => ?_⟩, by omega⟩
      rcases Nat.lt_or_ge j k with h4 | h4
      · exact hall j h4 hj2
      · obtain rfl : j = k := by omega
        simpa using h3
  · obtain rfl : k = l.length := by omega
    refine wp_some (wp_some (.inl ⟨rfl, ?_⟩))
    refine Bool.eq_false_iff.2 fun hc => ?_
    obtain ⟨x, hx, hx2⟩ := List.any_eq_true.1 hc
    obtain ⟨j, hj, rfl⟩ := List.getElem_of_mem hx
    rw [hall j hj hj] at hx2
    cases hx2
/-- the library's ContainsFunc -/
theorem contS {f : α → Option Bool} (c : α → Bool) (l : List α) (hf : ∀ x, x ∈ l → f x = some (c x)) (hl : l.length < 9223372036854775807)
    {body : Int → Option (Step Int Unit Int)}
    (hb : ∀ (i : Int), body i = if i < (l.length : Int) then ((at? l i).bind fun v => (f v).bind fun r => if r = true then some (.ret i) else some (.next (w64 (i + 1)))) else some (.brk ())) :
    ((onL (loop body loopLim 0) (fun (_ : Unit) => some (-1 : Int)) (fun r => some r)).bind fun r => some (decide (r ≥ 0))) = some (l.any c) := by
  obtain ⟨r, h1, h2⟩ := idxFS c l hf hl hb
  rw [h1, Option.bind_some]
  rcases h2 with ⟨rfl, h⟩ | ⟨k, rfl, _, _, _, h⟩
  · rw [h]; rfl
  · rw [h, decide_eq_true (by omega)]
/-- a loop whose state at each round is told -/
theorem wp_cnt {S B : Type} {Q : γ → Prop} {body : S → Option (Step S B R)} {kb : B → Option γ} {kr : R → Option γ} {s0 : S} (st : Nat → S) (n : Nat) (h0 : s0 = st 0) (hn : n < 18446744073709551616)
    (hs : ∀ k, k < n → body (st k) = some (.next (st (k + 1)))) {b : B} (he : body (st n) = some (.brk b)) (hq : wp (kb b) Q) : wp (onL (loop body loopLim s0) kb kr) Q := by
  rw [h0, loop_brk st n hn hs he]; exact hq
/-- the numbers below n that fit -/
def sl (c : Nat → Bool) : Nat → List Int
  | 0 => []
  | k + 1 => if c k = true then sl c k ++ [(k : Int)] else sl c k
theorem sl_len (c : Nat → Bool) : ∀ k, (sl c k).length ≤ k
  | 0 => by simp [sl]
  | k + 1 => by have := sl_len c k; rw [sl]; split <;> simp <;> omega
theorem sl_nil {c : Nat → Bool} : ∀ {k : Nat}, (sl c k).length = 0 ↔ ∀ i, i < k → c i = false
  | 0 => by simp [sl]
  | k + 1 => by
    have ih := sl_nil (c := c) (k := k)
    rw [sl]
    constructor
    · intro h i hi
      split at h
      · simp at h
      · rename_i hc
        rcases Nat.lt_or_ge i k with h1 | h1
        · exact ih.1 h i h1
        · obtain rfl : i = k := by omega
          simpa using hc
    · intro h
      rw [h k (by omega), if_neg (by simp)]
      exact ih.2 fun i hi => h i (by omega)
theorem sl_congr {c d : Nat → Bool} : ∀ {k : Nat}, (∀ i, i < k → c i = d i) → sl c k = sl d k
  | 0, _ => rfl
  | k + 1, h => by rw [sl, sl, h k (by omega), sl_congr fun i hi => h i (by omega)]
end
end Go.Vs

namespace Go.Vs
theorem wp_seq {α β : Type} {A : Option β} {k : β → Option α} {P : β → Prop} {Q : α → Prop} (h : wp A P) (hk : ∀ x, P x → wp (k x) Q) : wp (A.bind k) Q := by
  obtain ⟨x, rfl, hx⟩ := h; exact hk x hx
end Go.Vs
namespace Go.Vs.G
open Go Go.Vs

section
variable {α : Type} {Q : α → Prop} {B : Int} {s : GL00Src}
theorem wp_pick {n : Int} {k : Int × GL00Src → Option α} (h : SrcOk B s) (hB : B ≤ 4611686018427387000) (hk : ∀ v s', 0 ≤ v → (v = 0 ∨ v < n) → SrcOk (B + 2) s' → wp (k (v, s')) Q) : wp ((spec_l00Src_pick s n).bind k) Q := by
  obtain ⟨v, s', e, h0, h1, h2⟩ := pick_ok h hB n
  rw [e]; exact hk v s' h0 h1 h2
theorem wp_one {n : Int} {k : Bool × GL00Src → Option α} (h : SrcOk B s) (hB : B ≤ 4611686018427387000) (hk : ∀ v s', SrcOk (B + 2) s' → wp (k (v, s')) Q) : wp ((spec_l00Src_one s n).bind k) Q := by
  obtain ⟨v, s', e, h2⟩ := one_ok h hB n
  rw [e]; exact hk v s' h2
theorem wp_among {l : List Int} {k : Int × GL00Src → Option α} (h : SrcOk B s) (hB : B ≤ 4611686018427387000) (hl : 1 ≤ l.length) (hl2 : l.length ≤ 1000) (hk : ∀ v s', v ∈ l → SrcOk (B + 2) s' → wp (k (v, s')) Q) : wp ((spec_l00Src_among s l).bind k) Q := by
  obtain ⟨v, s', e, h1, h2⟩ := among_ok h hB hl hl2
  rw [e]; exact hk v s' h1 h2
theorem wp_from {code : List Int} {k : GL00Src → Option α} (h : okL (okI .u8) code) (hl : code.length ≤ 1000000) (hk : ∀ s, SrcOk 0 s → wp (k s) Q) : wp ((spec_l00From code).bind k) Q := hk _ (srcOk_from h hl)
theorem wp_bif {b : Bool} {A A' : Option α} (h1 : b = true → wp A Q) (h2 : b = false → wp A' Q) : wp (if b = true then A else A') Q := by
  cases b
  · exact h2 rfl
  · exact h1 rfl
end
end Go.Vs.G

namespace Go.Vs
open Go
section
variable {α : Type} [Inhabited α]
def gz (l : List α) (i : Nat) : α := l.getD i default
theorem gz_of {l : List α} {i : Nat} (h : i < l.length) : gz l i = l[i] := by unfold gz; simp [h]
theorem at_gz {l : List α} {i : Nat} (h : i < l.length) : at? l (i : Int) = some (gz l i) := by rw [at_of h, gz_of h]
theorem gz_mem {l : List α} {i : Nat} (h : i < l.length) : gz l i ∈ l := by rw [gz_of h]; exact List.getElem_mem h
end
section
variable {R γ : Type}
/-- a loop that gathers the numbers that fit -/
theorem selS {body : List Int × Int → Option (Step (List Int × Int) (List Int) R)} {kb : List Int → Option γ} {kr : R → Option γ} (c : Nat → Bool) (n : Nat) (hn : n ≤ 1000000)
    (hb : ∀ (k : Nat) (out : List Int), k < n → out.length ≤ 1000000 → body (out, (k : Int)) = some (.next (if c k = true then out ++ [(k : Int)] else out, (k : Int) + 1))) (he : ∀ out, body (out, (n : Int)) = some (.brk out)) :
    onL (loop body loopLim ([], 0)) kb kr = kb (sl c n) := by
  have := loop_brk (body := body) (fun k : Nat => (sl c k, (k : Int))) (b := sl c n) n (by omega) (fun k hk => by
    rw [hb k _ hk (Nat.le_trans (sl_len c k) (by omega)), sl]; rfl) (he _)
  simp only [sl, Int.natCast_zero] at this
  rw [this]; rfl
theorem sl_in {c : Nat → Bool} {i : Nat} : ∀ {k : Nat}, i < k → decide ((i : Int) ∈ sl c k) = c i
  | k + 1, h => by
    rw [sl]
    have hn : ∀ m, m ≤ i → (i : Int) ∉ sl c m := by
      intro m
      induction m with
      | zero => intro _; simp [sl]
      | succ m ih =>
        intro hm
        rw [sl]
        split
        · simp only [List.mem_append, List.mem_singleton, not_or]
          exact ⟨ih (by omega), by omega⟩
        · exact ih (by omega)
    rcases Nat.lt_or_ge i k with h1 | h1
    · have ih := sl_in (c := c) h1
      split
      · rw [← ih]
        refine decide_eq_decide.2 ?_
        simp only [List.mem_append, List.mem_singleton]
        exact ⟨fun h => h.elim id fun h => by omega, .inl⟩
      · exact ih
    · obtain rfl : i = k := by omega
      split
      · rename_i hc
        rw [hc]
        exact decide_eq_true (by simp)
      · rename_i hc
        rw [decide_eq_false (hn i (Nat.le_refl _))]
        cases h9 : c i with
        | false => rfl
        | true => exact absurd h9 hc
end
end Go.Vs
namespace Go.Vs.G
open Go Go.Vs
theorem withinZ (n a b : Int) : impl_within n a b = some (decide (a ≤ n ∧ n ≤ b)) := by
  unfold impl_within
  by_cases h : n ≥ a
  · rw [if_pos h]; exact congrArg some (decide_eq_decide.2 (by omega))
  · rw [if_neg h, decide_eq_false (by omega)]
theorem l00InZ (n a b : Int) : spec_l00In n a b = some (decide (a ≤ n ∧ n ≤ b)) := by
  unfold spec_l00In
  by_cases h : n ≥ a
  · rw [if_pos h]; exact congrArg some (decide_eq_decide.2 (by omega))
  · rw [if_neg h, decide_eq_false (by omega)]
theorem f6hasF {l : List Int} {n : Int} (hl : l.length ≤ 1000000) : laws_f6has l n = some (decide (n ∈ l)) := by
  unfold laws_f6has
  have := scan (β := Bool) (body := fun (i1 : Int) => if i1 < (l.length : Int) then ((at? l i1).bind fun v1 => if v1 = n then (some (Step.ret true)) else some (.next (w64 (i1 + 1)))) else some (.brk ()))
    (kb := fun _ => some false) (kr := fun r => some r) (s := 0) (n := l.length) (c := fun i => if h : i < l.length then !decide (l[i] = n) else true) (r := true) (by omega) (by omega) (fun i _ hi => by
      rw [if_pos (by omega), at_of hi, Option.bind_some, w64_id (by omega) (by omega)]
      simp only [hi, dif_pos]
      by_cases hc : l[i] = n
      · simp [hc]
      · simp [hc]) (by rw [if_neg (by omega)])
  simp only [Int.natCast_zero] at this
  rw [this]
  by_cases hm : n ∈ l
  · rw [decide_eq_true hm, if_neg]
    intro hall
    obtain ⟨i, hi, he⟩ := List.getElem_of_mem hm
    have := hall i (by omega) hi
    simp [hi, he] at this
  · rw [decide_eq_false hm, if_pos]
    intro i _ hi
    simp only [hi, dif_pos]
    have : l[i] ≠ n := fun e => hm (e ▸ List.getElem_mem hi)
    simp [this]
theorem f6intsT (a b : List Int) (ha : a.length < 9223372036854775807) : laws_f6ints a b = some (decide (a = b)) := by
  unfold laws_f6ints; exact eqSp a b ha
/- halls -/
def vh (h : GLensHall) : Bool := decide (1 ≤ h.Throw ∧ h.Throw ≤ 100000 ∧ 1 ≤ h.Least ∧ h.Least ≤ h.Widest ∧ h.Widest ≤ 100000)
theorem validHall_eq (h : GLensHall) : impl_validHall h = some (vh h) := by
  unfold impl_validHall impl_isThrow vh
  rw [withinZ, Option.bind_some, Option.bind_some]
  by_cases h1 : 1 ≤ h.Throw ∧ h.Throw ≤ 100000
  · rw [if_pos (decide_eq_true h1)]
    by_cases h2 : 1 ≤ h.Least
    · rw [if_pos h2]
      by_cases h3 : h.Least ≤ h.Widest
      · rw [if_pos h3]; exact congrArg some (decide_eq_decide.2 (by omega))
      · rw [if_neg h3, decide_eq_false (by omega)]
    · rw [if_neg h2, decide_eq_false (by omega)]
  · rw [if_neg (by simpa using h1), decide_eq_false (by omega)]
theorem l11One_eq (h : GLensHall) : spec_l11One h = some (vh h) := by
  unfold spec_l11One vh
  rw [l00InZ, Option.bind_some, l00InZ, Option.bind_some, l00InZ, Option.bind_some]
  by_cases h1 : 1 ≤ h.Throw ∧ h.Throw ≤ 100000
  · rw [if_pos (decide_eq_true h1)]
    by_cases h2 : 1 ≤ h.Least ∧ h.Least ≤ 100000
    · rw [if_pos (decide_eq_true h2)]
      exact congrArg some (decide_eq_decide.2 (by omega))
    · rw [if_neg (by simpa using h2), decide_eq_false (by omega)]
  · rw [if_neg (by simpa using h1), decide_eq_false (by omega)]
def vf1 (f : Int) : Bool := decide (1 ≤ f ∧ f ≤ 2000)
def vsl (s : Int) : Bool := decide (1 ≤ s ∧ s ≤ 200)
theorem isFocalT (f : Int) : impl_isFocal f = some (vf1 f) := by unfold impl_isFocal vf1; rw [withinZ, Option.bind_some]
theorem l11Focal_eq (f : Int) : spec_l11Focal f = some (vf1 f) := by unfold spec_l11Focal vf1; rw [l00InZ, Option.bind_some]
theorem l11Slide_eq (f : Int) : spec_l11Slide f = some (vsl f) := by unfold spec_l11Slide vsl; rw [l00InZ, Option.bind_some]
def vst (l : List Int) : Bool := decide (l.length ≤ 12) && l.all vf1
theorem lensesOk_eq {l : List Int} (hl : l.length ≤ 1000000) : impl_lensesOk l 12 = some (vst l) := by
  unfold impl_lensesOk vst
  have hcf : slices_ContainsFunc_int64_int64_796 l (fun a0 => impl_lensesOk_1 a0) = some (l.any fun p => !vf1 p) := by
    unfold slices_ContainsFunc_int64_int64_796 slices_IndexFunc_int64_int64_818
    refine contS (fun p => !vf1 p) l (fun p hp => ?_) (by omega) (fun _ => rfl)
    unfold impl_lensesOk_1
    rw [isFocalT, Option.bind_some]
  rw [hcf, Option.bind_some]
  have e : (!l.any fun p => !vf1 p) = l.all vf1 := by rw [List.not_any_eq_all_not]; simp
  rw [e]
  by_cases h1 : l.length ≤ 12
  · rw [if_pos (by omega), decide_eq_true h1, Bool.true_and]
  · rw [if_neg (by omega), decide_eq_false h1, Bool.false_and]
theorem l11Stock_eq {l : List Int} (hl : l.length ≤ 1000000) : spec_l11Stock l = some (vst l) := by
  unfold spec_l11Stock
  rw [allS vf1 l (f := fun x => some (vf1 x)) (fun _ _ => rfl) (by omega) (r := false)]
  · unfold vst
    by_cases h : ∀ x, x ∈ l → vf1 x = true
    · rw [if_pos h, List.all_eq_true.2 h, Bool.and_true]; exact congrArg some (decide_eq_decide.2 (by omega))
    · rw [if_neg h]
      have : (l.all vf1) = false := by rw [Bool.eq_false_iff]; exact fun hc => h (List.all_eq_true.1 hc)
      rw [this, Bool.and_false]
  · intro i
    by_cases hi : i < (l.length : Int)
    · rw [if_pos hi, if_pos hi]
      cases ha : at? l i with
      | none => rfl
      | some v => simp only [Option.bind_some, l11Focal_eq]
    · rw [if_neg hi, if_neg hi]
def vhs (l : List GLensHall) : Bool := decide (l.length ≤ 8) && l.all vh
theorem ValidLensHalls_eq {l : List GLensHall} (hl : l.length ≤ 1000000) : impl_ValidLensHalls l = some (vhs l) := by
  unfold impl_ValidLensHalls vhs
  have hcf : slices_ContainsFunc_impl_LensHall_impl_LensHall_802 l (fun a0 => impl_ValidLensHalls_1 a0) = some (l.any fun p => !vh p) := by
    unfold slices_ContainsFunc_impl_LensHall_impl_LensHall_802 slices_IndexFunc_impl_LensHall_impl_LensHall_824
    refine contS (fun p => !vh p) l (fun p hp => ?_) (by omega) (fun _ => rfl)
    unfold impl_ValidLensHalls_1
    rw [validHall_eq, Option.bind_some]
  rw [hcf, Option.bind_some]
  have e : (!l.any fun p => !vh p) = l.all vh := by rw [List.not_any_eq_all_not]; simp
  rw [e]
  by_cases h1 : l.length ≤ 8
  · rw [if_pos (by omega), decide_eq_true h1, Bool.true_and]
  · rw [if_neg (by omega), decide_eq_false h1, Bool.false_and]
theorem l11Ok_eq {l : List GLensHall} (hl : l.length ≤ 1000000) : spec_l11Ok l = some (vhs l) := by
  unfold spec_l11Ok
  rw [allS vh l (f := fun x => some (vh x)) (fun _ _ => rfl) (by omega) (r := false)]
  · unfold vhs
    by_cases h : ∀ x, x ∈ l → vh x = true
    · rw [if_pos h, List.all_eq_true.2 h, Bool.and_true]; exact congrArg some (decide_eq_decide.2 (by omega))
    · rw [if_neg h]
      have : (l.all vh) = false := by rw [Bool.eq_false_iff]; exact fun hc => h (List.all_eq_true.1 hc)
      rw [this, Bool.and_false]
  · intro i
    by_cases hi : i < (l.length : Int)
    · rw [if_pos hi, if_pos hi]
      cases ha : at? l i with
      | none => rfl
      | some v => simp only [Option.bind_some, l11One_eq]
    · rw [if_neg hi, if_neg hi]
theorem hallsCode_eq (v : Bool) (s f : Int) {l : List Int} (hl : l.length ≤ 1000000) : impl_hallsCode v s f l = some (if v = true then (if (vsl s && vf1 f && vst l) = true then 0 else 2) else 1) := by
  unfold impl_hallsCode
  cases v with
  | false => rfl
  | true =>
    simp only [if_true]
    rw [withinZ, isFocalT, lensesOk_eq hl, Option.bind_some]
    have e : decide (1 ≤ s ∧ s ≤ 200) = vsl s := rfl
    rw [e]
    cases vsl s <;> cases vf1 f <;> cases vst l <;> rfl
/- what suits -/
theorem l11Suits_fn : spec_l11Suits = impl_suits := rfl
def sut (h : GLensHall) (s f : Int) : Bool := (impl_suits h s f).getD false
theorem suits_eq (h : GLensHall) (s f : Int) : impl_suits h s f = some (sut h s f) := by
  unfold sut impl_suits
  split <;> rfl
/- the range -/
/- lenses for a hall, halls for a lens -/
end Go.Vs.G

namespace Go.Vs.G
open Go Go.Vs
theorem l11New_ok {B : Int} {s : GL00Src} (h : SrcOk B s) (hB : B ≤ 1000000) : wp (spec_l11New s) fun r => SrcOk (B + 6) r.2 := by
  unfold spec_l11New
  refine wp_pick h (by omega) fun v s1 _ _ h1 => ?_
  refine wp_pick h1 (by omega) fun v2 s2 _ _ h2 => ?_
  refine wp_pick h2 (by omega) fun v3 s3 _ _ h3 => ?_
  exact wp_some (h3.mono (by omega))
theorem l11Spoil_ok {B : Int} {s : GL00Src} (h : SrcOk B s) (hB : B ≤ 1000000) (x : GLensHall) : wp (spec_l11Spoil s x) fun r => SrcOk (B + 4) r.1 := by
  unfold spec_l11Spoil
  refine wp_pick h (by omega) fun v s1 _ _ h1 => ?_
  simp only
  refine wp_ite (fun _ => ?_) (fun _ => wp_ite (fun _ => ?_) (fun _ => wp_ite (fun _ => ?_) (fun _ => wp_some (h1.mono (by omega)))))
  · exact wp_among h1 (by omega) (by simp) (by simp) fun y s2 _ h2 => wp_some (h2.mono (by omega))
  · exact wp_among h1 (by omega) (by simp) (by simp) fun y s2 _ h2 => wp_some (h2.mono (by omega))
  · exact wp_among h1 (by omega) (by simp) (by simp) fun y s2 _ h2 => wp_some (h2.mono (by omega))
theorem l11Draw_ok {B : Int} {s : GL00Src} (h : SrcOk B s) (hB : B ≤ 100000) : wp (spec_l11Draw s) fun r => SrcOk (B + 100) r.2 ∧ r.1.length ≤ 9 := by
  unfold spec_l11Draw
  refine wp_pick h (by omega) fun v s1 v0 v1 h1 => ?_
  refine wp_one h1 (by omega) fun b1 s2 h2 => ?_
  simp only
  refine wp_seq (P := fun q : GL00Src × Int => SrcOk (B + 6) q.1 ∧ 0 ≤ q.2 ∧ q.2 ≤ 9) ?_ ?_
  · refine wp_bif (fun _ => ?_) (fun _ => wp_some ⟨h2.mono (by omega), by simp only; omega, by simp only; omega⟩)
    refine wp_pick h2 (by omega) fun v2 s3 v2a v2b h3 => wp_some ⟨h3.mono (by omega), ?_, ?_⟩
    · simp only; rw [w64_id (by omega) (by omega)]; omega
    · simp only; rw [w64_id (by omega) (by omega)]; omega
  · rintro ⟨s3, n⟩ ⟨h3, n0, n1⟩
    simp only at h3 n0 n1 ⊢
    refine wp_loop (fun q : GL00Src × List GLensHall × Int => SrcOk (B + 6 + 6 * (q.2.1.length : Int)) q.1 ∧ (q.2.1.length : Int) + q.2.2 = n ∧ 0 ≤ q.2.2) (fun q => q.2.2.toNat) ⟨by simpa using h3, by simp, n0⟩ (by simp only; omega) ?_
    rintro ⟨s4, out, k⟩ ⟨h4, h5, h6⟩
    simp only at h4 h5 h6 ⊢
    refine wp_ite (fun hk => ?_) (fun hk => ?_)
    · refine wp_seq (l11New_ok h4 (by omega)) ?_
      rintro ⟨x, s5⟩ h7
      simp only at h7 ⊢
      rw [app_ok (by simp; omega), Option.bind_some, w64_id (n := k - 1) (by omega) (by omega)]
      exact wp_some ⟨⟨h7.mono (by simp; omega), by simp; omega, by simp only; omega⟩, by simp only; omega⟩
    · refine wp_some ?_
      simp only
      refine wp_seq (P := fun q : GL00Src × Bool => SrcOk (B + 70) q.1 ∧ (q.2 = true → 0 < n)) ?_ ?_
      · refine wp_ite (fun hn => ?_) (fun _ => wp_some ⟨h4.mono (by omega), fun hc => by simp at hc⟩)
        exact wp_one h4 (by omega) fun b s5 h7 => wp_some ⟨h7.mono (by omega), fun _ => hn⟩
      · rintro ⟨s5, b⟩ ⟨h7, hb⟩
        simp only at h7 hb ⊢
        refine wp_bif (fun hbt => ?_) (fun _ => wp_some ⟨h7.mono (by omega), by simp only; omega⟩)
        have := hb hbt
        rw [at_ok (by omega) (by omega), Option.bind_some]
        refine wp_seq (l11Spoil_ok h7 (by omega) _) ?_
        rintro ⟨s6, y⟩ h8
        exact wp_some ⟨h8.mono (by omega), by simp; omega⟩
theorem l11DrawFocal_ok {B : Int} {s : GL00Src} (h : SrcOk B s) (hB : B ≤ 1000000) : wp (spec_l11DrawFocal s) fun r => SrcOk (B + 4) r.2 := by
  unfold spec_l11DrawFocal
  refine wp_one h (by omega) fun b s1 h1 => ?_
  refine wp_bif (fun _ => ?_) (fun _ => ?_)
  · exact wp_among h1 (by omega) (by simp) (by simp) fun y s2 _ h2 => wp_some (h2.mono (by omega))
  · exact wp_pick h1 (by omega) fun y s2 _ _ h2 => wp_some (h2.mono (by omega))
theorem l11DrawSlide_ok {B : Int} {s : GL00Src} (h : SrcOk B s) (hB : B ≤ 1000000) : wp (spec_l11DrawSlide s) fun r => SrcOk (B + 4) r.2 := by
  unfold spec_l11DrawSlide
  refine wp_one h (by omega) fun b s1 h1 => ?_
  refine wp_bif (fun _ => ?_) (fun _ => ?_)
  · exact wp_among h1 (by omega) (by simp) (by simp) fun y s2 _ h2 => wp_some (h2.mono (by omega))
  · exact wp_among h1 (by omega) (by simp) (by simp) fun y s2 _ h2 => wp_some (h2.mono (by omega))
theorem l11DrawStock_ok {B : Int} {s : GL00Src} (h : SrcOk B s) (hB : B ≤ 100000) : wp (spec_l11DrawStock s) fun r => SrcOk (B + 100) r.2 ∧ r.1.length ≤ 13 := by
  unfold spec_l11DrawStock
  refine wp_pick h (by omega) fun v s1 v0 v1 h1 => ?_
  refine wp_one h1 (by omega) fun b1 s2 h2 => ?_
  simp only
  refine wp_seq (P := fun q : GL00Src × Int => SrcOk (B + 6) q.1 ∧ 0 ≤ q.2 ∧ q.2 ≤ 13) ?_ ?_
  · refine wp_bif (fun _ => ?_) (fun _ => wp_some ⟨h2.mono (by omega), by simp only; omega, by simp only; omega⟩)
    refine wp_pick h2 (by omega) fun v2 s3 v2a v2b h3 => wp_some ⟨h3.mono (by omega), ?_, ?_⟩
    · simp only; rw [w64_id (by omega) (by omega)]; omega
    · simp only; rw [w64_id (by omega) (by omega)]; omega
  · rintro ⟨s3, n⟩ ⟨h3, n0, n1⟩
    simp only at h3 n0 n1 ⊢
    refine wp_loop (fun q : GL00Src × List Int × Int => SrcOk (B + 6 + 6 * (q.2.1.length : Int)) q.1 ∧ (q.2.1.length : Int) + q.2.2 = n ∧ 0 ≤ q.2.2) (fun q => q.2.2.toNat) ⟨by simpa using h3, by simp, n0⟩ (by simp only; omega) ?_
    rintro ⟨s4, out, k⟩ ⟨h4, h5, h6⟩
    simp only at h4 h5 h6 ⊢
    refine wp_ite (fun hk => ?_) (fun hk => ?_)
    · refine wp_pick h4 (by omega) fun x s5 _ _ h7 => ?_
      simp only
      rw [app_ok (by simp; omega), Option.bind_some, w64_id (n := k - 1) (by omega) (by omega)]
      exact wp_some ⟨⟨h7.mono (by simp; omega), by simp; omega, by simp only; omega⟩, by simp only; omega⟩
    · refine wp_some ?_
      simp only
      refine wp_seq (P := fun q : GL00Src × Bool => SrcOk (B + 90) q.1 ∧ (q.2 = true → 0 < n)) ?_ ?_
      · refine wp_ite (fun hn => ?_) (fun _ => wp_some ⟨h4.mono (by omega), fun hc => by simp at hc⟩)
        exact wp_one h4 (by omega) fun b s5 h7 => wp_some ⟨h7.mono (by omega), fun _ => hn⟩
      · rintro ⟨s5, b⟩ ⟨h7, hb⟩
        simp only at h7 hb ⊢
        refine wp_bif (fun hbt => ?_) (fun _ => wp_some ⟨h7.mono (by omega), by simp only; omega⟩)
        have := hb hbt
        refine wp_seq (l11DrawFocal_ok h7 (by omega)) ?_
        rintro ⟨y, s6⟩ h8
        simp only at h8 ⊢
        rw [at_ok (by omega) (by omega), Option.bind_some]
        exact wp_some ⟨h8.mono (by omega), by simp; omega⟩
section
variable {code : List Int} (hc : okL (okI .u8) code) (hl : code.length ≤ 4096)
include hc hl
end
end Go.Vs.G

namespace Go.Vs.G
open Go Go.Vs

/-- a brightness -/
def brt (f : GFraction) : Prop := (0 ≤ f.Num ∧ f.Num ≤ 100000) ∧ f.Den ≤ 100000
instance (f : GFraction) : Decidable (brt f) := by unfold brt; infer_instance
instance (f : GFraction) : Decidable f.valid := by unfold GFraction.valid; infer_instance
/- light behind losses -/
/- the farthest -/
def FarR (c : Int → Bool) (r : Int × Int) : Prop := (r.2 = 0 ∧ 1 ≤ r.1 ∧ r.1 ≤ 1000 ∧ c r.1 = true ∧ ∀ t, r.1 < t → t ≤ 1000 → c t = false) ∨ (r = (0, 3) ∧ ∀ t, 1 ≤ t → t ≤ 1000 → c t = false)
theorem FarR.unique {c : Int → Bool} {r r' : Int × Int} (h : FarR c r) (h' : FarR c r') : r = r' := by
  obtain ⟨v, e⟩ := r
  obtain ⟨v', e'⟩ := r'
  rcases h with ⟨h1, h2, h3, h4, h5⟩ | ⟨h1, h2⟩ <;> rcases h' with ⟨k1, k2, k3, k4, k5⟩ | ⟨k1, k2⟩ <;> (try simp only at *)
  · subst h1 k1
    rcases Int.lt_trichotomy v v' with hh | hh | hh
    · rw [h5 v' hh k3] at k4; cases k4
    · rw [hh]
    · rw [k5 v hh h3] at h4; cases h4
  · rw [k2 v h2 h3] at h4; cases h4
  · rw [h2 v' k2 k3] at k4; cases k4
  · rw [h1, k1]
/- draws -/
section
variable {code : List Int} (hc : okL (okI .u8) code) (hl : code.length ≤ 1000000)
include hc hl
end

end Go.Vs.G

namespace Go.Vs
open Go

theorem and_one {q : Nat} (h : q < 9223372036854775808) : bit_and .i64 (q : Int) 1 = ((q % 2 : Nat) : Int) := by
  show IntKind.wrap .i64 (((BitVec.ofInt 64 (q : Int) &&& BitVec.ofInt 64 1).toNat : Nat) : Int) = _
  rw [BitVec.toNat_and, BitVec.toNat_ofInt, BitVec.toNat_ofInt]
  have h1 : ((q : Int) % ((2 ^ 64 : Nat) : Int)).toNat = q := by omega
  have h2 : ((1 : Int) % ((2 ^ 64 : Nat) : Int)).toNat = 1 := by decide
  rw [h1, h2, Nat.and_one_is_mod]
  exact w64_id (by omega) (by omega)
theorem wu64 {i : Nat} (h : i < 18446744073709551616) : IntKind.wrap .u64 (i : Int) = (i : Int) := by rw [wu64_def]; omega
theorem shr_nat {x i : Nat} (hi : i ≤ 64) : shr? .i64 (x : Int) (IntKind.wrap .u64 (i : Int)) = some ((x / 2 ^ i : Nat) : Int) := by
  rw [wu64 (by omega)]
  have h1 : ¬ ((i : Int) < 0) := by omega
  have h2 : min (i : Int).toNat IntKind.i64.bits = i := by simp [IntKind.bits]; omega
  rw [shr?, if_neg h1, h2, Int.fdiv_eq_ediv_of_nonneg _ (by exact_mod_cast Nat.zero_le (2 ^ i))]
  congr 1
theorem shl_one {n : Nat} (hn : n ≤ 62) : shl? .i64 1 (IntKind.wrap .u64 (n : Int)) = some ((2 ^ n : Nat) : Int) := by
  rw [wu64 (by omega)]
  have h1 : ¬ ((n : Int) < 0) := by omega
  have h2 : min (n : Int).toNat IntKind.i64.bits = n := by simp [IntKind.bits]; omega
  have h3 : 2 ^ n ≤ 2 ^ 62 := Nat.pow_le_pow_right (by omega) hn
  rw [shl?, if_neg h1, h2, Int.one_mul]
  have e : ((2 : Int) ^ n) = ((2 ^ n : Nat) : Int) := by simp
  have h4 : (2 : Nat) ^ 62 = 4611686018427387904 := by decide
  rw [e]
  rw [h4] at h3
  generalize 2 ^ n = P at h3 ⊢
  exact congrArg some (w64_id (by omega) (by omega))
theorem bit_of {x i : Nat} : (((x / 2 ^ i % 2 : Nat) : Int) = 1) ↔ x.testBit i = true := by
  rw [Nat.testBit_eq_decide_div_mod_eq, decide_eq_true_eq]; omega
theorem bit_at {x i : Nat} (hx : x < 9223372036854775808) (hi : i ≤ 64) : bit_and .i64 ((x / 2 ^ i : Nat) : Int) 1 = 1 ↔ x.testBit i = true := by
  have : x / 2 ^ i ≤ x := Nat.div_le_self ..
  rw [and_one (by omega), bit_of]
theorem mem_sl' {c : Nat → Bool} {v : Int} : ∀ {k : Nat}, v ∈ sl c k → ∃ j : Nat, v = (j : Int) ∧ j < k ∧ c j = true
  | 0, h => by simp [sl] at h
  | k + 1, h => by
    rw [sl] at h
    split at h
    · rename_i hc
      simp only [List.mem_append, List.mem_singleton] at h
      rcases h with h | h
      · obtain ⟨j, h1, h2, h3⟩ := mem_sl' h; exact ⟨j, h1, by omega, h3⟩
      · exact ⟨k, h, by omega, hc⟩
    · obtain ⟨j, h1, h2, h3⟩ := mem_sl' h; exact ⟨j, h1, by omega, h3⟩
end Go.Vs

namespace Go.Vs.G
open Go Go.Vs

/-- the lamps of a set -/
abbrev ixs (n x : Nat) : List Int := sl (fun i => x.testBit i) n
theorem ix_rng {n x : Nat} : ∀ v, v ∈ ixs n x → 0 ≤ v ∧ v < n := fun v hv => by
  obtain ⟨j, rfl, hj, _⟩ := mem_sl' hv; omega
theorem ix_len (n x : Nat) : (ixs n x).length ≤ n := sl_len _ _
theorem p16 {n : Nat} (h : n ≤ 16) : 2 ^ n ≤ 65536 := Nat.le_trans (Nat.pow_le_pow_right (by omega) h) (by decide)
theorem indicesOf_eq {n x : Nat} (hn : n ≤ 16) (hx : x < 2 ^ n) : impl_indicesOf (x : Int) = some (ixs n x) := by
  have h8 := p16 hn
  refine eq_of_wp ?_
  unfold impl_indicesOf
  -- where no bits are left
  have hex : ∃ m, m ≤ n ∧ x / 2 ^ m = 0 ∧ ∀ j, j < m → 0 < x / 2 ^ j := by
    have : ∀ d, x / 2 ^ d = 0 → ∃ m, m ≤ d ∧ x / 2 ^ m = 0 ∧ ∀ j, j < m → 0 < x / 2 ^ j := by
      intro d
      induction d with
      | zero => intro h; exact ⟨0, by omega, h, fun j hj => by omega⟩
      | succ d ih =>
        intro h
        by_cases h0 : x / 2 ^ d = 0
        · obtain ⟨m, h1, h2⟩ := ih h0; exact ⟨m, by omega, h2⟩
        · refine ⟨d + 1, Nat.le_refl _, h, fun j hj => ?_⟩
          have : x / 2 ^ d ≤ x / 2 ^ j := Nat.div_le_div_left (Nat.pow_le_pow_right (by omega) (by omega)) (Nat.pow_pos (by omega))
          exact Nat.lt_of_lt_of_le (Nat.pos_of_ne_zero h0) this
    exact this n (Nat.div_eq_of_lt hx)
  obtain ⟨m, hm, hz, hp⟩ := hex
  have hcut : ∀ k, m ≤ k → ixs k x = ixs m x := by
    intro k hk
    induction k with
    | zero => rw [show m = 0 by omega]
    | succ k ih =>
      rcases Nat.lt_or_ge k m with h1 | h1
      · rw [show m = k + 1 by omega]
      · have hb : x.testBit k = false := by
          rw [Nat.testBit_eq_decide_div_mod_eq, decide_eq_false_iff_not]
          have : x / 2 ^ k ≤ x / 2 ^ m := Nat.div_le_div_left (Nat.pow_le_pow_right (by omega) h1) (Nat.pow_pos (by omega))
          rw [hz] at this
          rw [Nat.le_zero.1 this]; decide
        rw [ixs, sl, hb, ← ih h1]; rfl
  refine wp_cnt (fun k => (ixs k x, (k : Int))) m rfl (by omega) (fun k hk => ?_) (b := ixs n x) ?_ (wp_some rfl)
  · have h1 := ix_len k x
    have h2 := hp k hk
    simp only
    rw [shr_nat (by omega), Option.bind_some, if_pos (by omega), Option.bind_some, w64_id (by omega) (by omega)]
    by_cases hb : x.testBit k = true
    · rw [if_pos ((bit_at (by omega) (by omega)).2 hb), app_ok (by simp; omega), Option.bind_some]
      simp only [ixs, sl, hb, if_true]; rfl
    · rw [if_neg (fun h => hb ((bit_at (by omega) (by omega)).1 h))]
      simp only [ixs, sl, hb, if_false]; rfl
  · simp only
    rw [shr_nat (by omega), Option.bind_some, if_neg (by omega), hcut n hm]
/-- the first difference decides -/
def lexlt : List Int → List Int → Bool
  | x :: a, y :: b => if x = y then lexlt a b else decide (x < y)
  | _, _ => false
def less (a b : List Int) : Bool := if a.length = b.length then lexlt a b else decide (a.length < b.length)
theorem lexlt_drop {a b : List Int} {i : Nat} (ha : i < a.length) (hb : i < b.length) : lexlt (a.drop i) (b.drop i) = if a[i] = b[i] then lexlt (a.drop (i + 1)) (b.drop (i + 1)) else decide (a[i] < b[i]) := by
  rw [List.drop_eq_getElem_cons ha, List.drop_eq_getElem_cons hb, lexlt]
theorem l11Less_eq {a b : List Int} (ha : a.length ≤ 1000000) : spec_l11Less a b = some (less a b) := by
  unfold spec_l11Less less
  by_cases hl : a.length = b.length
  · rw [if_pos (by omega), if_pos hl]
    refine eq_of_wp ?_
    refine wp_loop (fun i : Int => ∃ k : Nat, i = (k : Int) ∧ k ≤ a.length ∧ lexlt (a.drop k) (b.drop k) = lexlt a b) (fun i => (a.length - i).toNat) ⟨0, rfl, by omega, by simp⟩ (by omega) ?_
    rintro i ⟨k, rfl, hk, he⟩
    refine wp_ite (fun h => ?_) (fun h => ?_)
    · have h1 : k < a.length := by omega
      have h2 : k < b.length := by omega
      rw [at_of h1, Option.bind_some, at_of h2, Option.bind_some]
      rw [lexlt_drop h1 h2] at he
      refine wp_ite (fun h3 => ?_) (fun h3 => ?_)
      · rw [if_pos h3] at he
        rw [w64_succ h1 (by omega)]
        exact wp_some ⟨⟨k + 1, rfl, by omega, he⟩, by omega⟩
      · rw [if_neg h3] at he
        exact wp_some (wp_some he)
    · obtain rfl : k = a.length := by omega
      refine wp_some (wp_some ?_)
      rw [← he]; simp [lexlt]
  · rw [if_neg (by omega), if_neg hl]; congr 1; rw [decide_eq_decide]; omega
theorem cmp_eq (x y : Int) : cmp_Compare_int64_27 x y = some (if x < y then -1 else if x > y then 1 else 0) := by
  unfold cmp_Compare_int64_27 cmp_isNaN_int64_31
  simp only [decide_true, Bool.not_true, Option.bind_some, Bool.false_eq_true, if_false]
  split
  · rfl
  · split <;> rfl
theorem Compare_eq {a b : List Int} (hl : a.length = b.length) (ha : a.length ≤ 1000000) : ∃ r, slices_Compare_int64_int64_792 a b = some r ∧ decide (r < 0) = lexlt a b := by
  have key : wp (slices_Compare_int64_int64_792 a b) (fun r => decide (r < 0) = lexlt a b) := by
    unfold slices_Compare_int64_int64_792
    refine wp_loop (fun i : Int => ∃ k : Nat, i = (k : Int) ∧ k ≤ a.length ∧ lexlt (a.drop k) (b.drop k) = lexlt a b) (fun i => (a.length - i).toNat) ⟨0, rfl, by omega, by simp⟩ (by omega) ?_
    rintro i ⟨k, rfl, hk, he⟩
    refine wp_ite (fun h => ?_) (fun h => ?_)
    · have h1 : k < a.length := by omega
      have h2 : k < b.length := by omega
      rw [at_of h1, Option.bind_some, if_neg (by omega), at_of h2, Option.bind_some, cmp_eq, Option.bind_some]
      rw [lexlt_drop h1 h2] at he
      refine wp_ite (fun h3 => ?_) (fun h3 => ?_)
      · have hh : a[k] = b[k] := by
          split at h3
          · omega
          · split at h3 <;> omega
        rw [if_pos hh] at he
        rw [w64_succ h1 (by omega)]
        exact wp_some ⟨⟨k + 1, rfl, by omega, he⟩, by omega⟩
      · refine wp_some (wp_some ?_)
        by_cases hlt : a[k] < b[k]
        · rw [if_neg (by omega), decide_eq_true hlt] at he
          rw [if_pos hlt, ← he]; rfl
        · have hh : a[k] ≠ b[k] := fun hh => h3 (by rw [if_neg hlt, if_neg (by omega)])
          rw [if_neg hh, decide_eq_false hlt] at he
          rw [if_neg hlt, if_pos (by omega), ← he]; rfl
    · obtain rfl : k = a.length := by omega
      refine wp_some ?_
      rw [if_neg (by omega)]
      refine wp_some ?_
      rw [← he]; simp [lexlt]
  exact key
theorem bind_eq {α β : Type} {A : Option α} {v : α} {k : α → Option β} {r : Option β} (h : A = some v) (h2 : k v = r) : A.bind k = r := by rw [h]; exact h2
end Go.Vs.G

namespace Go.Vs
open Go
/-- how many of a list fit -/
theorem cntL {α R γ : Type} (p : α → Bool) (l : List α) (hl : l.length ≤ 1000000) {body : Int × Int → Option (Step (Int × Int) Int R)} {kb : Int → Option γ} {kr : R → Option γ}
    (hb : ∀ (k : Nat) (h : k < l.length) (c : Int), 0 ≤ c → c ≤ 1000000 → body (c, (k : Int)) = some (.next (if p l[k] = true then c + 1 else c, (k : Int) + 1))) (he : ∀ c : Int, body (c, (l.length : Int)) = some (.brk c)) :
    onL (loop body loopLim (0, 0)) kb kr = kb ((l.countP p : Nat) : Int) := by
  have := loop_brk (body := body) (fun k : Nat => ((((l.take k).countP p : Nat) : Int), (k : Int))) (b := ((l.countP p : Nat) : Int)) l.length (by omega) (fun k hk => by
    have hc : (l.take k).countP p ≤ k := Nat.le_trans List.countP_le_length (by simp; omega)
    have e : l.take (k + 1) = l.take k ++ [l[k]] := by rw [List.take_add_one, List.getElem?_eq_getElem hk]; rfl
    rw [hb k hk _ (by omega) (by omega), e, List.countP_append]
    cases hp : p l[k] with
    | true => simp [hp]
    | false => simp [hp]) (by rw [he]; simp)
  simp only [List.take_zero, List.countP_nil, Int.natCast_zero] at this
  rw [this]; rfl
end Go.Vs
namespace Go.Vs.G
open Go Go.Vs
/-- does one of the lenses before k that are chosen suit? -/
def anyc (h : GLensHall) (s : Int) (st : List Int) (c : Nat → Bool) : Nat → Bool
  | 0 => false
  | k + 1 => anyc h s st c k || (c k && sut h s (gz st k))
theorem anyc_iff {h : GLensHall} {s : Int} {st : List Int} {c : Nat → Bool} : ∀ {k : Nat}, anyc h s st c k = true ↔ ∃ j, j < k ∧ c j = true ∧ sut h s (gz st j) = true
  | 0 => by simp [anyc]
  | k + 1 => by
    rw [anyc, Bool.or_eq_true, anyc_iff, Bool.and_eq_true]
    constructor
    · rintro (⟨j, h1, h2⟩ | h)
      · exact ⟨j, by omega, h2⟩
      · exact ⟨k, by omega, h⟩
    · rintro ⟨j, h1, h2⟩
      rcases Nat.lt_or_ge j k with h3 | h3
      · exact .inl ⟨j, h3, h2⟩
      · obtain rfl : j = k := by omega
        exact .inr h2
theorem anyc_map {h : GLensHall} {s : Int} {st : List Int} {c : Nat → Bool} : ∀ k : Nat, (((sl c k).map fun v => gz st v.toNat).any fun f => sut h s f) = anyc h s st c k
  | 0 => rfl
  | k + 1 => by
    rw [sl, anyc]
    cases hc : c k with
    | true => simp only [if_true, List.map_append, List.any_append, anyc_map k, Bool.true_and]; simp
    | false => simp only [Bool.false_eq_true, if_false, anyc_map k, Bool.false_and, Bool.or_false]
theorem anyc_all {h : GLensHall} {s : Int} {st : List Int} {c : Nat → Bool} (hc : ∀ i, i < st.length → c i = true) : (st.any fun f => sut h s f) = anyc h s st c st.length := by
  rw [Bool.eq_iff_iff, anyc_iff, List.any_eq_true]
  constructor
  · rintro ⟨f, hf, h2⟩
    obtain ⟨i, hi, rfl⟩ := List.getElem_of_mem hf
    exact ⟨i, hi, hc i hi, by rw [gz_of hi]; exact h2⟩
  · rintro ⟨i, hi, _, h2⟩
    exact ⟨_, gz_mem hi, h2⟩
theorem anySuits_eq (h : GLensHall) (s : Int) {st : List Int} (hl : st.length ≤ 1000000) : impl_anySuits h s st = some (st.any fun f => sut h s f) := by
  unfold impl_anySuits
  have hcf : slices_ContainsFunc_int64_int64_796 st (fun a0 => impl_anySuits_1 a0 h s) = some (st.any fun f => sut h s f) := by
    unfold slices_ContainsFunc_int64_int64_796 slices_IndexFunc_int64_int64_818
    refine contS (fun f => sut h s f) st (fun f hf => ?_) (by omega) (fun _ => rfl)
    unfold impl_anySuits_1
    rw [suits_eq, Option.bind_some]
  rw [hcf, Option.bind_some]
/-- the halls that are left by stock st -/
def lft (l : List GLensHall) (s : Int) (st : List Int) : List Int := sl (fun i => !(st.any fun f => sut (gz l i) s f)) l.length
theorem lft_len (l : List GLensHall) (s : Int) (st : List Int) : (lft l s st).length ≤ l.length := sl_len _ _
theorem hallsLeft_eq {l : List GLensHall} {s : Int} {st : List Int} (hl : l.length ≤ 1000000) (hst : st.length ≤ 1000000) : impl_hallsLeft l s st = some (lft l s st) := by
  unfold impl_hallsLeft lft
  refine selS (fun i => !(st.any fun f => sut (gz l i) s f)) l.length hl (fun k out hk ho => ?_) (fun out => by simp only; rw [if_neg (by omega)])
  simp only
  rw [if_pos (by omega), at_gz hk, Option.bind_some, anySuits_eq _ _ hst, Option.bind_some, w64_id (by omega) (by omega), app_ok (by simp; omega), Option.bind_some]
  cases (st.any fun f => sut (gz l k) s f) <;> rfl
/-- the halls that the set x leaves -/
def lftx (l : List GLensHall) (s : Int) (st : List Int) (x : Nat) : List Int := sl (fun i => !(anyc (gz l i) s st (fun k => x.testBit k) st.length)) l.length
theorem l11Left_eq {l : List GLensHall} {s : Int} {st : List Int} {x : Nat} (hl : l.length ≤ 1000000) (hst : st.length ≤ 16) (hx : x < 2 ^ st.length) : spec_l11Left l s st (x : Int) = some (lftx l s st x) := by
  have h16 := p16 hst
  unfold spec_l11Left lftx
  refine selS (fun i => !(anyc (gz l i) s st (fun k => x.testBit k) st.length)) l.length hl (fun k out hk ho => ?_) (fun out => by simp only; rw [if_neg (by omega)])
  simp only
  rw [if_pos (by omega)]
  have hin : loop (S := (Bool × Int)) (B := Bool) (R := Empty) (fun ((found1, k1) : Bool × Int) =>
 if k1 < (st.length : Int) then
 (if found1 then
 (some (.next (true, w64 (k1 + 1))))
 else
 (shr? .i64 (x : Int) (IntKind.wrap .u64 (k1))).bind fun q1 =>
 if (bit_and .i64 q1 1) = 1 then
 ((at? l (k : Int)).bind fun v1 =>
 (at? st k1).bind fun v2 =>
 (spec_l11Suits v1 s v2).bind fun r1 =>
 some (.next (r1, w64 (k1 + 1))))
 else
 some (.next (false, w64 (k1 + 1))))
 else
 some (.brk found1)) loopLim (false, 0) = some (.brk (anyc (gz l k) s st (fun k => x.testBit k) st.length)) := by
    have := loop_brk (R := Empty) (body := fun ((found1, k1) : Bool × Int) =>
 if k1 < (st.length : Int) then
 (if found1 then
 (some (.next (true, w64 (k1 + 1))))
 else
 (shr? .i64 (x : Int) (IntKind.wrap .u64 (k1))).bind fun q1 =>
 if (bit_and .i64 q1 1) = 1 then
 ((at? l (k : Int)).bind fun v1 =>
 (at? st k1).bind fun v2 =>
 (spec_l11Suits v1 s v2).bind fun r1 =>
 some (.next (r1, w64 (k1 + 1))))
 else
 some (.next (false, w64 (k1 + 1))))
 else
 some (.brk found1)) (fun j : Nat => (anyc (gz l k) s st (fun k => x.testBit k) j, (j : Int))) (b := anyc (gz l k) s st (fun k => x.testBit k) st.length) st.length (by omega) (fun j hj => by
      simp only
      rw [if_pos (by omega), w64_id (by omega) (by omega), anyc]
      cases ha : anyc (gz l k) s st (fun k => x.testBit k) j with
      | true => rfl
      | false =>
        simp only [Bool.false_eq_true, if_false, Bool.false_or]
        rw [shr_nat (by omega), Option.bind_some]
        by_cases hb : x.testBit j = true
        · rw [if_pos ((bit_at (by omega) (by omega)).2 hb), at_gz hk, at_gz hj, Option.bind_some, Option.bind_some, l11Suits_fn, suits_eq, Option.bind_some, hb, Bool.true_and]; rfl
        · rw [if_neg (fun h => hb ((bit_at (by omega) (by omega)).1 h))]
          have hb : x.testBit j = false := by simpa using hb
          rw [hb, Bool.false_and]; rfl) (by simp only; rw [if_neg (by omega)])
    simpa only [anyc, Int.natCast_zero] using this
  rw [hin]
  simp only [onL]
  rw [w64_id (by omega) (by omega), app_ok (by simp; omega), Option.bind_some]
  cases (anyc (gz l k) s st (fun k => x.testBit k) st.length) <;> rfl
theorem lftx_all {l : List GLensHall} {s : Int} {st : List Int} : lftx l s st (2 ^ st.length - 1) = lft l s st := by
  unfold lftx lft
  refine sl_congr fun i hi => ?_
  rw [anyc_all (c := fun k => (2 ^ st.length - 1).testBit k)]
  intro k hk
  rw [Nat.testBit_two_pow_sub_one]; exact decide_eq_true hk
theorem l11Code_eq {l : List GLensHall} {s : Int} {st : List Int} (hl : l.length ≤ 1000000) (hst : st.length ≤ 1000000) : spec_l11Code l s st = some (if vhs l = true then (if (vsl s && vst st) = true then 0 else 2) else 1) := by
  unfold spec_l11Code
  rw [l11Ok_eq hl, Option.bind_some, l11Slide_eq, Option.bind_some, l11Stock_eq hst, Option.bind_some]
  cases vhs l <;> cases vsl s <;> cases vst st <;> rfl
theorem code1_eq {l : List GLensHall} {s : Int} {st : List Int} (hst : st.length ≤ 1000000) : impl_hallsCode (vhs l) s 1 st = some (if vhs l = true then (if (vsl s && vst st) = true then 0 else 2) else 1) := by
  rw [hallsCode_eq _ _ _ hst, show vf1 1 = true from rfl, Bool.and_true]
theorem HallsLeft_eq {l : List GLensHall} {s : Int} {st : List Int} (hl : l.length ≤ 1000000) (hst : st.length ≤ 1000000) : impl_HallsLeft l s st = some (if vhs l = true then (if (vsl s && vst st) = true then (lft l s st, 0) else ([], 2)) else ([], 1)) := by
  unfold impl_HallsLeft
  rw [ValidLensHalls_eq hl, Option.bind_some, code1_eq hst, Option.bind_some, hallsLeft_eq hl hst, Option.bind_some]
  cases vhs l <;> cases (vsl s && vst st) <;> rfl
theorem vst_len {st : List Int} (h : vst st = true) : st.length ≤ 12 := by
  unfold vst at h
  simp only [Bool.and_eq_true, decide_eq_true_eq] at h
  exact h.1
theorem HallsLeft_spec {l : List GLensHall} {s : Int} {st : List Int} (hl : l.length ≤ 1000000) (hst : st.length ≤ 1000000) : spec_HallsLeft l s st = some (if vhs l = true then (if (vsl s && vst st) = true then (lft l s st, 0) else ([], 2)) else ([], 1)) := by
  unfold spec_HallsLeft
  rw [l11Code_eq hl hst, Option.bind_some]
  cases hv : vhs l with
  | false => rfl
  | true =>
    cases hs : (vsl s && vst st) with
    | false => rfl
    | true =>
      simp only [if_true]
      have h12 := vst_len (Bool.and_eq_true_iff.1 hs).2
      have h16 := p16 (n := st.length) (by omega)
      have hp : 0 < 2 ^ st.length := Nat.pow_pos (by omega)
      rw [shl_one (by omega), Option.bind_some, w64_id (by omega) (by omega), show (((2 ^ st.length : Nat) : Int) - 1) = ((2 ^ st.length - 1 : Nat) : Int) by omega, l11Left_eq hl (by omega) (by omega), Option.bind_some, lftx_all]
end Go.Vs.G

namespace Go.Vs.G
open Go Go.Vs
/-- the set x covers all halls -/
def cov (l : List GLensHall) (s : Int) (st : List Int) (x : Nat) : Bool := decide ((lftx l s st x).length = 0)
theorem cov_iff {l : List GLensHall} {s : Int} {st : List Int} {x : Nat} : cov l s st x = true ↔ ∀ i, i < l.length → anyc (gz l i) s st (fun k => x.testBit k) st.length = true := by
  unfold cov lftx
  rw [decide_eq_true_eq, sl_nil]
  exact ⟨fun h i hi => by simpa using h i hi, fun h i hi => by simpa using h i hi⟩
/-- the first best set -/
def bset (l : List GLensHall) (s : Int) (st : List Int) : Nat → Option Nat
  | 0 => none
  | x + 1 => if cov l s st x = true then (match bset l s st x with | none => some x | some b => if less (ixs st.length x) (ixs st.length b) = true then some x else some b) else bset l s st x
theorem bset_some {l : List GLensHall} {s : Int} {st : List Int} : ∀ {N b : Nat}, bset l s st N = some b → b < N ∧ cov l s st b = true
  | N + 1, b, h => by
    rw [bset] at h
    split at h
    · rename_i hc
      split at h
      · cases h; exact ⟨by omega, hc⟩
      · rename_i c hb
        obtain ⟨h1, h2⟩ := bset_some hb
        split at h
        · cases h; exact ⟨by omega, hc⟩
        · cases h; exact ⟨by omega, h2⟩
    · obtain ⟨h1, h2⟩ := bset_some h
      exact ⟨by omega, h2⟩
theorem bset_none {l : List GLensHall} {s : Int} {st : List Int} : ∀ {N : Nat}, bset l s st N = none → ∀ x, x < N → cov l s st x = false
  | N + 1, h, x, hx => by
    rw [bset] at h
    split at h
    · split at h
      · cases h
      · split at h <;> cases h
    · rename_i hc
      rcases Nat.lt_or_ge x N with h1 | h1
      · exact bset_none h x h1
      · rw [show x = N by omega]; simpa using hc
def encF (n : Nat) : Option Nat → List Int × Bool
  | none => ([], false)
  | some b => (ixs n b, true)
section
variable {l : List GLensHall} {s : Int} {st : List Int} (hl : l.length ≤ 1000000) (hst : st.length ≤ 12)
include hl hst
theorem Few_impl_loop {kb : List Int × Bool → Option (List Int × Int)} {N : Nat} (hN : N = 2 ^ st.length) : onL (loop (S := ((List Int) × Bool × Int)) (B := ((List Int) × Bool)) (R := Empty) (fun ((best1, found1, x1) : (List Int) × Bool × Int) =>
 if x1 < (N : Int) then
 ((impl_indicesOf x1).bind fun r3 =>
 onL (loop (S := ((List Int) × Int)) (B := (List Int)) (R := Empty) (fun ((lenses1, x2) : (List Int) × Int) =>
 if x2 < (r3.length : Int) then
 ((at? r3 x2).bind fun v1 =>
 (at? st v1).bind fun v2 =>
 (app? lenses1 ([v2] : List Int)).bind fun l1 =>
 some (.next (l1, w64 (x2 + 1))))
 else
 some (.brk lenses1)) loopLim ([], 0))
 (fun (lenses2 : List Int) => (slices_ContainsFunc_impl_LensHall_impl_LensHall_802 l (fun a0 => impl_FewestLenses_1 a0 s lenses2)).bind fun r4 =>
 if r4 then
 (some (.next (best1, found1, w64 (x1 + 1))))
 else
 ((if found1 then
 (if (r3.length : Int) < (best1.length : Int) then
 (some true)
 else
 if (r3.length : Int) = (best1.length : Int) then
 ((slices_Compare_int64_int64_792 r3 best1).bind fun r5 =>
 some (decide (r5 < 0)))
 else
 some false)
 else
 some true) : Option Bool).bind fun (x3 : Bool) =>
 if x3 then
 (some (.next (r3, true, w64 (x1 + 1))))
 else
 some (.next (best1, found1, w64 (x1 + 1)))) Empty.elim)
 else
 some (.brk (best1, found1))) loopLim ([], false, 0)) kb Empty.elim = kb (encF st.length (bset l s st N)) := by
  have h16 := p16 (n := st.length) (by omega)
  have := loop_brk (R := Empty) (body := fun ((best1, found1, x1) : (List Int) × Bool × Int) =>
 if x1 < (N : Int) then
 ((impl_indicesOf x1).bind fun r3 =>
 onL (loop (S := ((List Int) × Int)) (B := (List Int)) (R := Empty) (fun ((lenses1, x2) : (List Int) × Int) =>
 if x2 < (r3.length : Int) then
 ((at? r3 x2).bind fun v1 =>
 (at? st v1).bind fun v2 =>
 (app? lenses1 ([v2] : List Int)).bind fun l1 =>
 some (.next (l1, w64 (x2 + 1))))
 else
 some (.brk lenses1)) loopLim ([], 0))
 (fun (lenses2 : List Int) => (slices_ContainsFunc_impl_LensHall_impl_LensHall_802 l (fun a0 => impl_FewestLenses_1 a0 s lenses2)).bind fun r4 =>
 if r4 then
 (some (.next (best1, found1, w64 (x1 + 1))))
 else
 ((if found1 then
 (if (r3.length : Int) < (best1.length : Int) then
 (some true)
 else
 if (r3.length : Int) = (best1.length : Int) then
 ((slices_Compare_int64_int64_792 r3 best1).bind fun r5 =>
 some (decide (r5 < 0)))
 else
 some false)
 else
 some true) : Option Bool).bind fun (x3 : Bool) =>
 if x3 then
 (some (.next (r3, true, w64 (x1 + 1))))
 else
 some (.next (best1, found1, w64 (x1 + 1)))) Empty.elim)
 else
 some (.brk (best1, found1))) (fun x : Nat => ((encF st.length (bset l s st x)).1, (encF st.length (bset l s st x)).2, (x : Int))) (b := encF st.length (bset l s st N)) N (by omega) (fun x hx => by
    have hxl : x < 2 ^ st.length := by omega
    have hln := ix_len st.length x
    simp only
    rw [if_pos (by omega), indicesOf_eq (by omega) hxl, Option.bind_some]
    rw [mapS (f := fun v => at? st v) (fun v => gz st v.toNat) (ixs st.length x) (fun v hv => by
      have := ix_rng v hv
      rw [show v = ((v.toNat : Nat) : Int) by omega, at_gz (by omega), Int.toNat_natCast]) (by omega) (fun out i => rfl)]
    have hcf : slices_ContainsFunc_impl_LensHall_impl_LensHall_802 l (fun a0 => impl_FewestLenses_1 a0 s ((ixs st.length x).map fun v => gz st v.toNat)) = some (!cov l s st x) := by
      have h1 : slices_ContainsFunc_impl_LensHall_impl_LensHall_802 l (fun a0 => impl_FewestLenses_1 a0 s ((ixs st.length x).map fun v => gz st v.toNat)) = some (l.any fun h => !(anyc h s st (fun k => x.testBit k) st.length)) := by
        unfold slices_ContainsFunc_impl_LensHall_impl_LensHall_802 slices_IndexFunc_impl_LensHall_impl_LensHall_824
        refine contS (fun h => !(anyc h s st (fun k => x.testBit k) st.length)) l (fun h hh => ?_) (by omega) (fun _ => rfl)
        unfold impl_FewestLenses_1
        rw [anySuits_eq _ _ (by simp; omega), Option.bind_some, anyc_map]
      rw [h1]
      have h2 : (!(l.any fun h => !(anyc h s st (fun k => x.testBit k) st.length))) = cov l s st x := by
       rw [List.not_any_eq_all_not, Bool.eq_iff_iff, cov_iff, List.all_eq_true]
       constructor
       · intro h i hi
         have := h _ (gz_mem hi)
         simpa using this
       · intro h g hg
         obtain ⟨i, hi, rfl⟩ := List.getElem_of_mem hg
         have := h i hi
         rw [gz_of hi] at this
         simpa using this
      rw [← h2, Bool.not_not]
    rw [hcf, Option.bind_some, w64_id (by omega) (by omega), bset]
    cases hc : cov l s st x with
    | false => rfl
    | true =>
      simp only [Bool.not_true, Bool.false_eq_true, if_false, if_true]
      cases hb : bset l s st x with
      | none => rfl
      | some b =>
        have hbl := ix_len st.length b
        simp only [encF, if_true]
        have e : ((if ((ixs st.length x).length : Int) < ((ixs st.length b).length : Int) then (some true) else if ((ixs st.length x).length : Int) = ((ixs st.length b).length : Int) then
            ((slices_Compare_int64_int64_792 (ixs st.length x) (ixs st.length b)).bind fun r5 => some (decide (r5 < 0))) else some false) : Option Bool) = some (less (ixs st.length x) (ixs st.length b)) := by
          unfold less
          by_cases h1 : (ixs st.length x).length < (ixs st.length b).length
          · rw [if_pos (by omega), if_neg (by omega), decide_eq_true h1]
          · rw [if_neg (by omega)]
            by_cases h2 : (ixs st.length x).length = (ixs st.length b).length
            · obtain ⟨r, hr, hr2⟩ := Compare_eq (a := ixs st.length x) (b := ixs st.length b) h2 (by omega)
              rw [if_pos (by omega), if_pos h2, hr, Option.bind_some, hr2]
            · rw [if_neg (by omega), if_neg h2, decide_eq_false h1]
        refine bind_eq e ?_
        cases less (ixs st.length x) (ixs st.length b) <;> rfl) (by simp only; rw [if_neg (by omega)])
  rw [show ((encF st.length (bset l s st 0)).1, (encF st.length (bset l s st 0)).2, ((0 : Nat) : Int)) = (([] : List Int), false, (0 : Int)) from rfl] at this
  rw [this]; rfl
theorem Few_spec_loop {kb : List Int × Bool → Option (List Int × Int)} {N : Nat} (hN : N = 2 ^ st.length) : onL (loop (S := ((List Int) × Bool × Int)) (B := ((List Int) × Bool)) (R := Empty) (fun ((best1, found1, bits1) : (List Int) × Bool × Int) =>
 (shl? .i64 1 (IntKind.wrap .u64 ((st.length : Int)))).bind fun q1 =>
 if bits1 < q1 then
 (onL (loop (S := ((List Int) × Int)) (B := (List Int)) (R := Empty) (fun ((some_1, k1) : (List Int) × Int) =>
 if k1 < (st.length : Int) then
 ((shr? .i64 bits1 (IntKind.wrap .u64 (k1))).bind fun q2 =>
 if (bit_and .i64 q2 1) = 1 then
 ((app? some_1 ([k1] : List Int)).bind fun l1 =>
 some (.next (l1, w64 (k1 + 1))))
 else
 some (.next (some_1, w64 (k1 + 1))))
 else
 some (.brk some_1)) loopLim ([], 0))
 (fun (some_2 : List Int) => ((if found1 then
 ((spec_l11Less some_2 best1).bind fun r2 =>
 if r2 then
 ((spec_l11Left l s st bits1).bind fun r3 =>
 some (decide ((r3.length : Int) = 0)))
 else
 some false)
 else
 (spec_l11Left l s st bits1).bind fun r4 =>
 some (decide ((r4.length : Int) = 0))) : Option Bool).bind fun (x1 : Bool) =>
 if x1 then
 (some (.next (some_2, true, w64 (bits1 + 1))))
 else
 some (.next (best1, found1, w64 (bits1 + 1)))) Empty.elim)
 else
 some (.brk (best1, found1))) loopLim ([], false, 0)) kb Empty.elim = kb (encF st.length (bset l s st N)) := by
  have h16 := p16 (n := st.length) (by omega)
  rw [shl_one (by omega)]
  simp only [Option.bind_some]
  rw [← hN]
  have := loop_brk (R := Empty) (body := fun ((best1, found1, bits1) : (List Int) × Bool × Int) =>
 if bits1 < (N : Int) then
 (onL (loop (S := ((List Int) × Int)) (B := (List Int)) (R := Empty) (fun ((some_1, k1) : (List Int) × Int) =>
 if k1 < (st.length : Int) then
 ((shr? .i64 bits1 (IntKind.wrap .u64 (k1))).bind fun q2 =>
 if (bit_and .i64 q2 1) = 1 then
 ((app? some_1 ([k1] : List Int)).bind fun l1 =>
 some (.next (l1, w64 (k1 + 1))))
 else
 some (.next (some_1, w64 (k1 + 1))))
 else
 some (.brk some_1)) loopLim ([], 0))
 (fun (some_2 : List Int) => ((if found1 then
 ((spec_l11Less some_2 best1).bind fun r2 =>
 if r2 then
 ((spec_l11Left l s st bits1).bind fun r3 =>
 some (decide ((r3.length : Int) = 0)))
 else
 some false)
 else
 (spec_l11Left l s st bits1).bind fun r4 =>
 some (decide ((r4.length : Int) = 0))) : Option Bool).bind fun (x1 : Bool) =>
 if x1 then
 (some (.next (some_2, true, w64 (bits1 + 1))))
 else
 some (.next (best1, found1, w64 (bits1 + 1)))) Empty.elim)
 else
 some (.brk (best1, found1))) (fun x : Nat => ((encF st.length (bset l s st x)).1, (encF st.length (bset l s st x)).2, (x : Int))) (b := encF st.length (bset l s st N)) N (by omega) (fun x hx => by
    have hxl : x < 2 ^ st.length := by omega
    have hln := ix_len st.length x
    simp only
    rw [if_pos (by omega)]
    rw [selS (fun k => x.testBit k) st.length (by omega) (fun k out hk ho => by
      simp only
      rw [if_pos (by omega), shr_nat (by omega), Option.bind_some, w64_id (by omega) (by omega), app_ok (by simp; omega), Option.bind_some]
      by_cases hb : x.testBit k = true
      · rw [if_pos ((bit_at (by omega) (by omega)).2 hb), if_pos hb]
      · rw [if_neg (fun h => hb ((bit_at (by omega) (by omega)).1 h)), if_neg hb]) (fun out => by simp only; rw [if_neg (by omega)])]
    rw [show sl (fun k => x.testBit k) st.length = ixs st.length x from rfl, l11Left_eq hl (by omega) hxl, Option.bind_some, w64_id (by omega) (by omega), bset]
    have hcd : decide (((lftx l s st x).length : Int) = 0) = cov l s st x := decide_eq_decide.2 (by omega)
    rw [hcd]
    cases hb : bset l s st x with
    | none =>
      simp only [encF, Bool.false_eq_true, if_false, Option.bind_some]
      cases cov l s st x <;> rfl
    | some b =>
      simp only [encF, if_true]
      rw [l11Less_eq (by omega), Option.bind_some]
      cases cov l s st x <;> cases less (ixs st.length x) (ixs st.length b) <;> rfl) (by simp only; rw [if_neg (by omega)])
  rw [show ((encF st.length (bset l s st 0)).1, (encF st.length (bset l s st 0)).2, ((0 : Nat) : Int)) = (([] : List Int), false, (0 : Int)) from rfl] at this
  rw [this]; rfl
end
theorem Fewest_same {l : List GLensHall} {s : Int} {st : List Int} (hl : l.length ≤ 1000000) (hst : st.length ≤ 1000000) : ∃ r : List Int × Int, impl_FewestLenses l s st = some r ∧ spec_FewestLenses l s st = some r ∧ r.1.length ≤ 12 ∧
    (vhs l = true → (vsl s && vst st) = true → ((∃ b, b < 2 ^ st.length ∧ cov l s st b = true ∧ r = (ixs st.length b, 0)) ∨ (r = ([], 3) ∧ ∀ x, x < 2 ^ st.length → cov l s st x = false))) ∧
    ((vhs l = false ∨ (vsl s && vst st) = false) → r.2 ≠ 0) := by
  unfold impl_FewestLenses spec_FewestLenses
  rw [ValidLensHalls_eq hl, Option.bind_some, code1_eq hst, Option.bind_some, l11Code_eq hl hst, Option.bind_some]
  cases hv : vhs l with
  | false => exact ⟨([], 1), rfl, rfl, by simp, fun hc => by simp at hc, fun _ => by decide⟩
  | true =>
    cases hs : (vsl s && vst st) with
    | false => exact ⟨([], 2), rfl, rfl, by simp, fun _ hc => by simp at hc, fun _ => by decide⟩
    | true =>
      have h12 := vst_len (Bool.and_eq_true_iff.1 hs).2
      simp only [if_true]
      obtain ⟨N, hN⟩ : ∃ N, N = 2 ^ st.length := ⟨_, rfl⟩
      rw [Few_spec_loop hl h12 hN, shl_one (by omega), Option.bind_some, ← hN, Few_impl_loop hl h12 hN]
      cases hb : bset l s st N with
      | none =>
        refine ⟨([], 3), rfl, rfl, by simp, fun _ _ => .inr ⟨rfl, bset_none hb⟩, fun hc => by simp at hc⟩
      | some b =>
        obtain ⟨g1, g2⟩ := bset_some hb
        have := ix_len st.length b
        refine ⟨(ixs st.length b, 0), rfl, rfl, by simp only; omega, fun _ _ => .inl ⟨b, g1, g2, rfl⟩, fun hc => by simp at hc⟩
/- the best lens -/
def cnt (l : List GLensHall) (s : Int) (r : List Int) (f : Int) : Int := ((r.countP (fun v => sut (gz l v.toNat) s f) : Nat) : Int)
def bm (l : List GLensHall) (s : Int) (r : List Int) : Nat → Int × Int
  | 0 => (0, 0)
  | k + 1 => if cnt l s r ((k : Int) + 1) > (bm l s r k).2 then ((k : Int) + 1, cnt l s r ((k : Int) + 1)) else bm l s r k
theorem bm_spec (l : List GLensHall) (s : Int) (r : List Int) : ∀ k, bm l s r k = (0, 0) ∨ (1 ≤ (bm l s r k).1 ∧ (bm l s r k).1 ≤ k ∧ (bm l s r k).2 = cnt l s r (bm l s r k).1 ∧ 1 ≤ (bm l s r k).2)
  | 0 => .inl rfl
  | k + 1 => by
    have ih := bm_spec l s r k
    rw [bm]
    split
    · rename_i hc
      have h0 : 0 ≤ (bm l s r k).2 := by rcases ih with h | ⟨_, _, _, h⟩
                                         · rw [h]; omega
                                         · omega
      exact .inr ⟨by simp only; omega, by simp only; omega, rfl, by simp only; omega⟩
    · rcases ih with h | ⟨h1, h2, h3, h4⟩
      · exact .inl h
      · exact .inr ⟨h1, by omega, h3, h4⟩
theorem bmLoop {l : List GLensHall} {s : Int} {r : List Int} {γ : Type} {kb : Int × Int → Option γ} {N : Nat} (hN : N = 2000) (hr : r.length ≤ 1000000) (hr2 : ∀ v, v ∈ r → 0 ≤ v ∧ v < l.length) : onL (loop (S := (Int × Int × Int)) (B := (Int × Int)) (R := Empty) (fun ((best1, most1, f1) : Int × Int × Int) =>
 if f1 ≤ 2000 then
 (onL (loop (S := (Int × Int)) (B := Int) (R := Empty) (fun ((count1, x1) : Int × Int) =>
 if x1 < (r.length : Int) then
 ((at? r x1).bind fun v1 =>
 (at? l v1).bind fun v2 =>
 (impl_suits v2 s f1).bind fun r4 =>
 if r4 then
 (some (.next (w64 (count1 + 1), w64 (x1 + 1))))
 else
 some (.next (count1, w64 (x1 + 1))))
 else
 some (.brk count1)) loopLim (0, 0))
 (fun (count2 : Int) => if count2 > most1 then
 (some (.next (f1, count2, w64 (f1 + 1))))
 else
 some (.next (best1, most1, w64 (f1 + 1)))) Empty.elim)
 else
 some (.brk (best1, most1))) loopLim (0, 0, 1)) kb Empty.elim = kb (bm l s r N) := by
  have := loop_brk (R := Empty) (body := fun ((best1, most1, f1) : Int × Int × Int) =>
 if f1 ≤ 2000 then
 (onL (loop (S := (Int × Int)) (B := Int) (R := Empty) (fun ((count1, x1) : Int × Int) =>
 if x1 < (r.length : Int) then
 ((at? r x1).bind fun v1 =>
 (at? l v1).bind fun v2 =>
 (impl_suits v2 s f1).bind fun r4 =>
 if r4 then
 (some (.next (w64 (count1 + 1), w64 (x1 + 1))))
 else
 some (.next (count1, w64 (x1 + 1))))
 else
 some (.brk count1)) loopLim (0, 0))
 (fun (count2 : Int) => if count2 > most1 then
 (some (.next (f1, count2, w64 (f1 + 1))))
 else
 some (.next (best1, most1, w64 (f1 + 1)))) Empty.elim)
 else
 some (.brk (best1, most1))) (fun k : Nat => ((bm l s r k).1, (bm l s r k).2, (k : Int) + 1)) (b := bm l s r N) N (by omega) (fun k hk => by
    simp only
    rw [if_pos (by omega)]
    rw [cntL (fun v => sut (gz l v.toNat) s ((k : Int) + 1)) r hr (fun j hj c c0 c1 => by
      have hv := hr2 _ (List.getElem_mem hj)
      simp only
      rw [if_pos (by omega), at_of hj, Option.bind_some, show at? l r[j] = some (gz l r[j].toNat) from by
        have := at_gz (l := l) (i := r[j].toNat) (by omega)
        rwa [show ((r[j].toNat : Nat) : Int) = r[j] by omega] at this, Option.bind_some, suits_eq, Option.bind_some, w64_id (n := c + 1) (by omega) (by omega), w64_id (n := (j : Int) + 1) (by omega) (by omega)]
      cases sut (gz l r[j].toNat) s ((k : Int) + 1) <;> rfl) (fun c => by simp only; rw [if_neg (by omega)])]
    rw [w64_id (by omega) (by omega), bm]
    unfold cnt
    split
    · rfl
    · rfl) (by simp only; rw [if_neg (by omega)])
  rw [show ((bm l s r 0).1, (bm l s r 0).2, ((0 : Nat) : Int) + 1) = ((0 : Int), (0 : Int), (1 : Int)) from rfl] at this
  rw [this]; rfl
theorem lft_mem {l : List GLensHall} {s : Int} {st : List Int} {v : Int} (h : v ∈ lft l s st) : 0 ≤ v ∧ v < l.length := by
  obtain ⟨j, rfl, hj, _⟩ := mem_sl' h; omega
theorem Best_same {l : List GLensHall} {s : Int} {st : List Int} (hl : l.length ≤ 1000000) (hst : st.length ≤ 1000000) : ∃ r : Int × Int × Int, impl_BestLensMore l s st = some r ∧ spec_BestLensMore l s st = some r ∧
    (r.2.2 = 0 → vhs l = true ∧ (vsl s && vst st) = true ∧ 1 ≤ r.1 ∧ r.1 ≤ 2000 ∧ r.2.1 = cnt l s (lft l s st) r.1 ∧ 1 ≤ r.2.1) := by
  unfold impl_BestLensMore spec_BestLensMore
  rw [ValidLensHalls_eq hl, Option.bind_some, code1_eq hst, Option.bind_some, l11Code_eq hl hst, Option.bind_some]
  cases hv : vhs l with
  | false => exact ⟨(0, 0, 1), rfl, rfl, fun hc => absurd hc (by decide)⟩
  | true =>
    cases hs : (vsl s && vst st) with
    | false => exact ⟨(0, 0, 2), rfl, rfl, fun hc => absurd hc (by decide)⟩
    | true =>
      have h12 := vst_len (Bool.and_eq_true_iff.1 hs).2
      have h16 := p16 (n := st.length) (by omega)
      have hp : 0 < 2 ^ st.length := Nat.pow_pos (by omega)
      have hll := lft_len l s st
      simp only [if_true]
      obtain ⟨N, hN⟩ : ∃ N : Nat, N = 2000 := ⟨_, rfl⟩
      rw [hallsLeft_eq hl hst, Option.bind_some, shl_one (by omega), Option.bind_some, w64_id (by omega) (by omega), show (((2 ^ st.length : Nat) : Int) - 1) = ((2 ^ st.length - 1 : Nat) : Int) by omega, l11Left_eq hl (by omega) (by omega), Option.bind_some, lftx_all, l11Suits_fn,
        bmLoop hN (by omega) (fun v hv => lft_mem hv)]
      rcases bm_spec l s (lft l s st) N with h | ⟨h1, h2, h3, h4⟩
      · rw [h]
        exact ⟨(0, 0, 3), rfl, rfl, fun hc => absurd hc (by decide)⟩
      · rw [if_neg (by omega)]
        exact ⟨_, rfl, rfl, fun _ => ⟨by trivial, by trivial, h1, by simp only; omega, h3, h4⟩⟩
theorem DrawAll_ok {code : List Int} (hc : okL (okI .u8) code) (hl : code.length ≤ 4096) : wp (spec_DrawFewestLenses code) fun r => r.1.length ≤ 9 ∧ r.2.2.length ≤ 13 := by
  unfold spec_DrawFewestLenses spec_l11All
  refine wp_seq (P := fun r : List GLensHall × Int × List Int => r.1.length ≤ 9 ∧ r.2.2.length ≤ 13) ?_ (fun r h => wp_some h)
  refine wp_from hc (by omega) fun s h => ?_
  refine wp_seq (l11Draw_ok h (by omega)) ?_
  rintro ⟨x, s1⟩ ⟨h1, h2⟩
  simp only at h1 h2 ⊢
  refine wp_seq (l11DrawSlide_ok h1 (by omega)) ?_
  rintro ⟨y, s2⟩ h3
  simp only at h3 ⊢
  refine wp_seq (l11DrawStock_ok h3 (by omega)) ?_
  rintro ⟨z, s3⟩ ⟨h4, h5⟩
  exact wp_some ⟨h2, h5⟩
end Go.Vs.G

namespace Go.Vs.G
open Go Go.Vs
theorem vst_all {st : List Int} (h : vst st = true) {i : Nat} (hi : i < st.length) : vf1 (gz st i) = true := by
  unfold vst at h
  simp only [Bool.and_eq_true, List.all_eq_true] at h
  exact h.2 _ (gz_mem hi)
theorem cov_lft {l : List GLensHall} {s : Int} {st : List Int} {b : Nat} (hb : cov l s st b = true) : (lft l s st).length = 0 := by
  unfold lft
  rw [sl_nil]
  intro i hi
  obtain ⟨j, h1, _, h3⟩ := anyc_iff.1 (cov_iff.1 hb i hi)
  have : (st.any fun f => sut (gz l i) s f) = true := List.any_eq_true.2 ⟨_, gz_mem h1, h3⟩
  simp [this]
theorem lft_cov {l : List GLensHall} {s : Int} {st : List Int} (h : (lft l s st).length = 0) : cov l s st (2 ^ st.length - 1) = true := by
  unfold cov; rw [lftx_all]; exact decide_eq_true h
theorem laws_FnLensSets_true {code : List Int} (hc : okL (okI .u8) code) : laws_FnLensSets code = some true := by
  refine eq_of_wp ?_
  unfold laws_FnLensSets laws_f6big
  rw [Option.bind_some]
  by_cases hl : code.length ≤ 4096
  case neg => rw [if_pos (decide_eq_true (by omega))]; exact wp_some rfl
  rw [if_neg (by simp; omega)]
  refine wp_seq (DrawAll_ok hc hl) ?_
  rintro ⟨l, s, st⟩ ⟨h9, h13⟩
  simp only at h9 h13 ⊢
  obtain ⟨r3, e3, e4, g3, f3, f3'⟩ := Fewest_same (l := l) (s := s) (st := st) (by omega) (by omega)
  rw [e3, e4, Option.bind_some, Option.bind_some, HallsLeft_eq (by omega) (by omega), HallsLeft_spec (by omega) (by omega), Option.bind_some, Option.bind_some]
  obtain ⟨r7, e7, e8, f7⟩ := Best_same (l := l) (s := s) (st := st) (by omega) (by omega)
  rw [e7, e8, Option.bind_some, Option.bind_some]
  have hll := lft_len l s st
  have l5 : ∀ b b' : Bool, (if b = true then (if b' = true then (lft l s st, (0 : Int)) else ([], 2)) else ([], 1)).1.length ≤ 9 := by
    intro b b'
    cases b <;> cases b' <;> simp <;> omega
  rw [f6intsT _ _ (show r3.1.length < 9223372036854775807 by omega), f6intsT _ _ (Nat.lt_of_le_of_lt (l5 _ _) (by omega))]
  unfold spec_ValidLensHalls
  rw [ValidLensHalls_eq (by omega), l11Ok_eq (by omega)]
  simp only [if_true, beq_self_eq_true, decide_true, Option.bind_some, Bool.not_true, Bool.false_eq_true, if_false]
  -- the last part
  have last : wp (if r3.2 = 0 then
 (onL (loop (S := ((List Int) × Int)) (B := (List Int)) (R := Empty) (fun ((chosen1, i2) : (List Int) × Int) =>
 if i2 < (r3.1.length : Int) then
 ((at? r3.1 i2).bind fun v2 =>
 (at? st v2).bind fun v3 =>
 (app? chosen1 ([v3] : List Int)).bind fun l1 =>
 some (.next (l1, w64 (i2 + 1))))
 else
 some (.brk chosen1)) loopLim ([], 0))
 (fun (chosen2 : List Int) => (impl_HallsLeft l s chosen2).bind fun r15 =>
 if r15.2 = 0 then
 (some (decide ((r15.1.length : Int) = 0)))
 else
 some false) Empty.elim)
 else
 some true) fun y => y = true := by
    refine wp_ite (fun h0 => ?_) (fun _ => wp_some rfl)
    cases hv : vhs l with
    | false => exact absurd h0 (f3' (.inl hv))
    | true =>
      cases hs : (vsl s && vst st) with
      | false => exact absurd h0 (f3' (.inr hs))
      | true =>
        rcases f3 hv hs with ⟨b, hb, hcb, rfl⟩ | ⟨rfl, _⟩
        · obtain ⟨hs1, hs2⟩ := Bool.and_eq_true_iff.1 hs
          have h12 := vst_len hs2
          have hln := ix_len st.length b
          simp only
          rw [mapS (f := fun v => at? st v) (fun v => gz st v.toNat) (ixs st.length b) (fun v hv => by
            have := ix_rng v hv
            rw [show v = ((v.toNat : Nat) : Int) by omega, at_gz (by omega), Int.toNat_natCast]) (by omega) (fun out i => rfl)]
          have hvs : vst ((ixs st.length b).map fun v => gz st v.toNat) = true := by
            unfold vst
            simp only [List.length_map, Bool.and_eq_true, decide_eq_true_eq, List.all_eq_true, List.mem_map]
            refine ⟨by omega, ?_⟩
            rintro x ⟨v, hv, rfl⟩
            have := ix_rng v hv
            exact vst_all hs2 (by omega)
          rw [HallsLeft_eq (by omega) (by simp; omega), Option.bind_some, hv, hs1, hvs]
          simp only [if_true, Bool.and_self]
          refine wp_some (decide_eq_true ?_)
          have : (lft l s ((ixs st.length b).map fun v => gz st v.toNat)).length = 0 := by
            unfold lft
            rw [sl_nil]
            intro i hi
            rw [anyc_map, cov_iff.1 hcb i hi]; rfl
          omega
        · exact absurd h0 (by decide)
  cases hv : vhs l with
  | false =>
    have hr3 := f3' (.inl hv)
    have hr7 : r7.2.2 ≠ 0 := fun h => by have := (f7 h).1; rw [hv] at this; cases this
    simp only [Bool.false_eq_true, if_false]
    rw [if_neg (by decide), Option.bind_some, if_neg (by decide)]
    refine wp_onS ?_
    rw [if_neg hr7]
    exact wp_some last
  | true =>
    cases hs : (vsl s && vst st) with
    | false =>
      have hr3 := f3' (.inr hs)
      have hr7 : r7.2.2 ≠ 0 := fun h => by have := (f7 h).2.1; rw [hs] at this; cases this
      simp only [Bool.false_eq_true, if_false, if_true]
      rw [if_neg (by decide), Option.bind_some, if_neg (by decide)]
      refine wp_onS ?_
      rw [if_neg hr7]
      exact wp_some last
    | true =>
      obtain ⟨hs1, hs2⟩ := Bool.and_eq_true_iff.1 hs
      have h12 := vst_len hs2
      simp only [if_true]
      have hx : (decide (((lft l s st).length : Int) = 0)) = decide (r3.2 = 0) := by
        rcases f3 hv hs with ⟨b, hb, hcb, rfl⟩ | ⟨rfl, hn⟩
        · rw [decide_eq_true (by have := cov_lft hcb; omega)]; rfl
        · have : ¬ ((lft l s st).length : Int) = 0 := fun h => by
            have hcv := lft_cov (l := l) (s := s) (st := st) (by omega)
            have hp : 0 < 2 ^ st.length := Nat.pow_pos (by omega)
            rw [hn _ (by omega)] at hcv
            cases hcv
          rw [decide_eq_false this]; rfl
      rw [hx, beq_self_eq_true, Bool.not_true, Option.bind_some, if_neg (by decide)]
      refine wp_onS ?_
      refine wp_ite (fun h0 => ?_) (fun _ => wp_some last)
      obtain ⟨_, _, q1, q2, q3, q4⟩ := f7 h0
      have hv1 : vst [r7.1] = true := by
        unfold vst vf1
        simp only [List.length_singleton, List.all_cons, List.all_nil, Bool.and_true, Bool.and_eq_true, decide_eq_true_eq]
        omega
      rw [HallsLeft_eq (by omega) (by simp), Option.bind_some, hv, hs1, hv1]
      simp only [if_true, Bool.and_self]
      have hcl : r7.2.1 ≤ (lft l s st).length := by
        rw [q3]
        have := List.countP_le_length (p := fun v => sut (gz l v.toNat) s r7.1) (l := lft l s st)
        unfold cnt; omega
      rw [if_neg (by omega), decide_eq_false (by omega), Option.bind_some, if_neg (by decide)]
      have hin : ∀ v, v ∈ lft l s st → decide (v ∈ lft l s [r7.1]) = !(sut (gz l v.toNat) s r7.1) := by
        intro v hv
        have := lft_mem hv
        have h8 := sl_in (c := fun i => !([r7.1].any fun f => sut (gz l i) s f)) (i := v.toNat) (k := l.length) (by omega)
        rw [show ((v.toNat : Nat) : Int) = v by omega] at h8
        unfold lft
        rw [h8]
        simp
      rw [cntL (fun v => sut (gz l v.toNat) s r7.1) (lft l s st) (by omega) (fun k hk c c0 c1 => by
        have hlr := lft_len l s [r7.1]
        simp only
        rw [if_pos (by omega), at_of hk, Option.bind_some, f6hasF (by omega), Option.bind_some, hin _ (List.getElem_mem hk), w64_id (n := c + 1) (by omega) (by omega), w64_id (n := (k : Int) + 1) (by omega) (by omega)]
        cases sut (gz l (lft l s st)[k].toNat) s r7.1 <;> rfl) (fun c => by simp only; rw [if_neg (by omega)])]
      rw [if_pos (by rw [q3]; rfl)]
      exact wp_some last
end Go.Vs.G

