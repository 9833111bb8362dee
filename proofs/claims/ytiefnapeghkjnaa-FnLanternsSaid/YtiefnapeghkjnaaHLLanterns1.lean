/- Plain facts about the typed functions, up to the law: no program in sight. No conditions. -/
import Derived.Test.YtiefnapeghkjnaaV5
import Derived.Test.YtiefnapeghkjnaaDLLanterns
namespace Go.Vs
open Go

section
variable {α β S B R : Type}

theorem w64_succ {i n : Nat} (h : i < n) (hn : n < 9223372036854775807) : w64 ((i : Int) + 1) = (i : Int) + 1 := w64_id (by omega) (by omega)
theorem at_of {l : List α} {i : Nat} (h : i < l.length) : at? l (i : Int) = some l[i] := at_nat h
end
end Go.Vs

namespace Go.Vs.G
open Go Go.Vs

def small (c : UInt8) : Bool := decide (97 ≤ c.toNat ∧ c.toNat ≤ 122)
def letter (c : UInt8) : Bool := small c || decide (48 ≤ c.toNat ∧ c.toNat ≤ 57) || decide (c.toNat = 45)
/-- a name: one to twelve small letters, digits and hyphens, a letter first -/
def isName : List UInt8 → Bool
  | [] => false
  | c :: s => decide (s.length ≤ 11) && small c && (c :: s).all letter
end Go.Vs.G

namespace Go.Vs
open Go

section
variable {α β γ R : Type}

/-- the library's IndexFunc -/
theorem idxFS {f : α → Option Bool} (c : α → Bool) (l : List α) (hf : ∀ x, x ∈ l → f x = some (c x)) (hl : l.length < 9223372036854775807)
    {body : Int → Option (Step Int Unit Int)}
    (hb : ∀ (i : Int), body i = if i < (l.length : Int) then ((at? l i).bind fun v => (f v).bind fun r => if r = true then some (.ret i) else some (.next (w64 (i + 1)))) else some (.brk ())) :
    wp (onL (loop body loopLim 0) (fun (_ : Unit) => some (-1 : Int)) (fun r => some r)) fun r => (r = -1 ∧ l.any c = false) ∨ (∃ k : Nat, r = (k : Int) ∧ ∃ h : k < l.length, c l[k] = true ∧ (∀ j (h2 : j < k), c (l[j]'(by omega)) = false) ∧ l.any c = true) := by
  refine wp_loop (fun t : Int => ∃ k : Nat, t = (k : Int) ∧ k ≤ l.length ∧ ∀ j (h2 : j < k) (h3 : j < l.length), c l[j] = false) (fun t => (l.length - t).toNat) ⟨0, rfl, by omega, fun j hj => by omega⟩ (by omega) ?_
  rintro i ⟨k, rfl, hk, hall⟩
  rw [hb]
  refine wp_ite (fun h => ?_) (fun h => ?_)
  · have hk2 : k < l.length := by omega
    rw [at_of hk2, Option.bind_some, hf _ (List.getElem_mem hk2), Option.bind_some]
    refine wp_ite (fun h3 => ?_) (fun h3 => ?_)
    · exact wp_some (wp_some (.inr ⟨k, rfl, hk2, h3, fun j hj => hall j hj (by omega), List.any_eq_true.2 ⟨_, List.getElem_mem hk2, h3⟩⟩))
    · rw [w64_succ hk2 (by omega)]
      refine wp_some ⟨⟨k + 1, rfl, by omega, fun j hj hj2 => ?_⟩, by omega⟩
      rcases Nat.lt_or_ge j k with h4 | h4
      · exact hall j h4 hj2
      · obtain rfl : j = k := by omega
        simpa using h3
  · obtain rfl : k = l.length := by omega
    refine wp_some (wp_some (.inl ⟨rfl, ?_⟩))
    refine Bool.eq_false_iff.2 fun hc => ?_
    obtain ⟨x, hx, hx2⟩ := List.any_eq_true.1 hc
    obtain ⟨j, hj, rfl⟩ := List.getElem_of_mem hx
    rw [hall j hj hj] at hx2
    cases hx2
/-- the library's ContainsFunc -/
theorem contS {f : α → Option Bool} (c : α → Bool) (l : List α) (hf : ∀ x, x ∈ l → f x = some (c x)) (hl : l.length < 9223372036854775807)
    {body : Int → Option (Step Int Unit Int)}
    (hb : ∀ (i : Int), body i = if i < (l.length : Int) then ((at? l i).bind fun v => (f v).bind fun r => if r = true then some (.ret i) else some (.next (w64 (i + 1)))) else some (.brk ())) :
    ((onL (loop body loopLim 0) (fun (_ : Unit) => some (-1 : Int)) (fun r => some r)).bind fun r => some (decide (r ≥ 0))) = some (l.any c) := by
  obtain ⟨r, h1, h2⟩ := idxFS c l hf hl hb
  rw [h1, Option.bind_some]
  rcases h2 with ⟨rfl, h⟩ | ⟨k, rfl, _, _, _, h⟩
  · rw [h]; rfl
  · rw [h, decide_eq_true (by omega)]
/-- a loop whose state at each round is told -/
theorem wp_cnt {S B : Type} {Q : γ → Prop} {body : S → Option (Step S B R)} {kb : B → Option γ} {kr : R → Option γ} {s0 : S} (st : Nat → S) (n : Nat) (h0 : s0 = st 0) (hn : n < 18446744073709551616)
    (hs : ∀ k, k < n → body (st k) = some (.next (st (k + 1)))) {b : B} (he : body (st n) = some (.brk b)) (hq : wp (kb b) Q) : wp (onL (loop body loopLim s0) kb kr) Q := by
  rw [h0, loop_brk st n hn hs he]; exact hq
/-- the numbers below n that fit -/
def sl (c : Nat → Bool) : Nat → List Int
  | 0 => []
  | k + 1 => if c k = true then sl c k ++ [(k : Int)] else sl c k
theorem sl_len (c : Nat → Bool) : ∀ k, (sl c k).length ≤ k
  | 0 => by simp [sl]
  | k + 1 => by have := sl_len c k; rw [sl]; split <;> simp <;> omega
/-- the greatest -/
def mx (f : Nat → Int) : Nat → Int
  | 0 => 0
  | k + 1 => max (mx f k) (f k)
theorem mx_nonneg (f : Nat → Int) : ∀ k, 0 ≤ mx f k
  | 0 => by simp [mx]
  | k + 1 => by have := mx_nonneg f k; rw [mx]; omega
theorem le_mx {f : Nat → Int} : ∀ {k i : Nat}, i < k → f i ≤ mx f k
  | k + 1, i, h => by
    rw [mx]
    rcases Nat.lt_or_ge i k with h1 | h1
    · have := le_mx (f := f) h1; omega
    · rw [show i = k by omega]; omega
theorem mx_le {f : Nat → Int} {m : Int} (hm : 0 ≤ m) : ∀ {k : Nat}, (∀ i, i < k → f i ≤ m) → mx f k ≤ m
  | 0, _ => by simpa [mx] using hm
  | k + 1, h => by
    have h1 := mx_le (f := f) hm (k := k) fun i hi => h i (by omega)
    have h2 := h k (by omega)
    rw [mx]; omega
end
end Go.Vs

namespace Go.Vs
open Go
end Go.Vs
namespace Go.Vs.G
open Go Go.Vs

def smallC (c : GCause) : Prop := c.Name.length ≤ 1048576 ∧ c.Signs.length ≤ 1048576
/-- numbers that rise, from low to high -/
def rises (l : List Int) (low high : Int) : Prop := ∀ i (h : i < l.length), low ≤ l[i] ∧ l[i] ≤ high ∧ (∀ h2 : 0 < i, l[i - 1] < l[i])
/-- cause i of a list is valid behind those ahead of it -/
def cok (m : Int) (l : List GCause) (i : Nat) (h : i < l.length) : Prop := isName l[i].Name = true ∧ l[i].Signs ≠ [] ∧ rises l[i].Signs 0 (m - 1) ∧ ∀ k (hk : k < i), l[k].Name ≠ l[i].Name
/-- valid causes -/
def vcs (m : Int) (l : List GCause) : Prop := (1 ≤ m ∧ m ≤ 16) ∧ l.length ≤ 10 ∧ ∀ i (h : i < l.length), cok m l i h
end Go.Vs.G

namespace Go.Vs.G
open Go Go.Vs

/-- a source that can still be asked; B bounds the place that it has come to -/
structure SrcOk (B : Int) (s : GL00Src) : Prop where
  bytes : ∀ x, x ∈ s.code → 0 ≤ x ∧ x ≤ 255
  len : s.code.length ≤ 1000000
  at0 : 0 ≤ s.at_
  atB : s.at_ ≤ B
theorem SrcOk.mono {B B' : Int} {s : GL00Src} (h : SrcOk B s) (hB : B ≤ B') : SrcOk B' s := ⟨h.bytes, h.len, h.at0, Int.le_trans h.atB hB⟩
theorem srcOk_from {code : List Int} (h : okL (okI .u8) code) (hl : code.length ≤ 1000000) : SrcOk 0 (GL00Src.mk code 0 0) :=
  ⟨fun x hx => okU8 (h.2 x hx), hl, by simp, by simp⟩
theorem shr40 (n : Int) : shr? .u64 n 40 = some (n.fdiv (2 ^ 40)) := by
  simp [shr?, IntKind.bits]
theorem and255 (n : Int) : 0 ≤ bit_and .u64 n 255 ∧ bit_and .u64 n 255 ≤ 255 := by
  unfold bit_and
  rw [wu64_def]
  have h : (BitVec.ofInt IntKind.u64.bits n &&& BitVec.ofInt IntKind.u64.bits 255).toNat ≤ 255 := by
    rw [BitVec.toNat_and]
    exact Nat.le_trans Nat.and_le_right (by decide)
  omega
theorem next_ok {B : Int} {s : GL00Src} (h : SrcOk B s) (hB : B ≤ 4611686018427387904) : ∃ v s', spec_l00Src_next s = some (v, s') ∧ 0 ≤ v ∧ v ≤ 255 ∧ SrcOk (B + 1) s' := by
  have h1 := h.at0
  have h2 := h.atB
  have h3 := h.len
  have hat : w64 (s.at_ + 1) = s.at_ + 1 := w64_id (by omega) (by omega)
  have hb : ∃ b, (if s.at_ < (s.code.length : Int) then ((at? s.code s.at_).bind fun v1 => some (w64 v1)) else some 0) = some b ∧ 0 ≤ b ∧ b ≤ 255 := by
    split
    · rename_i hlt
      rw [at_ok h1 (by omega), Option.bind_some]
      obtain ⟨g1, g2⟩ := h.bytes s.code[s.at_.toNat] (List.getElem_mem (by omega))
      exact ⟨_, rfl, by rw [w64_id (by omega) (by omega)]; omega, by rw [w64_id (by omega) (by omega)]; omega⟩
    · exact ⟨0, rfl, by omega, by omega⟩
  obtain ⟨b, hb, b0, b1⟩ := hb
  unfold spec_l00Src_next
  rw [hb, Option.bind_some, hat]
  split
  · exact ⟨_, _, rfl, b0, b1, ⟨h.bytes, h.len, by simp only; omega, by simp only; omega⟩⟩
  · rw [shr40, Option.bind_some]
    have := and255 ((IntKind.wrap .u64 ((IntKind.wrap .u64 ((IntKind.wrap .u64 (s.seed * 6364136223846793005)) + (IntKind.wrap .u64 b))) + 1442695040888963407)).fdiv (2 ^ 40))
    exact ⟨_, _, rfl, by rw [w64_id (by omega) (by omega)]; omega, by rw [w64_id (by omega) (by omega)]; omega, ⟨h.bytes, h.len, by simp only; omega, by simp only; omega⟩⟩
theorem pick_ok {B : Int} {s : GL00Src} (h : SrcOk B s) (hB : B ≤ 4611686018427387000) (n : Int) : ∃ v s', spec_l00Src_pick s n = some (v, s') ∧ 0 ≤ v ∧ (v = 0 ∨ v < n) ∧ SrcOk (B + 2) s' := by
  unfold spec_l00Src_pick
  by_cases hn : n ≤ 1
  · rw [if_pos hn]; exact ⟨0, s, rfl, by omega, .inl rfl, h.mono (by omega)⟩
  · rw [if_neg hn]
    obtain ⟨v, s1, e1, v0, v1, k1⟩ := next_ok h (by omega)
    rw [e1, Option.bind_some]
    by_cases h2 : n > 200
    · rw [if_pos h2]
      obtain ⟨u, s2, e2, u0, u1, k2⟩ := next_ok k1 (by omega)
      simp only
      rw [e2, Option.bind_some, mod_ok (by omega), Option.bind_some, w64_id (n := v * 256) (by omega) (by omega), w64_id (by simp only; omega) (by simp only; omega)]
      have e : (v * 256 + u).tmod n = (v * 256 + u) % n := Int.tmod_eq_emod_of_nonneg (by omega)
      refine ⟨_, _, rfl, ?_, ?_, by rw [show B + 2 = B + 1 + 1 by omega]; exact k2⟩
      · simp only [e]; exact Int.emod_nonneg _ (by omega)
      · simp only [e]; right; exact Int.emod_lt_of_pos _ (by omega)
    · rw [if_neg h2, mod_ok (by omega), Option.bind_some]
      simp only
      have e : v.tmod n = v % n := Int.tmod_eq_emod_of_nonneg (by omega)
      refine ⟨_, _, rfl, ?_, ?_, k1.mono (by omega)⟩
      · rw [e]; exact Int.emod_nonneg _ (by omega)
      · rw [e]; right; exact Int.emod_lt_of_pos _ (by omega)
theorem a2Long_eq (a b : List Int) : ∃ r, laws_a2Long a b = some r ∧ (r = false → a.length ≤ 3000 ∧ b.length ≤ 3000) := by
  unfold laws_a2Long
  split
  · exact ⟨true, rfl, by simp⟩
  · exact ⟨_, rfl, by simp; omega⟩
/-- a number off a byte -/
theorem a2At_ok {code : List Int} (h : okL (okI .u8) code) (hl : code.length ≤ 3000) {i n : Int} (hi : 0 ≤ i) (hn : 1 ≤ n) : ∃ v, laws_a2At code i n = some v ∧ 0 ≤ v ∧ v < n := by
  unfold laws_a2At
  by_cases h1 : i ≥ (code.length : Int)
  · rw [if_pos h1]; exact ⟨0, rfl, by omega, by omega⟩
  · rw [if_neg h1, Option.bind_some]
    have h2 : ¬ n < 1 := by omega
    simp only [h2, decide_false, Bool.false_eq_true, if_false]
    rw [at_ok hi (by omega), Option.bind_some, mod_ok (by omega), Option.bind_some]
    obtain ⟨g1, g2⟩ := okU8 (h.2 code[i.toNat] (List.getElem_mem (by omega)))
    rw [w64_id (by omega) (by omega)]
    have e : (code[i.toNat]'(by omega)).tmod n = (code[i.toNat]'(by omega)) % n := Int.tmod_eq_emod_of_nonneg g1
    exact ⟨_, rfl, by rw [e]; exact Int.emod_nonneg _ (by omega), by rw [e]; exact Int.emod_lt_of_pos _ (by omega)⟩
end Go.Vs.G

namespace Go.Vs.G
open Go Go.Vs

/-- a valid fraction -/
def GFraction.valid (f : GFraction) : Prop := 1 ≤ f.Den ∧ f.Den ≤ 1000000 ∧ -1000000 ≤ f.Num ∧ f.Num ≤ 1000000 ∧ Int.gcd f.Num f.Den = 1
/-- a drawn fraction -/
structure Drawn (f : GFraction) : Prop where
  d0 : 1 ≤ f.Den
  d1 : f.Den ≤ 20
  n0 : -15 ≤ f.Num
  n1 : f.Num ≤ 44
  cop : Int.gcd f.Num f.Den = 1
theorem Drawn.valid {f : GFraction} (h : Drawn f) : f.valid := ⟨h.d0, by have := h.d1; omega, by have := h.n0; omega, by have := h.n1; omega, h.cop⟩
end Go.Vs.G

namespace Go.Vs
theorem wp_seq {α β : Type} {A : Option β} {k : β → Option α} {P : β → Prop} {Q : α → Prop} (h : wp A P) (hk : ∀ x, P x → wp (k x) Q) : wp (A.bind k) Q := by
  obtain ⟨x, rfl, hx⟩ := h; exact hk x hx
end Go.Vs
namespace Go.Vs.G
open Go Go.Vs

section
variable {α : Type} {Q : α → Prop} {B : Int} {s : GL00Src}
theorem wp_pick {n : Int} {k : Int × GL00Src → Option α} (h : SrcOk B s) (hB : B ≤ 4611686018427387000) (hk : ∀ v s', 0 ≤ v → (v = 0 ∨ v < n) → SrcOk (B + 2) s' → wp (k (v, s')) Q) : wp ((spec_l00Src_pick s n).bind k) Q := by
  obtain ⟨v, s', e, h0, h1, h2⟩ := pick_ok h hB n
  rw [e]; exact hk v s' h0 h1 h2
theorem wp_from {code : List Int} {k : GL00Src → Option α} (h : okL (okI .u8) code) (hl : code.length ≤ 1000000) (hk : ∀ s, SrcOk 0 s → wp (k s) Q) : wp ((spec_l00From code).bind k) Q := hk _ (srcOk_from h hl)
theorem wp_app {β : Type} {l m : List β} {k : List β → Option α} (h : l.length + m.length ≤ 4294967296) (hk : wp (k (l ++ m)) Q) : wp ((app? l m).bind k) Q := by
  rw [app_ok h]; exact hk
end
end Go.Vs.G

namespace Go.Vs.G
open Go Go.Vs

theorem maxB (a b : Int) : spec_l00Max a b = some (max a b) := by unfold spec_l00Max; split <;> simp <;> omega
/-- a brightness -/
def brt (f : GFraction) : Prop := (0 ≤ f.Num ∧ f.Num ≤ 100000) ∧ f.Den ≤ 100000
instance (f : GFraction) : Decidable (brt f) := by unfold brt; infer_instance
instance (f : GFraction) : Decidable f.valid := by unfold GFraction.valid; infer_instance
/- light behind losses -/
/- the farthest -/
/- draws -/
section
variable {code : List Int} (hc : okL (okI .u8) code) (hl : code.length ≤ 1000000)
include hc hl
end

end Go.Vs.G

namespace Go.Vs
open Go

/-- elements of the numbers that fit, added up -/
def gd (l : List Int) (k : Nat) : Int := l.getD k 0
theorem at_gd {l : List Int} {k : Nat} (h : k < l.length) : at? l (k : Int) = some (gd l k) := by
  unfold gd; rw [at_of h, List.getD_eq_getElem?_getD, List.getElem?_eq_getElem h]; rfl
theorem gd_mem {l : List Int} {k : Nat} (h : k < l.length) : gd l k ∈ l := by
  unfold gd; rw [List.getD_eq_getElem?_getD, List.getElem?_eq_getElem h]; exact List.getElem_mem h
theorem mem_sl' {c : Nat → Bool} {v : Int} : ∀ {k : Nat}, v ∈ sl c k → ∃ j : Nat, v = (j : Int) ∧ j < k ∧ c j = true
  | 0, h => by simp [sl] at h
  | k + 1, h => by
    rw [sl] at h
    split at h
    · rename_i hc
      simp only [List.mem_append, List.mem_singleton] at h
      rcases h with h | h
      · obtain ⟨j, h1, h2, h3⟩ := mem_sl' h; exact ⟨j, h1, by omega, h3⟩
      · exact ⟨k, h, by omega, hc⟩
    · obtain ⟨j, h1, h2, h3⟩ := mem_sl' h; exact ⟨j, h1, by omega, h3⟩
end Go.Vs

namespace Go.Vs
open Go

/-- numbers that rise -/
def Rise (l : List Int) : Prop := l.Pairwise (· < ·)
theorem rise_eq : ∀ {a b : List Int}, Rise a → Rise b → (∀ x, x ∈ a ↔ x ∈ b) → a = b
  | [], [], _, _, _ => rfl
  | [], y :: b, _, _, h => by have := (h y).2 (by simp); simp at this
  | x :: a, [], _, _, h => by have := (h x).1 (by simp); simp at this
  | x :: a, y :: b, ha, hb, h => by
    unfold Rise at ha hb
    rw [List.pairwise_cons] at ha hb
    have hxy : x = y := by
      have h1 := (h x).1 (by simp)
      have h2 := (h y).2 (by simp)
      simp only [List.mem_cons] at h1 h2
      rcases h1 with h1 | h1
      · exact h1
      · rcases h2 with h2 | h2
        · exact h2.symm
        · have := hb.1 x h1; have := ha.1 y h2; omega
    subst hxy
    rw [rise_eq ha.2 hb.2 fun z => ?_]
    constructor
    · intro hz
      have h1 := (h z).1 (by simp [hz])
      have := ha.1 z hz
      simp only [List.mem_cons] at h1
      rcases h1 with h1 | h1
      · omega
      · exact h1
    · intro hz
      have h1 := (h z).2 (by simp [hz])
      have := hb.1 z hz
      simp only [List.mem_cons] at h1
      rcases h1 with h1 | h1
      · omega
      · exact h1
theorem mem_sl {c : Nat → Bool} {v : Int} : ∀ {k : Nat}, v ∈ sl c k ↔ ∃ j : Nat, v = (j : Int) ∧ j < k ∧ c j = true := by
  intro k
  refine ⟨mem_sl', ?_⟩
  rintro ⟨j, rfl, hj, hc⟩
  induction k with
  | zero => omega
  | succ k ih =>
    rw [sl]
    rcases Nat.lt_or_ge j k with h | h
    · split <;> simp [ih h]
    · obtain rfl : j = k := by omega
      rw [if_pos hc]; simp
theorem rise_sl (c : Nat → Bool) : ∀ k, Rise (sl c k)
  | 0 => by simp [Rise, sl]
  | k + 1 => by
    have ih := rise_sl c k
    rw [sl]
    split
    · unfold Rise at ih ⊢
      rw [List.pairwise_append]
      refine ⟨ih, by simp, fun x hx y hy => ?_⟩
      obtain ⟨j, rfl, hj, _⟩ := mem_sl'  hx
      simp only [List.mem_singleton] at hy
      omega
    · exact ih
theorem rise_mono {l : List Int} : ∀ {n : Nat}, (∀ i (h : i < l.length), (∀ h2 : 0 < i, l[i - 1] < l[i])) → ∀ (i j : Nat) (hij : i < j) (hj : j < l.length), l[i] < l[j] := by
  intro _ h i j hij hj
  induction j with
  | zero => omega
  | succ j ih =>
    have h1 := h (j + 1) hj (by omega)
    simp only [Nat.add_sub_cancel] at h1
    rcases Nat.lt_or_ge i j with h2 | h2
    · have := ih h2 (by omega); omega
    · obtain rfl : i = j := by omega
      exact h1
theorem rise_of {l : List Int} (h : ∀ i (h : i < l.length), (∀ h2 : 0 < i, l[i - 1] < l[i])) : Rise l := by
  unfold Rise
  rw [List.pairwise_iff_getElem]
  intro i j hi hj hij
  exact rise_mono (n := 0) h i j hij hj
/-- numbers as bits -/
def bitsN : List Int → Nat
  | [] => 0
  | v :: l => 2 ^ v.toNat ||| bitsN l
def small20 (l : List Int) : Prop := ∀ v, v ∈ l → 0 ≤ v ∧ v < 20
theorem bitsN_test : ∀ {l : List Int}, (∀ v, v ∈ l → 0 ≤ v) → ∀ i, (bitsN l).testBit i = decide ((i : Int) ∈ l)
  | [], _, i => by simp [bitsN]
  | v :: l, h, i => by
    have h0 := h v (by simp)
    rw [bitsN, Nat.testBit_or, bitsN_test (fun x hx => h x (by simp [hx])), Nat.testBit_two_pow]
    by_cases h1 : v.toNat = i
    · have : (i : Int) = v := by omega
      simp [h1, this]
    · have : ¬ ((i : Int) = v) := by omega
      simp [h1, this]
/-- the set of a rising list -/
theorem sl_bits {l : List Int} {n : Nat} (hr : Rise l) (hl : ∀ v, v ∈ l → 0 ≤ v ∧ v < n) : sl (bitsN l).testBit n = l := by
  refine rise_eq (rise_sl _ _) hr fun x => ?_
  rw [mem_sl]
  constructor
  · rintro ⟨j, rfl, hj, hb⟩
    rw [bitsN_test (fun v hv => (hl v hv).1)] at hb
    exact of_decide_eq_true hb
  · intro hx
    have := hl x hx
    refine ⟨x.toNat, by omega, by omega, ?_⟩
    rw [bitsN_test (fun v hv => (hl v hv).1), show ((x.toNat : Nat) : Int) = x by omega]
    exact decide_eq_true hx
end Go.Vs

namespace Go.Vs
open Go
end Go.Vs
namespace Go.Vs.G
open Go Go.Vs
/-- a burning -/
def brn (s : List UInt8) : Prop := s.length ≤ 60 ∧ ∀ c, c ∈ s → c = 48 ∨ c = 49
instance (s : List UInt8) : Decidable (brn s) := inferInstanceAs (Decidable (_ ∧ _))
end Go.Vs.G

namespace Go.Vs
open Go
section
variable {α : Type}
end
end Go.Vs
namespace Go.Vs.G
open Go Go.Vs
/-- ticks that burn -/
def ones (c : Nat → Bool) : Nat → Nat
  | 0 => 0
  | k + 1 => ones c k + if c k = true then 1 else 0
theorem ones_le (c : Nat → Bool) : ∀ k, ones c k ≤ k
  | 0 => by simp [ones]
  | k + 1 => by have := ones_le c k; rw [ones]; split <;> omega
end Go.Vs.G

namespace Go.Vs.G
open Go Go.Vs

/-- causes with few signs -/
def few20 (l : List GCause) : Prop := l.length ≤ 10 ∧ (∀ x, x ∈ l → small20 x.Signs) ∧ (∀ x, x ∈ l → x.Signs.length ≤ 1048576) ∧ ∀ x, x ∈ l → Rise x.Signs
theorem vcs.few {m : Int} {l : List GCause} (h : vcs m l) (hs : ∀ x, x ∈ l → smallC x) : few20 l := by
  have hb : ∀ x, x ∈ l → rises x.Signs 0 (m - 1) := fun x hx => by
    obtain ⟨i, hi, rfl⟩ := List.getElem_of_mem hx; exact (h.2.2 i hi).2.2.1
  refine ⟨h.2.1, fun x hx v hv => ?_, fun x hx => (hs x hx).2, fun x hx => rise_of fun i hi => (hb x hx i hi).2.2⟩
  obtain ⟨i, hi, rfl⟩ := List.getElem_of_mem hv
  have := hb x hx i hi
  have := h.1
  omega
/-- rising numbers from a to b -/
theorem rises.rise {s : List Int} {a b : Int} (h : rises s a b) : Rise s := rise_of fun i hi => (h i hi).2.2
theorem rises.rng {s : List Int} {a b : Int} (h : rises s a b) {v : Int} (hv : v ∈ s) : a ≤ v ∧ v ≤ b := by
  obtain ⟨i, hi, rfl⟩ := List.getElem_of_mem hv; exact ⟨(h i hi).1, (h i hi).2.1⟩
theorem rises.small {s : List Int} {b : Int} (h : rises s 0 b) (hb : b < 20) : small20 s := fun v hv => by have := h.rng hv; omega
theorem rises.len {s : List Int} {b : Int} (h : rises s 0 b) (hb : b < 20) : s.length ≤ 20 := by
  rw [← sl_bits (n := 20) h.rise (fun v hv => by have := h.small hb v hv; omega)]; exact sl_len _ _
end Go.Vs.G

namespace Go.Vs.G
open Go Go.Vs
def vsh (x : GShown) : Prop := (0 ≤ x.On ∧ x.On ≤ 10000) ∧ (x.On + 1 ≤ x.Off ∧ x.Off ≤ 20000) ∧ (0 ≤ x.Fade ∧ x.Fade ≤ 500)
def lev (x : GShown) (t : Int) : Int := if x.On ≤ t ∧ t < x.Off then (if x.Fade = 0 then 100 else min (min 100 (100 * (t - x.On) / x.Fade)) (100 * (x.Off - t) / x.Fade)) else 0
theorem tdiv_nn {a b : Int} (h : 0 ≤ a) : a.tdiv b = a / b := Int.tdiv_eq_ediv_of_nonneg h
theorem isOn_eq (x : GShown) (t : Int) : impl_Shown_isOn x t = some (decide (x.On ≤ t ∧ t < x.Off)) := by
  unfold impl_Shown_isOn
  by_cases h : x.On ≤ t
  · rw [if_pos h]; exact congrArg some (decide_eq_decide.2 ⟨fun h2 => ⟨h, h2⟩, fun h2 => h2.2⟩)
  · rw [if_neg h, decide_eq_false (fun h2 => h h2.1)]
theorem level_eq {x : GShown} (hx : vsh x) {t : Int} : impl_Shown_level x t = some (lev x t) := by
  obtain ⟨h1, h2, h3⟩ := hx
  unfold impl_Shown_level lev
  rw [isOn_eq, Option.bind_some]
  by_cases h : x.On ≤ t ∧ t < x.Off
  · rw [decide_eq_true h, if_pos rfl, if_pos h]
    by_cases hf : x.Fade = 0
    · rw [if_pos hf, if_pos hf]
    · have d1 : 0 ≤ 100 * (t - x.On) / x.Fade := Int.ediv_nonneg (by omega) (by omega)
      have d2 : 100 * (t - x.On) / x.Fade ≤ 100 * (t - x.On) := Int.ediv_le_self _ (by omega)
      have d3 : 0 ≤ 100 * (x.Off - t) / x.Fade := Int.ediv_nonneg (by omega) (by omega)
      have d4 : 100 * (x.Off - t) / x.Fade ≤ 100 * (x.Off - t) := Int.ediv_le_self _ (by omega)
      rw [if_neg hf, if_neg hf, w64_id (n := t - x.On) (by omega) (by omega), w64_id (n := x.Off - t) (by omega) (by omega), w64_id (n := 100 * (t - x.On)) (by omega) (by omega), w64_id (n := 100 * (x.Off - t)) (by omega) (by omega), div_ok hf, div_ok hf, Option.bind_some, Option.bind_some, tdiv_nn (by omega), tdiv_nn (by omega), imin_def, imin_def]
      rw [show IntKind.wrap .i64 (100 * (t - x.On) / x.Fade) = _ from w64_id (by omega) (by omega), show IntKind.wrap .i64 (100 * (x.Off - t) / x.Fade) = _ from w64_id (by omega) (by omega)]
  · rw [decide_eq_false h, if_neg (by simp), if_neg h]
theorem lev_bd {x : GShown} (hx : vsh x) (t : Int) : 0 ≤ lev x t ∧ lev x t ≤ 100 := by
  obtain ⟨h1, h2, h3⟩ := hx
  unfold lev
  split
  · split
    · omega
    · have d1 : 0 ≤ 100 * (t - x.On) / x.Fade := Int.ediv_nonneg (by omega) (by omega)
      have d3 : 0 ≤ 100 * (x.Off - t) / x.Fade := Int.ediv_nonneg (by omega) (by omega)
      omega
  · omega
def sq (l : List GShown) (i : Nat) : GShown := l.getD i default
theorem at_sq {l : List GShown} {i : Nat} (h : i < l.length) : at? l (i : Int) = some (sq l i) := by
  unfold sq; rw [at_of h, List.getD_eq_getElem?_getD, List.getElem?_eq_getElem h]; rfl
def vshs (l : List GShown) : Prop := l.length ≤ 12 ∧ ∀ i, i < l.length → vsh (sq l i)
theorem ValidShown_true {l : List GShown} (h : vshs l) : impl_ValidShown l = some true := by
  have h6 := h.1
  unfold impl_ValidShown
  rw [if_pos (by omega)]
  have hcf : slices_ContainsFunc_impl_Shown_impl_Shown_806 l (fun a0 => impl_ValidShown_1 a0) = some (l.any fun _ => false) := by
    unfold slices_ContainsFunc_impl_Shown_impl_Shown_806 slices_IndexFunc_impl_Shown_impl_Shown_828
    refine contS (fun _ => false) l (fun x hx => ?_) (by omega) (fun _ => rfl)
    obtain ⟨i, hi, rfl⟩ := List.getElem_of_mem hx
    have hc := h.2 i hi
    unfold sq at hc
    rw [List.getD_eq_getElem?_getD, List.getElem?_eq_getElem hi] at hc
    obtain ⟨c1, c2, c3⟩ := hc
    simp only [Option.getD_some] at c1 c2 c3
    have hw : ∀ n a b : Int, a ≤ n ∧ n ≤ b → impl_within n a b = some true := fun n a b hn => by unfold impl_within; rw [if_pos (by omega), decide_eq_true hn.2]
    unfold impl_ValidShown_1
    rw [w64_id (n := l[i].On + 1) (by omega) (by omega)]
    simp only [hw _ 0 10000 ⟨c1.1, by omega⟩, hw _ (l[i].On + 1) 20000 ⟨c2.1, by omega⟩, hw _ 0 500 ⟨c3.1, by omega⟩, Option.bind_some, if_true]
    rfl
  rw [hcf, Option.bind_some]
  have : (l.any fun _ => false) = false := by induction l <;> simp
  rw [this]; rfl
def lsm (l : List GShown) (t : Int) : Nat → Int
  | 0 => 0
  | k + 1 => lsm l t k + lev (sq l k) t
theorem lsm_bd {l : List GShown} (h : vshs l) (t : Int) : ∀ k, k ≤ l.length → 0 ≤ lsm l t k ∧ lsm l t k ≤ 100 * k
  | 0, _ => by simp [lsm]
  | k + 1, hk => by
    have h1 := lsm_bd h t k (by omega)
    have h2 := lev_bd (h.2 k (by omega)) t
    rw [lsm]; omega
theorem light_eq {l : List GShown} (h : vshs l) (t : Int) : impl_light l t = some (lsm l t l.length) := by
  have h6 := h.1
  unfold impl_light
  refine eq_of_wp ?_
  refine wp_cnt (fun k => (lsm l t k, (k : Int))) l.length rfl (by omega) (fun k hk => ?_) (b := lsm l t l.length) ?_ (wp_some rfl)
  · have hb := lsm_bd h t k (by omega)
    have hl := lev_bd (h.2 k hk) t
    simp only
    rw [if_pos (by omega), at_sq hk, Option.bind_some, level_eq (h.2 k hk), Option.bind_some, w64_id (n := (k : Int) + 1) (by omega) (by omega), w64_id (by omega) (by omega), lsm]
    rfl
  · simp only; rw [if_neg (by omega)]
theorem within_true {n a b : Int} (h : a ≤ n ∧ n ≤ b) : impl_within n a b = some true := by unfold impl_within; rw [if_pos (by omega), decide_eq_true h.2]
theorem sq_append {l : List GShown} {c : GShown} {i : Nat} : sq (l ++ [c]) i = if i = l.length then c else sq l i := by
  unfold sq
  rw [List.getD_eq_getElem?_getD, List.getD_eq_getElem?_getD, List.getElem?_append]
  by_cases h : i < l.length
  · rw [if_pos h, if_neg (by omega)]
  · rw [if_neg h]
    by_cases h2 : i = l.length
    · rw [if_pos h2, h2, Nat.sub_self]; rfl
    · rw [if_neg h2, List.getElem?_eq_none (by simp; omega), List.getElem?_eq_none (by omega)]
theorem A2Shown_ok {code : List Int} (hc : okL (okI .u8) code) (hl : code.length ≤ 1000000) : wp (spec_A2Shown code) (fun l => l.length ≤ 6 ∧ ∀ i, i < l.length → vsh (sq l i) ∧ (sq l i).On ≤ 100 ∧ (sq l i).Off ≤ 200) := by
  unfold spec_A2Shown
  refine wp_from hc hl fun s hs => wp_seq (P := fun r => r.1.length ≤ 6 ∧ ∀ i, i < r.1.length → vsh (sq r.1 i) ∧ (sq r.1 i).On ≤ 100 ∧ (sq r.1 i).Off ≤ 200) ?_ fun r hr => wp_some hr
  unfold spec_l15Draw
  refine wp_pick hs (by omega) fun a s1 a0 a1 h1 => wp_pick h1 (by omega) fun n s2 n0 n1 h2 => ?_
  simp only
  refine wp_loop (fun q : GL00Src × List GShown × Int × Int => SrcOk (4 + 10 * (n - q.2.2.2)) q.1 ∧ 0 ≤ q.2.2.2 ∧ q.2.2.2 ≤ n ∧ (q.2.1.length : Int) = n - q.2.2.2 ∧ 0 ≤ q.2.2.1 ∧ q.2.2.1 ≤ 5 + 15 * (n - q.2.2.2) ∧ ∀ i, i < q.2.1.length → vsh (sq q.2.1 i) ∧ (sq q.2.1 i).On ≤ 100 ∧ (sq q.2.1 i).Off ≤ 200) (fun q => q.2.2.2.toNat) ⟨h2.mono (by simp only; omega), n0, by simp only; omega, by simp, a0, by simp only; omega, by simp⟩ (by simp only; omega) ?_
  rintro ⟨s, out, at1, k⟩ ⟨g1, g2, g3, g4, g5, g6, g7⟩
  simp only at g1 g2 g3 g4 g5 g6 g7 ⊢
  refine wp_ite (fun h => ?_) (fun h => ?_)
  · refine wp_pick g1 (by omega) fun u s3 u0 u1 k1 => wp_pick k1 (by omega) fun v s4 v0 v1 k2 => wp_app (by simp; omega) ?_
    refine wp_pick k2 (by omega) fun w s5 w0 w1 k3 => ?_
    simp only
    rw [maxB, Option.bind_some, w64_id (n := at1 + 1) (by omega) (by omega), w64_id (n := at1 + 1 + u) (by omega) (by omega), w64_id (n := at1 + w) (by omega) (by omega), w64_id (n := at1 + w - 3) (by omega) (by omega), w64_id (by omega) (by omega)]
    refine wp_some ⟨⟨k3.mono (by simp only; omega), by simp only; omega, by simp only; omega, by simp; omega, by simp only; omega, by simp only; omega, fun i hi => ?_⟩, by simp only; omega⟩
    simp only [List.length_append, List.length_singleton] at hi
    simp only
    rw [sq_append]
    by_cases h7 : i = out.length
    · rw [if_pos h7]; unfold vsh; simp only; omega
    · rw [if_neg h7]; exact g7 i (by omega)
  · exact wp_some (wp_some ⟨by simp only; omega, g7⟩)
/-- dark ticks from a tick on -/
def drk (l : List GShown) (f : Int) (j : Nat) : Bool := decide (lsm l (f + j) l.length = 0)
section
variable {l : List GShown} (h : vshs l) {f : Int} {n : Nat} (f0 : 0 ≤ f) (f1 : f ≤ 1000) (hn : n ≤ 1000)
include h f0 f1 hn
theorem ticksCode_eq : impl_ticksCode l f (f + n) = some 0 := by
  unfold impl_ticksCode
  rw [ValidShown_true h, Option.bind_some, if_pos rfl, within_true (a := 0) (b := 20000) (n := f) ⟨f0, by omega⟩, Option.bind_some, if_pos rfl, within_true (n := f + n) (a := f) (b := 20000) ⟨by omega, by omega⟩]; rfl
theorem DarkTicks_eq : impl_DarkTicks l f (f + n) = some (((ones (drk l f) n : Nat) : Int), 0) := by
  unfold impl_DarkTicks
  rw [ticksCode_eq h f0 f1 hn, Option.bind_some, if_pos rfl]
  refine eq_of_wp ?_
  refine wp_cnt (fun k => (((ones (drk l f) k : Nat) : Int), f + (k : Int))) n (by simp [ones]) (by omega) (fun k hk => ?_) (b := ((ones (drk l f) n : Nat) : Int)) ?_ (wp_some rfl)
  · have := ones_le (drk l f) k
    simp only
    rw [if_pos (by omega), light_eq h, Option.bind_some, w64_id (n := f + (k : Int) + 1) (by omega) (by omega), w64_id (by omega) (by omega), ones]
    by_cases h0 : lsm l (f + (k : Int)) l.length = 0
    · rw [if_pos h0, if_pos (show drk l f k = true from decide_eq_true h0)]
      exact congrArg some (congrArg Step.next (Prod.ext rfl (by simp only; omega)))
    · rw [if_neg h0, if_neg (show ¬ drk l f k = true from by unfold drk; simpa using h0)]
      exact congrArg some (congrArg Step.next (Prod.ext rfl (by simp only; omega)))
  · simp only; rw [if_neg (by omega)]
end
end Go.Vs.G

namespace Go.Vs
open Go
theorem nodup_sub {α : Type} [DecidableEq α] : ∀ {L M : List α}, L.Nodup → (∀ x, x ∈ L → x ∈ M) → L.length ≤ M.length
  | [], M, _, _ => by simp
  | x :: L, M, hn, hs => by
    rw [List.nodup_cons] at hn
    have hx : x ∈ M := hs x (by simp)
    have ih := nodup_sub (L := L) (M := M.erase x) hn.2 fun y hy => (List.mem_erase_of_ne (fun e => hn.1 (by rw [← e]; exact hy))).2 (hs y (by simp [hy]))
    rw [List.length_erase_of_mem hx] at ih
    have : 0 < M.length := List.length_pos_of_mem hx
    simp only [List.length_cons]; omega
theorem choose_list {R : Nat → Nat → Prop} : ∀ (F : Nat), (∀ k, k < F → ∃ x, R k x) → (∀ k k' x, R k x → R k' x → k = k') → ∃ L : List Nat, L.length = F ∧ L.Nodup ∧ ∀ x, x ∈ L → ∃ k, k < F ∧ R k x
  | 0, _, _ => ⟨[], rfl, by simp, by simp⟩
  | F + 1, h, hu => by
    obtain ⟨L, h1, h2, h3⟩ := choose_list F (fun k hk => h k (by omega)) hu
    obtain ⟨x, hx⟩ := h F (by omega)
    refine ⟨x :: L, by simp [h1], List.nodup_cons.2 ⟨fun hm => ?_, h2⟩, fun y hy => ?_⟩
    · obtain ⟨k, k1, k2⟩ := h3 x hm
      have := hu _ _ _ hx k2; omega
    · rcases List.mem_cons.1 hy with rfl | hy
      · exact ⟨F, by omega, hx⟩
      · obtain ⟨k, k1, k2⟩ := h3 y hy; exact ⟨k, by omega, k2⟩
theorem map_nodup {α β : Type} {f : α → β} : ∀ {L : List α}, L.Nodup → (∀ x, x ∈ L → ∀ y, y ∈ L → f x = f y → x = y) → (L.map f).Nodup
  | [], _, _ => by simp
  | x :: L, hn, hf => by
    rw [List.nodup_cons] at hn
    rw [List.map_cons, List.nodup_cons]
    refine ⟨fun hm => ?_, map_nodup hn.2 fun y hy z hz => hf y (by simp [hy]) z (by simp [hz])⟩
    obtain ⟨y, hy, he⟩ := List.mem_map.1 hm
    have := hf x (by simp) y (by simp [hy]) he.symm
    exact hn.1 (this ▸ hy)
end Go.Vs
namespace Go.Vs.G
open Go Go.Vs
theorem ones_filter (c : Nat → Bool) : ∀ n, ones c n = ((List.range n).filter c).length
  | 0 => rfl
  | n + 1 => by
    rw [ones, ones_filter c n, List.range_succ, List.filter_append, List.length_append]
    cases hc : c n <;> simp [hc]
theorem ones_ge {c : Nat → Bool} {n : Nat} {L : List Nat} (hn : L.Nodup) (hL : ∀ x, x ∈ L → x < n ∧ c x = true) : L.length ≤ ones c n := by
  rw [ones_filter]
  exact nodup_sub hn fun x hx => List.mem_filter.2 ⟨List.mem_range.2 (hL x hx).1, (hL x hx).2⟩
theorem ones_map_le {c : Nat → Bool} {n F : Nat} (f : Nat → Nat) (hf : ∀ x, x < n → c x = true → f x < F) (hi : ∀ x y, x < n → y < n → c x = true → c y = true → f x = f y → x = y) : ones c n ≤ F := by
  rw [ones_filter]
  have hm : ∀ x, x ∈ (List.range n).filter c → x < n ∧ c x = true := fun x hx => ⟨List.mem_range.1 (List.mem_filter.1 hx).1, (List.mem_filter.1 hx).2⟩
  have := nodup_sub (L := ((List.range n).filter c).map f) (M := List.range F) (map_nodup (List.Nodup.sublist List.filter_sublist List.nodup_range) fun x hx y hy he => hi x y (hm x hx).1 (hm y hy).1 (hm x hx).2 (hm y hy).2 he) fun z hz => by
    obtain ⟨x, hx, rfl⟩ := List.mem_map.1 hz
    exact List.mem_range.2 (hf x (hm x hx).1 (hm x hx).2)
  simpa using this
theorem ones_zero {c : Nat → Bool} : ∀ {n : Nat}, (∀ i, i < n → c i = false) → ones c n = 0
  | 0, _ => rfl
  | n + 1, h => by rw [ones, ones_zero fun i hi => h i (by omega), h n (by omega)]; rfl
/-- how many slides are on at a tick -/
def onA (l : List GShown) (t : Int) (j : Nat) : Bool := decide ((sq l j).On ≤ t ∧ t < (sq l j).Off)
def cnon (l : List GShown) (t : Int) : Nat := ones (onA l t) l.length
def fw (l : List GShown) : Int := mx (fun i => (cnon l (sq l i).On : Int)) l.length
theorem ones_le' (c : Nat → Bool) : ∀ n, ones c n ≤ n
  | 0 => by simp [ones]
  | n + 1 => by have := ones_le' c n; rw [ones]; split <;> omega
theorem fw_bd {l : List GShown} : 0 ≤ fw l ∧ fw l ≤ l.length := ⟨mx_nonneg _ _, mx_le (by omega) fun i _ => by have := ones_le' (onA l (sq l i).On) l.length; unfold cnon; omega⟩
theorem cnon_fw {l : List GShown} {i : Nat} (h : i < l.length) : (cnon l (sq l i).On : Int) ≤ fw l := le_mx (f := fun i => (cnon l (sq l i).On : Int)) h
theorem cnon_pos {l : List GShown} (hv : vshs l) {i : Nat} (h : i < l.length) : 1 ≤ cnon l (sq l i).On := by
  obtain ⟨c1, c2, _⟩ := hv.2 i h
  exact ones_ge (L := [i]) (by simp) fun x hx => by
    rw [List.mem_singleton.1 hx]; exact ⟨h, decide_eq_true ⟨by omega, by omega⟩⟩
theorem FewestLanterns_eq {l : List GShown} (h : vshs l) : impl_FewestLanterns l = some (fw l, 0) := by
  have h6 := h.1
  unfold impl_FewestLanterns
  rw [ValidShown_true h, Option.bind_some, if_pos rfl]
  refine eq_of_wp ?_
  refine wp_cnt (fun k => (mx (fun i => (cnon l (sq l i).On : Int)) k, (k : Int))) l.length rfl (by omega) (fun k hk => ?_) (b := fw l) ?_ (wp_some rfl)
  · simp only
    rw [if_pos (by omega), at_sq hk, Option.bind_some]
    refine eq_of_wp ?_
    refine wp_cnt (fun j => ((ones (onA l (sq l k).On) j : Int), (j : Int))) l.length rfl (by omega) (fun j hj => ?_) (b := (cnon l (sq l k).On : Int)) ?_ ?_
    · have := ones_le' (onA l (sq l k).On) j
      simp only
      rw [if_pos (by omega), at_sq hj, Option.bind_some, isOn_eq, Option.bind_some, w64_id (n := (j : Int) + 1) (by omega) (by omega), w64_id (by omega) (by omega), ones]
      by_cases hc : (sq l j).On ≤ (sq l k).On ∧ (sq l k).On < (sq l j).Off
      · rw [decide_eq_true hc, if_pos rfl, if_pos (show onA l (sq l k).On j = true from decide_eq_true hc)]; rfl
      · rw [decide_eq_false hc, if_neg (by simp), if_neg (show ¬ onA l (sq l k).On j = true by unfold onA; simpa using hc)]; rfl
    · simp only; rw [if_neg (by omega)]; rfl
    · rw [w64_id (by omega) (by omega), imax_def]; exact wp_some rfl
  · simp only; rw [if_neg (by omega)]; rfl
/- sorting -/
structure PermOk (d : List Int) (n : Nat) : Prop where
  len : d.length = n
  bd : ∀ a, a < n → 0 ≤ gd d a ∧ gd d a < n
  inj : ∀ a b, a < n → b < n → gd d a = gd d b → a = b
def key (l : List GShown) (d : List Int) (a : Nat) : Int := (sq l (gd d a).toNat).On
theorem gdi_set {d : List Int} {i j : Nat} {x : Int} (h : i < d.length) : gd (d.set i x) j = if j = i then x else gd d j := by
  unfold gd; rw [List.getD_eq_getElem?_getD, List.getElem?_set]
  by_cases hj : i = j
  · subst hj; simp [h]
  · rw [if_neg hj, if_neg (fun e => hj e.symm)]; rfl
theorem gdi_app {d : List Int} {j : Nat} {x : Int} : gd (d ++ [x]) j = if j < d.length then gd d j else if j = d.length then x else 0 := by
  unfold gd; rw [List.getD_eq_getElem?_getD, List.getElem?_append]
  by_cases hj : j < d.length
  · rw [if_pos hj, if_pos hj]; rfl
  · rw [if_neg hj, if_neg hj]
    by_cases h2 : j = d.length
    · rw [if_pos h2, h2, Nat.sub_self]; rfl
    · rw [if_neg h2, List.getElem?_eq_none (by simp; omega)]; rfl
section
variable {l : List GShown} (h : vshs l)
include h
theorem cmpOn_eq {d : List Int} (hd : PermOk d l.length) {a b : Nat} (ha : a < l.length) (hb : b < l.length) : impl_AssignLanterns_1 (gd d a) (gd d b) l = some (key l d a - key l d b) := by
  have h1 := hd.bd a ha
  have h2 := hd.bd b hb
  obtain ⟨c1, c2, _⟩ := h.2 (gd d a).toNat (by omega)
  obtain ⟨e1, e2, _⟩ := h.2 (gd d b).toNat (by omega)
  unfold impl_AssignLanterns_1
  have ea : at? l (gd d a) = some (sq l (gd d a).toNat) := by
    have := at_sq (l := l) (i := (gd d a).toNat) (by omega)
    rwa [show (((gd d a).toNat : Nat) : Int) = gd d a by omega] at this
  have eb : at? l (gd d b) = some (sq l (gd d b).toNat) := by
    have := at_sq (l := l) (i := (gd d b).toNat) (by omega)
    rwa [show (((gd d b).toNat : Nat) : Int) = gd d b by omega] at this
  rw [ea, Option.bind_some, eb, Option.bind_some, w64_id (by omega) (by omega)]; rfl
theorem insSort_ok {d : List Int} (hd : PermOk d l.length) : wp (slices_insertionSortCmpFunc_int_843 d 0 (l.length : Int) (fun a0 a1 => impl_AssignLanterns_1 a0 a1 l)) fun r => PermOk r l.length ∧ ∀ a b, a < b → b < l.length → key l r a ≤ key l r b := by
  have h6 := h.1
  unfold slices_insertionSortCmpFunc_int_843
  rw [w64_id (by omega) (by omega)]
  refine wp_loop (fun q : List Int × Int => ∃ i : Nat, q.2 = (i : Int) ∧ 1 ≤ i ∧ i ≤ max 1 l.length ∧ PermOk q.1 l.length ∧ ∀ a b, a < b → b < i → b < l.length → key l q.1 a ≤ key l q.1 b) (fun q => (l.length - q.2).toNat) ⟨1, rfl, by omega, by omega, hd, fun a b h1 h2 => by omega⟩ (by simp only; omega) ?_
  rintro ⟨d, _⟩ ⟨i, rfl, i1, i2, hp, hs⟩
  simp only at hp hs ⊢
  refine wp_ite (fun hlt => ?_) (fun hge => wp_some (wp_some ⟨hp, fun a b h1 h2 => hs a b h1 (by omega) h2⟩))
  have hi : i < l.length := by omega
  refine wp_loop (fun q : List Int × Int => ∃ j : Nat, q.2 = (j : Int) ∧ j ≤ i ∧ PermOk q.1 l.length ∧ ∀ a b, a < b → b ≤ i → b ≠ j → key l q.1 a ≤ key l q.1 b) (fun q => q.2.toNat) ⟨i, rfl, by omega, hp, fun a b h1 h2 h3 => hs a b h1 (by omega) (by omega)⟩ (by simp only; omega) ?_
  rintro ⟨d3, _⟩ ⟨j, rfl, j1, hp3, hs3⟩
  simp only at hp3 hs3 ⊢
  have hl3 := hp3.len
  have hfin : (j = 0 ∨ key l d3 (j - 1) ≤ key l d3 j) → ∀ a b, a < b → b < i + 1 → b < l.length → key l d3 a ≤ key l d3 b := by
    intro hj a b h1 h2 h3
    by_cases hbj : b = j
    · subst hbj
      rcases hj with hj | hj
      · omega
      · by_cases hab : a = b - 1
        · rw [hab]; exact hj
        · have := hs3 a (b - 1) (by omega) (by omega) (by omega); omega
    · exact hs3 a b h1 (by omega) hbj
  by_cases hj0 : j = 0
  · subst hj0
    rw [if_neg (by omega), Option.bind_some, if_neg (by simp), w64_id (by omega) (by omega)]
    exact wp_some (wp_some ⟨⟨i + 1, rfl, by omega, by omega, hp3, hfin (.inl rfl)⟩, by simp only; omega⟩)
  · have hjm : w64 ((j : Int) - 1) = ((j - 1 : Nat) : Int) := by rw [w64_id (by omega) (by omega)]; omega
    rw [if_pos (by omega), at_gd (by omega), Option.bind_some, hjm, at_gd (by omega), Option.bind_some, cmpOn_eq h hp3 (by omega) (by omega), Option.bind_some, Option.bind_some]
    by_cases hc : key l d3 j - key l d3 (j - 1) < 0
    · rw [decide_eq_true hc, if_pos rfl, Option.bind_some, Option.bind_some]
      have hset : at? (d3.set ((j : Int).toNat) (gd d3 (j - 1))) ((j - 1 : Nat) : Int) = some (gd d3 (j - 1)) := by
        rw [at_gd (by simp; omega), Int.toNat_natCast, gdi_set (by omega), if_neg (by omega)]
      rw [Option.bind_some, hset, Option.bind_some]
      have hg : ∀ a, gd ((d3.set ((j : Int).toNat) (gd d3 (j - 1))).set (((j - 1 : Nat) : Int).toNat) (gd d3 j)) a = if a = j - 1 then gd d3 j else if a = j then gd d3 (j - 1) else gd d3 a := by
        intro a
        rw [Int.toNat_natCast, Int.toNat_natCast, gdi_set (by simp; omega), gdi_set (by omega)]
      have hk : ∀ a, key l ((d3.set ((j : Int).toNat) (gd d3 (j - 1))).set (((j - 1 : Nat) : Int).toNat) (gd d3 j)) a = if a = j - 1 then key l d3 j else if a = j then key l d3 (j - 1) else key l d3 a := by
        intro a
        unfold key
        rw [hg]
        split
        · rfl
        · split <;> rfl
      refine wp_some ⟨⟨j - 1, rfl, by omega, ⟨by simp [hl3], fun a ha => ?_, fun a b ha hb he => ?_⟩, fun a b h1 h2 h3 => ?_⟩, by simp only; omega⟩
      · simp only
        rw [hg]
        split
        · exact hp3.bd j (by omega)
        · split
          · exact hp3.bd (j - 1) (by omega)
          · exact hp3.bd a ha
      · simp only at he
        rw [hg, hg] at he
        have key2 : ∀ x y, x < l.length → y < l.length → gd d3 x = gd d3 y → x = y := hp3.inj
        by_cases ha1 : a = j - 1
        · by_cases hb1 : b = j - 1
          · omega
          · by_cases hb2 : b = j
            · rw [if_pos ha1, if_neg hb1, if_pos hb2] at he
              have := key2 j (j - 1) (by omega) (by omega) he; omega
            · rw [if_pos ha1, if_neg hb1, if_neg hb2] at he
              have := key2 j b (by omega) hb he; omega
        · by_cases ha2 : a = j
          · by_cases hb1 : b = j - 1
            · rw [if_neg ha1, if_pos ha2, if_pos hb1] at he
              have := key2 (j - 1) j (by omega) (by omega) he; omega
            · by_cases hb2 : b = j
              · omega
              · rw [if_neg ha1, if_pos ha2, if_neg hb1, if_neg hb2] at he
                have := key2 (j - 1) b (by omega) hb he; omega
          · by_cases hb1 : b = j - 1
            · rw [if_neg ha1, if_neg ha2, if_pos hb1] at he
              have := key2 a j ha (by omega) he; omega
            · by_cases hb2 : b = j
              · rw [if_neg ha1, if_neg ha2, if_neg hb1, if_pos hb2] at he
                have := key2 a (j - 1) ha (by omega) he; omega
              · rw [if_neg ha1, if_neg ha2, if_neg hb1, if_neg hb2] at he
                exact key2 a b ha hb he
      · simp only
        rw [hk, hk]
        by_cases hb2 : b = j
        · rw [if_neg h3, if_pos hb2]
          by_cases ha1 : a = j - 1
          · rw [if_pos ha1]; omega
          · rw [if_neg ha1, if_neg (by omega)]; exact hs3 a (j - 1) (by omega) (by omega) (by omega)
        · rw [if_neg h3, if_neg hb2]
          by_cases ha1 : a = j - 1
          · rw [if_pos ha1]; exact hs3 j b (by omega) h2 hb2
          · rw [if_neg ha1]
            by_cases ha2 : a = j
            · rw [if_pos ha2]; exact hs3 (j - 1) b (by omega) h2 hb2
            · rw [if_neg ha2]; exact hs3 a b h1 h2 hb2
    · rw [decide_eq_false hc, if_neg (by simp), w64_id (by omega) (by omega)]
      exact wp_some (wp_some ⟨⟨i + 1, rfl, by omega, by omega, hp3, hfin (.inr (by omega))⟩, by simp only; omega⟩)
theorem SortStable_ok {d : List Int} (hd : PermOk d l.length) : wp (slices_SortStableFunc_int_int_834 d (fun a0 a1 => impl_AssignLanterns_1 a0 a1 l)) fun r => PermOk r l.length ∧ ∀ a b, a < b → b < l.length → key l r a ≤ key l r b := by
  have h6 := h.1
  unfold slices_SortStableFunc_int_int_834 slices_stableCmpFunc_int_866
  rw [hd.len]
  have e1 : ∀ (A : Option (List Int)), (A.bind fun r1 => some r1) = A := fun A => by cases A <;> rfl
  rw [e1]
  refine wp_loop (fun q : List Int × Int × Int => q = (d, 0, 20)) (fun _ => 0) rfl (by omega) ?_
  rintro _ rfl
  simp only
  rw [if_neg (by omega)]
  refine wp_some ?_
  refine wp_seq (insSort_ok h hd) fun r hr => ?_
  refine wp_loop (fun q : Int => q = 20) (fun _ => 0) rfl (by omega) ?_
  rintro _ rfl
  rw [if_neg (by omega)]
  exact wp_some (wp_some hr)
end
end Go.Vs.G

namespace Go.Vs.G
open Go Go.Vs
/-- the slide at a place of the order -/
def od (d : List Int) (a : Nat) : Nat := (gd d a).toNat
/-- the state when m slides have a lantern -/
structure GS (l : List GShown) (d out free : List Int) (m : Nat) : Prop where
  outl : out.length = l.length
  bd : ∀ a, a < m → 0 ≤ gd out (od d a) ∧ gd out (od d a) < free.length
  off : ∀ a, a < m → (sq l (od d a)).Off ≤ gd free (gd out (od d a)).toNat
  last : ∀ k, k < free.length → ∃ a, a < m ∧ gd out (od d a) = k ∧ (sq l (od d a)).Off = gd free k
  apart : ∀ a b, a < b → b < m → gd out (od d a) = gd out (od d b) → (sq l (od d a)).Off ≤ (sq l (od d b)).On
  few : (free.length : Int) ≤ fw l
theorem od_lt {l : List GShown} {d : List Int} (hd : PermOk d l.length) {a : Nat} (ha : a < l.length) : od d a < l.length := by have := hd.bd a ha; unfold od; omega
theorem od_inj {l : List GShown} {d : List Int} (hd : PermOk d l.length) {a b : Nat} (ha : a < l.length) (hb : b < l.length) (he : od d a = od d b) : a = b := by
  have h1 := hd.bd a ha
  have h2 := hd.bd b hb
  unfold od at he
  exact hd.inj a b ha hb (by omega)
/-- every slide stands in the order -/
theorem od_surj {l : List GShown} {d : List Int} (hd : PermOk d l.length) {p : Nat} (hp : p < l.length) : ∃ a, a < l.length ∧ od d a = p := by
  refine Classical.byContradiction fun hc => ?_
  have hn : ((List.range l.length).map (od d)).Nodup := map_nodup List.nodup_range fun x hx y hy he => od_inj hd (List.mem_range.1 hx) (List.mem_range.1 hy) he
  have := nodup_sub (L := p :: (List.range l.length).map (od d)) (M := List.range l.length) (List.nodup_cons.2 ⟨fun hm => by
    obtain ⟨a, ha, he⟩ := List.mem_map.1 hm
    exact hc ⟨a, List.mem_range.1 ha, he⟩, hn⟩) fun x hx => by
      rcases List.mem_cons.1 hx with rfl | hx
      · exact List.mem_range.2 hp
      · obtain ⟨a, ha, rfl⟩ := List.mem_map.1 hx
        exact List.mem_range.2 (od_lt hd (List.mem_range.1 ha))
  simp at this
  omega
section
variable {l : List GShown} (h : vshs l) {d : List Int} (hd : PermOk d l.length) (hs : ∀ a b, a < b → b < l.length → key l d a ≤ key l d b)
include h hd hs
theorem assign_step {out free : List Int} {m : Nat} (hm : m < l.length) (hg : GS l d out free m) {k : Nat} {free2 : List Int}
    (hk : (k < free.length ∧ free2 = free ∧ gd free k ≤ (sq l (od d m)).On) ∨ (k = free.length ∧ free2 = free ++ [0] ∧ ∀ j, j < free.length → (sq l (od d m)).On < gd free j)) :
    GS l d (out.set (od d m) (k : Int)) (free2.set k (sq l (od d m)).Off) (m + 1) := by
  have hi := od_lt hd hm
  obtain ⟨c1, c2, _⟩ := h.2 _ hi
  have hkl : k < free2.length := by
    rcases hk with ⟨h1, h2, _⟩ | ⟨h1, h2, _⟩
    · rw [h2]; exact h1
    · rw [h2, h1]; simp
  have hne : ∀ a, a < m → od d a ≠ od d m := fun a ha he => by have := od_inj hd (by omega) hm he; omega
  have hout : ∀ a, gd (out.set (od d m) (k : Int)) a = if a = od d m then (k : Int) else gd out a := fun a => gdi_set (by rw [hg.outl]; exact hi)
  have hfr : ∀ j, gd (free2.set k (sq l (od d m)).Off) j = if j = k then (sq l (od d m)).Off else gd free2 j := fun j => gdi_set hkl
  have hf2 : ∀ j, j < free.length → gd free2 j = gd free j := by
    intro j hj
    rcases hk with ⟨_, h2, _⟩ | ⟨_, h2, _⟩
    · rw [h2]
    · rw [h2, gdi_app, if_pos hj]
  have hlen : free.length ≤ free2.length := by
    rcases hk with ⟨_, h2, _⟩ | ⟨_, h2, _⟩
    · rw [h2]; exact Nat.le_refl _
    · rw [h2]; simp
  refine ⟨by simp [hg.outl], fun a ha => ?_, fun a ha => ?_, fun j hj => ?_, fun a b hab hb he => ?_, ?_⟩
  · rw [hout]
    split
    · simp only [List.length_set]; omega
    · rename_i hne2
      have ha' : a < m := by
        rcases Nat.lt_or_ge a m with h1 | h1
        · exact h1
        · rw [show a = m by omega] at hne2; exact absurd rfl hne2
      have := hg.bd a ha'
      simp only [List.length_set]; omega
  · by_cases ham : a = m
    · subst ham
      rw [hout, if_pos rfl, Int.toNat_natCast, hfr, if_pos rfl]; exact Int.le_refl _
    · have ha' : a < m := by omega
      have hb1 := hg.bd a ha'
      have ho1 := hg.off a ha'
      rw [hout, if_neg (hne a ha'), hfr]
      by_cases hkk : (gd out (od d a)).toNat = k
      · rw [if_pos hkk]
        rcases hk with ⟨h1, h2, h3⟩ | ⟨h1, h2, h3⟩
        · rw [hkk] at ho1; omega
        · omega
      · rw [if_neg hkk, hf2 _ (by omega)]; exact ho1
  · simp only [List.length_set] at hj
    by_cases hjk : j = k
    · exact ⟨m, by omega, by rw [hout, if_pos rfl, hjk], by rw [hfr, if_pos hjk]⟩
    · have hjf : j < free.length := by
        rcases hk with ⟨h1, h2, _⟩ | ⟨h1, h2, _⟩
        · rw [h2] at hj; exact hj
        · rw [h2] at hj; simp at hj; omega
      obtain ⟨a, a1, a2, a3⟩ := hg.last j hjf
      refine ⟨a, by omega, ?_, ?_⟩
      · rw [hout, if_neg (hne a a1)]; exact a2
      · rw [hfr, if_neg hjk, hf2 j hjf]; exact a3
  · have ha' : a < m := by omega
    rw [hout, if_neg (hne a ha')] at he
    by_cases hbm : b = m
    · subst hbm
      rw [hout, if_pos rfl] at he
      have hb1 := hg.bd a ha'
      have ho1 := hg.off a ha'
      rcases hk with ⟨h1, h2, h3⟩ | ⟨h1, h2, h3⟩
      · rw [he, Int.toNat_natCast] at ho1; omega
      · omega
    · rw [hout, if_neg (hne b (by omega))] at he
      exact hg.apart a b hab (by omega) he
  · rw [List.length_set]
    rcases hk with ⟨_, h2, _⟩ | ⟨h1, h2, h3⟩
    · rw [h2]; exact hg.few
    · rw [h2, List.length_append, List.length_singleton]
      obtain ⟨L, l1, l2, l3⟩ := choose_list (R := fun k x => ∃ a, a < m ∧ x = od d a ∧ gd out (od d a) = (k : Int) ∧ (sq l (od d a)).Off = gd free k) free.length
        (fun k hk => by obtain ⟨a, a1, a2, a3⟩ := hg.last k hk; exact ⟨od d a, a, a1, rfl, a2, a3⟩)
        (fun k k' x => by
          rintro ⟨a, a1, rfl, a2, a3⟩ ⟨b, b1, b2, b3, b4⟩
          rw [← b2] at b3; omega)
      have hc : (od d m :: L).length ≤ ones (onA l (sq l (od d m)).On) l.length := by
        refine ones_ge (List.nodup_cons.2 ⟨fun hm2 => ?_, l2⟩) fun x hx => ?_
        · obtain ⟨k, _, a, a1, a2, _⟩ := l3 _ hm2
          exact hne a a1 a2.symm
        · rcases List.mem_cons.1 hx with rfl | hx
          · exact ⟨hi, decide_eq_true ⟨by omega, by omega⟩⟩
          · obtain ⟨k, k1, a, a1, rfl, a2, a3⟩ := l3 x hx
            have h4 := hs a m a1 hm
            have h5 := h3 k k1
            exact ⟨od_lt hd (by omega), decide_eq_true ⟨h4, by omega⟩⟩
      have := cnon_fw (l := l) hi
      unfold cnon at this
      rw [List.length_cons, l1] at hc
      omega
end
/-- when all have one -/
theorem assign_end {l : List GShown} {d : List Int} (hd : PermOk d l.length) {out free : List Int} (hg : GS l d out free l.length) : (free.length : Int) = fw l ∧ (∀ p, p < l.length → 0 ≤ gd out p ∧ gd out p < free.length) ∧
    (∀ k, k < free.length → ∃ p, p < l.length ∧ gd out p = k) ∧ ∀ p q, p < l.length → q < l.length → p ≠ q → gd out p = gd out q → (sq l p).Off ≤ (sq l q).On ∨ (sq l q).Off ≤ (sq l p).On := by
  have hb : ∀ p, p < l.length → 0 ≤ gd out p ∧ gd out p < free.length := fun p hp => by
    obtain ⟨a, a1, rfl⟩ := od_surj hd hp
    exact hg.bd a a1
  have hap : ∀ p q, p < l.length → q < l.length → p ≠ q → gd out p = gd out q → (sq l p).Off ≤ (sq l q).On ∨ (sq l q).Off ≤ (sq l p).On := fun p q hp hq hne he => by
    obtain ⟨a, a1, rfl⟩ := od_surj hd hp
    obtain ⟨b, b1, rfl⟩ := od_surj hd hq
    rcases Nat.lt_trichotomy a b with h1 | h1 | h1
    · exact .inl (hg.apart a b h1 b1 he)
    · subst h1; exact absurd rfl hne
    · exact .inr (hg.apart b a h1 a1 he.symm)
  refine ⟨?_, hb, fun k hk => by obtain ⟨a, a1, a2, _⟩ := hg.last k hk; exact ⟨od d a, od_lt hd a1, a2⟩, hap⟩
  have h1 := hg.few
  have h2 : fw l ≤ free.length := mx_le (by omega) fun i hi => by
    have : ones (onA l (sq l i).On) l.length ≤ free.length := ones_map_le (fun p => (gd out p).toNat) (fun p hp _ => by have := hb p hp; omega) fun p q hp hq op oq he => by
      refine Classical.byContradiction fun hne => ?_
      have b1 := hb p hp
      have b2 := hb q hq
      have o1 := of_decide_eq_true op
      have o2 := of_decide_eq_true oq
      rcases hap p q hp hq hne (by omega) with h3 | h3 <;> omega
    unfold cnon; omega
  omega
theorem AssignLanterns_ok {l : List GShown} (h : vshs l) : wp (impl_AssignLanterns l) fun r => r.2 = 0 ∧ r.1.length = l.length ∧ (∀ p, p < l.length → 0 ≤ gd r.1 p ∧ gd r.1 p < fw l) ∧
    (∀ k : Nat, (k : Int) < fw l → ∃ p, p < l.length ∧ gd r.1 p = k) ∧ ∀ p q, p < l.length → q < l.length → p ≠ q → gd r.1 p = gd r.1 q → (sq l p).Off ≤ (sq l q).On ∨ (sq l q).Off ≤ (sq l p).On := by
  have h6 := h.1
  unfold impl_AssignLanterns
  rw [ValidShown_true h, Option.bind_some, if_pos rfl, mk_ok (by omega) (by omega), Option.bind_some]
  refine wp_cnt (fun k => (tab (fun i => (i : Int)) k, (k : Int))) l.length rfl (by omega) (fun k hk => ?_) (b := tab (fun i => (i : Int)) l.length) ?_ ?_
  · simp only
    rw [if_pos (by omega), app_ok (by simp; omega), Option.bind_some, w64_id (by omega) (by omega), tab_succ]; rfl
  · simp only; rw [if_neg (by omega)]
  have hg0 : ∀ a, a < l.length → gd (tab (fun i => (i : Int)) l.length) a = (a : Int) := fun a ha => by
    unfold gd; rw [List.getD_eq_getElem?_getD, tab_get ha]; rfl
  have hp0 : PermOk (tab (fun i => (i : Int)) l.length) l.length := ⟨by simp, fun a ha => by rw [hg0 a ha]; omega, fun a b ha hb he => by rw [hg0 a ha, hg0 b hb] at he; omega⟩
  refine wp_seq (SortStable_ok h hp0) fun d hd' => ?_
  obtain ⟨hd, hs⟩ := hd'
  have hdl := hd.len
  rw [show ((l.length : Int)).toNat = l.length by omega]
  refine wp_loop (fun q : List Int × List Int × Int => ∃ m : Nat, q.2.2 = (m : Int) ∧ m ≤ l.length ∧ GS l d q.1 q.2.1 m) (fun q => (l.length - q.2.2).toNat) ⟨0, rfl, by omega, ⟨by simp, by omega, by omega, by simp, by omega, by simpa using fw_bd.1⟩⟩ (by simp only; omega) ?_
  rintro ⟨out, free, _⟩ ⟨m, rfl, hm, hg⟩
  simp only at hg ⊢
  refine wp_ite (fun hlt => ?_) (fun hge => ?_)
  · have hml : m < l.length := by omega
    have hi := od_lt hd hml
    have hfw := fw_bd (l := l)
    have hfew := hg.few
    obtain ⟨c1, c2, _⟩ := h.2 _ hi
    have hgm : gd d m = (od d m : Int) := by have := hd.bd m hml; unfold od; omega
    have hat : at? l (gd d m) = some (sq l (od d m)) := by rw [hgm]; exact at_sq hi
    rw [at_gd (by omega), Option.bind_some]
    have hidx : wp (slices_IndexFunc_int64_int64_818 free (fun a0 => impl_AssignLanterns_2 a0 l (gd d m))) fun r => (r = -1 ∧ free.any (fun t => decide (t ≤ (sq l (od d m)).On)) = false) ∨ (∃ k : Nat, r = (k : Int) ∧ ∃ h : k < free.length, decide (free[k] ≤ (sq l (od d m)).On) = true ∧ (∀ j (h2 : j < k), decide (free[j]'(by omega) ≤ (sq l (od d m)).On) = false) ∧ free.any (fun t => decide (t ≤ (sq l (od d m)).On)) = true) := by
      unfold slices_IndexFunc_int64_int64_818
      refine idxFS (fun t => decide (t ≤ (sq l (od d m)).On)) free (fun t ht => ?_) (by omega) (fun _ => rfl)
      unfold impl_AssignLanterns_2
      rw [hat, Option.bind_some]
    refine wp_seq hidx fun r hr => ?_
    refine wp_seq (P := fun q => ∃ k : Nat, q.2 = (k : Int) ∧ ((k < free.length ∧ q.1 = free ∧ gd free k ≤ (sq l (od d m)).On) ∨ (k = free.length ∧ q.1 = free ++ [0] ∧ ∀ j, j < free.length → (sq l (od d m)).On < gd free j))) ?_ ?_
    · rcases hr with ⟨rfl, hr⟩ | ⟨k, rfl, hk, hr, _⟩
      · rw [if_pos (by omega), app_ok (by simp; omega), Option.bind_some]
        refine wp_some ⟨free.length, rfl, .inr ⟨rfl, rfl, fun j hj => ?_⟩⟩
        have := List.any_eq_false.1 hr _ (gd_mem hj)
        simp only [decide_eq_true_eq] at this
        omega
      · rw [if_neg (by omega)]
        refine wp_some ⟨k, rfl, .inl ⟨hk, rfl, ?_⟩⟩
        have := of_decide_eq_true hr
        unfold gd
        rw [List.getD_eq_getElem?_getD, List.getElem?_eq_getElem hk]
        exact this
    · rintro ⟨free2, k2⟩ ⟨k, rfl, hk⟩
      simp only at hk ⊢
      have hstep := assign_step h hd hs hml hg hk
      have hk2 : k < free2.length := by
        rcases hk with ⟨h1, h2, _⟩ | ⟨h1, h2, _⟩
        · rw [h2]; exact h1
        · rw [h2, h1]; simp
      rw [hat, Option.bind_some, at_gd hk2, Option.bind_some, hgm, at_gd (by rw [hg.outl]; exact hi), Option.bind_some, Int.toNat_natCast, Int.toNat_natCast, w64_id (by omega) (by omega)]
      exact wp_some ⟨⟨m + 1, rfl, by omega, hstep⟩, by simp only; omega⟩
  · obtain rfl : m = l.length := by omega
    obtain ⟨e1, e2, e3, e4⟩ := assign_end hd hg
    refine wp_some (wp_some ⟨rfl, hg.outl, fun p hp => ?_, fun k hk => ?_, e4⟩)
    · have := e2 p hp; simp only; omega
    · exact e3 k (by omega)
end Go.Vs.G

namespace Go.Vs.G
open Go Go.Vs
theorem inL (n a b : Int) : spec_l00In n a b = some (decide (a ≤ n ∧ n ≤ b)) := by
  unfold spec_l00In; split <;> simp <;> omega
theorem l15Level_eq {x : GShown} (hx : vsh x) (t : Int) : spec_l15Level x t = some (lev x t) := by
  obtain ⟨h1, h2, h3⟩ := hx
  unfold spec_l15Level lev
  rw [w64_id (n := x.Off - 1) (by omega) (by omega), inL, Option.bind_some]
  by_cases h : x.On ≤ t ∧ t < x.Off
  · rw [decide_eq_true (by omega), if_pos rfl, if_pos h]
    by_cases hf : x.Fade = 0
    · rw [if_pos hf, if_pos hf]
    · have d1 : 0 ≤ 100 * (t - x.On) / x.Fade := Int.ediv_nonneg (by omega) (by omega)
      have d2 : 100 * (t - x.On) / x.Fade ≤ 100 * (t - x.On) := Int.ediv_le_self _ (by omega)
      have d3 : 0 ≤ 100 * (x.Off - t) / x.Fade := Int.ediv_nonneg (by omega) (by omega)
      have d4 : 100 * (x.Off - t) / x.Fade ≤ 100 * (x.Off - t) := Int.ediv_le_self _ (by omega)
      have hmin : ∀ a b : Int, spec_l00Min a b = some (min a b) := fun a b => by unfold spec_l00Min; split <;> simp <;> omega
      rw [if_neg hf, if_neg hf, w64_id (n := t - x.On) (by omega) (by omega), w64_id (n := x.Off - t) (by omega) (by omega), w64_id (n := 100 * (t - x.On)) (by omega) (by omega), w64_id (n := 100 * (x.Off - t)) (by omega) (by omega), div_ok hf, div_ok hf, Option.bind_some, Option.bind_some, tdiv_nn (by omega), tdiv_nn (by omega), hmin, Option.bind_some, hmin, Option.bind_some]
      rw [show IntKind.wrap .i64 (100 * (t - x.On) / x.Fade) = _ from w64_id (by omega) (by omega), show IntKind.wrap .i64 (100 * (x.Off - t) / x.Fade) = _ from w64_id (by omega) (by omega)]
      congr 1; omega
  · rw [decide_eq_false (by omega), if_neg (by simp), if_neg h]
theorem l15Ok_eq {l : List GShown} (h : vshs l) : spec_l15Ok l = some true := by
  have h6 := h.1
  unfold spec_l15Ok
  refine eq_of_wp ?_
  refine wp_cnt (fun k => (k : Int)) l.length rfl (by omega) (fun k hk => ?_) (b := ()) ?_ (wp_some (decide_eq_true (by omega)))
  · obtain ⟨c1, c2, c3⟩ := h.2 k hk
    have : spec_l15One (sq l k) = some true := by
      unfold spec_l15One
      rw [w64_id (n := (sq l k).On + 1) (by omega) (by omega), inL, inL, inL, Option.bind_some, decide_eq_true (by omega), if_pos rfl, Option.bind_some, decide_eq_true (by omega), if_pos rfl, Option.bind_some, decide_eq_true (by omega)]
    rw [if_pos (by omega), at_sq hk, Option.bind_some, this, Option.bind_some, if_pos rfl, w64_id (by omega) (by omega)]; rfl
  · rw [if_neg (by omega)]
theorem specLightAt_eq {l : List GShown} (h : vshs l) {t : Int} (t0 : 0 ≤ t) (t1 : t ≤ 20000) : spec_LightAt l t = some (lsm l t l.length, 0) := by
  have h6 := h.1
  unfold spec_LightAt spec_l15Tick
  rw [l15Ok_eq h, Option.bind_some, if_pos rfl, inL, Option.bind_some, Option.bind_some, decide_eq_true ⟨t0, t1⟩, if_pos rfl]
  have : spec_l15Light l t = some (lsm l t l.length) := by
    unfold spec_l15Light
    refine eq_of_wp ?_
    refine wp_cnt (fun k => (lsm l t k, (k : Int))) l.length rfl (by omega) (fun k hk => ?_) (b := lsm l t l.length) ?_ (wp_some rfl)
    · have hb := lsm_bd h t k (by omega)
      have hl := lev_bd (h.2 k hk) t
      simp only
      rw [if_pos (by omega), at_sq hk, Option.bind_some, l15Level_eq (h.2 k hk), Option.bind_some, w64_id (n := (k : Int) + 1) (by omega) (by omega), w64_id (by omega) (by omega), lsm]; rfl
    · simp only; rw [if_neg (by omega)]
  rw [this]; rfl
theorem Brightest_ok {l : List GShown} (h : vshs l) : wp (impl_Brightest l) fun r => (r.2.2 = 0 ∧ (0 ≤ r.1 ∧ r.1 < 20000) ∧ r.2.1 = lsm l r.1 l.length ∧ 1 ≤ r.2.1 ∧ ∀ t : Int, 0 ≤ t → t < 20000 → lsm l t l.length ≤ r.2.1) ∨ r.2.2 = 10 := by
  unfold impl_Brightest
  rw [ValidShown_true h, Option.bind_some, if_pos rfl]
  refine wp_loop (fun q : Int × Int × Int => (0 ≤ q.2.2 ∧ q.2.2 ≤ 20000) ∧ 0 ≤ q.2.1 ∧ (q.2.1 = 0 ∨ (0 ≤ q.1 ∧ q.1 < 20000 ∧ q.2.1 = lsm l q.1 l.length)) ∧ ∀ t : Int, 0 ≤ t → t < q.2.2 → lsm l t l.length ≤ q.2.1) (fun q => (20000 - q.2.2).toNat) ⟨by simp, by simp, .inl rfl, fun t t0 t1 => by simp only at t1; omega⟩ (by simp only; omega) ?_
  rintro ⟨b, m, x⟩ ⟨h1, h2, h3, h4⟩
  simp only at h1 h2 h3 h4 ⊢
  have hb := lsm_bd h x l.length (Nat.le_refl _)
  refine wp_ite (fun hlt => ?_) (fun hge => ?_)
  · rw [light_eq h, Option.bind_some, w64_id (n := x + 1) (by omega) (by omega)]
    refine wp_ite (fun hc => wp_some ⟨⟨by simp only; omega, by simp only; omega, .inr ⟨h1.1, hlt, rfl⟩, fun t t0 t1 => ?_⟩, by simp only; omega⟩) (fun hc => wp_some ⟨⟨by simp only; omega, h2, h3, fun t t0 t1 => ?_⟩, by simp only; omega⟩)
    · simp only at t1 ⊢
      by_cases htx : t = x
      · rw [htx]; omega
      · have := h4 t t0 (by omega); omega
    · simp only at t1 ⊢
      by_cases htx : t = x
      · rw [htx]; omega
      · exact h4 t t0 (by omega)
  · refine wp_some (wp_ite (fun hz => wp_some (.inr rfl)) (fun hz => wp_some (.inl ?_)))
    rcases h3 with h3 | h3
    · exact absurd h3 hz
    · exact ⟨rfl, ⟨h3.1, h3.2.1⟩, h3.2.2, by simp only; omega, fun t t0 t1 => h4 t t0 (by omega)⟩
/- even dissolves -/
def evn (each fade : Int) (i : Nat) : GShown := GShown.mk ((i : Int) * each) (((i : Int) + 1) * each + fade) fade
theorem ev_mul {each fade : Int} (he : fade + 1 ≤ each ∧ each ≤ 29) (hf : 0 ≤ fade ∧ fade ≤ 9) {i : Nat} (hi : (i : Int) ≤ 7) : 0 ≤ (i : Int) * each ∧ (i : Int) * each ≤ 7 * 29 := ⟨Int.mul_nonneg (by omega) (by omega), Int.mul_le_mul hi he.2 (by omega) (by omega)⟩
theorem sq_evn {many each fade : Int} {i : Nat} (hi : i < many.toNat) : sq (tab (evn each fade) many.toNat) i = evn each fade i := by
  unfold sq; rw [List.getD_eq_getElem?_getD, tab_get hi]; rfl
theorem Even_cnt {many each fade : Int} (he : fade + 1 ≤ each ∧ each ≤ 29) (hf : 0 ≤ fade ∧ fade ≤ 9) {i : Nat} (hi : i < many.toNat) : cnon (tab (evn each fade) many.toNat) ((i : Int) * each) = 1 + if 0 < fade ∧ 1 ≤ i then 1 else 0 := by
  have hon : ∀ j, j < many.toNat → onA (tab (evn each fade) many.toNat) ((i : Int) * each) j = decide (j = i ∨ (j + 1 = i ∧ 0 < fade)) := by
    intro j hj
    unfold onA
    rw [sq_evn hj]
    unfold evn
    simp only
    refine decide_eq_decide.2 ?_
    have h2 : ((j : Int) + 1) * each = (j : Int) * each + each := by rw [Int.add_mul]; omega
    constructor
    · rintro ⟨h3, h4⟩
      have hji : j ≤ i := by
        refine Nat.le_of_not_lt fun hlt => ?_
        have : ((i : Int) + 1) * each ≤ (j : Int) * each := Int.mul_le_mul_of_nonneg_right (by omega) (by omega)
        rw [Int.add_mul] at this; omega
      rcases Nat.lt_or_ge j i with h5 | h5
      · right
        have hj1 : j + 1 = i := by
          refine Classical.byContradiction fun hne => ?_
          have : ((j : Int) + 2) * each ≤ (i : Int) * each := Int.mul_le_mul_of_nonneg_right (by omega) (by omega)
          rw [Int.add_mul] at this; omega
        refine ⟨hj1, ?_⟩
        rw [← hj1, Int.natCast_add, Int.add_mul] at h4
        omega
      · left; omega
    · rintro (rfl | ⟨rfl, h5⟩)
      · exact ⟨Int.le_refl _, by omega⟩
      · rw [Int.natCast_add, Int.add_mul]; omega
  have hsum : ∀ k, k ≤ many.toNat → ones (onA (tab (evn each fade) many.toNat) ((i : Int) * each)) k = (if i < k then 1 else 0) + if 0 < fade ∧ 1 ≤ i ∧ i ≤ k then 1 else 0 := by
    intro k
    induction k with
    | zero => intro _; rw [ones, if_neg (by omega), if_neg (by omega)]
    | succ k ih =>
      intro hk
      rw [ones, ih (by omega), hon k (by omega)]
      simp only [decide_eq_true_eq]
      by_cases c1 : i < k
      · rw [if_pos c1, if_pos (show i < k + 1 by omega), if_neg (show ¬ (k = i ∨ (k + 1 = i ∧ 0 < fade)) by omega)]
        by_cases c2 : 0 < fade ∧ 1 ≤ i
        · rw [if_pos (show 0 < fade ∧ 1 ≤ i ∧ i ≤ k by omega), if_pos (show 0 < fade ∧ 1 ≤ i ∧ i ≤ k + 1 by omega)]
        · rw [if_neg (show ¬ (0 < fade ∧ 1 ≤ i ∧ i ≤ k) by omega), if_neg (show ¬ (0 < fade ∧ 1 ≤ i ∧ i ≤ k + 1) by omega)]
      · rw [if_neg c1]
        by_cases c2 : i = k
        · rw [if_pos (show i < k + 1 by omega), if_pos (show k = i ∨ (k + 1 = i ∧ 0 < fade) by omega)]
          by_cases c3 : 0 < fade ∧ 1 ≤ i
          · rw [if_pos (show 0 < fade ∧ 1 ≤ i ∧ i ≤ k by omega), if_pos (show 0 < fade ∧ 1 ≤ i ∧ i ≤ k + 1 by omega)]
          · rw [if_neg (show ¬ (0 < fade ∧ 1 ≤ i ∧ i ≤ k) by omega), if_neg (show ¬ (0 < fade ∧ 1 ≤ i ∧ i ≤ k + 1) by omega)]
        · rw [if_neg (show ¬ i < k + 1 by omega), if_neg (show ¬ (0 < fade ∧ 1 ≤ i ∧ i ≤ k) by omega)]
          by_cases c3 : k + 1 = i ∧ 0 < fade
          · rw [if_pos (show k = i ∨ (k + 1 = i ∧ 0 < fade) by omega), if_pos (show 0 < fade ∧ 1 ≤ i ∧ i ≤ k + 1 by omega)]
          · rw [if_neg (show ¬ (k = i ∨ (k + 1 = i ∧ 0 < fade)) by omega), if_neg (show ¬ (0 < fade ∧ 1 ≤ i ∧ i ≤ k + 1) by omega)]
  unfold cnon
  rw [tab_length, hsum _ (Nat.le_refl _), if_pos hi]
  by_cases c : 0 < fade ∧ 1 ≤ i
  · rw [if_pos (show 0 < fade ∧ 1 ≤ i ∧ i ≤ many.toNat by omega), if_pos c]
  · rw [if_neg (show ¬ (0 < fade ∧ 1 ≤ i ∧ i ≤ many.toNat) by omega), if_neg c]
section
variable {many each fade : Int} (hm : 2 ≤ many ∧ many ≤ 7) (he : fade + 1 ≤ each ∧ each ≤ 29) (hf : 0 ≤ fade ∧ fade ≤ 9)
include hm he hf
theorem Even_eq : impl_EvenDissolve many each fade = some (tab (evn each fade) many.toNat, 0) := by
  have hw : ∀ n a b : Int, a ≤ n ∧ n ≤ b → impl_within n a b = some true := fun n a b hn => by unfold impl_within; rw [if_pos (by omega), decide_eq_true hn.2]
  unfold impl_EvenDissolve
  rw [hw many 1 12 (by omega), Option.bind_some, if_pos rfl, hw each 1 500 (by omega), Option.bind_some, if_pos rfl, hw fade 0 500 (by omega), Option.bind_some, Option.bind_some, if_neg (by simp)]
  refine eq_of_wp ?_
  refine wp_cnt (fun k => (tab (evn each fade) k, (k : Int))) many.toNat rfl (by omega) (fun k hk => ?_) (b := tab (evn each fade) many.toNat) ?_ (wp_some rfl)
  · have h1 := ev_mul he hf (i := k) (by omega)
    have h2 : ((k : Int) + 1) * each = (k : Int) * each + each := by rw [Int.add_mul]; omega
    simp only
    rw [if_pos (by omega), w64_id (n := (k : Int) + 1) (by omega) (by omega), w64_id (n := (k : Int) * each) (by omega) (by omega), w64_id (n := ((k : Int) + 1) * each) (by omega) (by omega), w64_id (by omega) (by omega), app_ok (by simp; omega), Option.bind_some, tab_succ]
    rfl
  · simp only; rw [if_neg (by omega)]
theorem Even_valid : vshs (tab (evn each fade) many.toNat) := by
  refine ⟨by simp; omega, fun i hi => ?_⟩
  rw [tab_length] at hi
  have h1 := ev_mul he hf (i := i) (by omega)
  have h2 : ((i : Int) + 1) * each = (i : Int) * each + each := by rw [Int.add_mul]; omega
  rw [sq_evn hi]
  unfold vsh evn
  simp only
  omega
theorem Even_fw : fw (tab (evn each fade) many.toNat) = if 0 < fade then 2 else 1 := by
  have hc : ∀ i, i < many.toNat → (cnon (tab (evn each fade) many.toNat) (sq (tab (evn each fade) many.toNat) i).On : Int) = 1 + if 0 < fade ∧ 1 ≤ i then 1 else 0 := by
    intro i hi
    rw [sq_evn hi]
    show (cnon (tab (evn each fade) many.toNat) ((i : Int) * each) : Int) = _
    rw [Even_cnt he hf hi]
    split <;> rfl
  unfold fw
  rw [tab_length]
  have h1 : mx (fun i => (cnon (tab (evn each fade) many.toNat) (sq (tab (evn each fade) many.toNat) i).On : Int)) many.toNat ≤ if 0 < fade then 2 else 1 := mx_le (by split <;> omega) fun i hi => by
    rw [hc i hi]; split <;> split <;> omega
  have h2 := le_mx (f := fun i => (cnon (tab (evn each fade) many.toNat) (sq (tab (evn each fade) many.toNat) i).On : Int)) (k := many.toNat) (i := 1) (by omega)
  rw [hc 1 (by omega)] at h2
  by_cases c : 0 < fade
  · rw [if_pos c] at h1 ⊢
    rw [if_pos ⟨c, by omega⟩] at h2
    omega
  · rw [if_neg c] at h1 ⊢
    rw [if_neg (fun h => c h.1)] at h2
    omega
theorem Even_dark (h0 : fade = 0) {n : Nat} (hn : (n : Int) = many * each - 1) : ones (drk (tab (evn each fade) many.toNat) 1) n = 0 := by
  refine ones_zero fun t ht => ?_
  unfold drk
  refine decide_eq_false ?_
  have hv := Even_valid hm he hf
  -- the slide that is on
  have q0 : 0 ≤ (1 + (t : Int)) / each := Int.ediv_nonneg (by omega) (by omega)
  have q1 : (1 + (t : Int)) / each < many := (Int.ediv_lt_iff_lt_mul (by omega)).2 (by omega)
  obtain ⟨i, hi⟩ : ∃ i : Nat, (i : Int) = (1 + (t : Int)) / each := ⟨((1 + (t : Int)) / each).toNat, by omega⟩
  have g1 : (i : Int) * each ≤ 1 + (t : Int) := by rw [hi]; exact Int.ediv_mul_le _ (by omega)
  have g2 : 1 + (t : Int) < ((i : Int) + 1) * each := by rw [hi]; exact Int.lt_ediv_add_one_mul_self _ (by omega)
  have hil : i < many.toNat := by omega
  have hl : lev (sq (tab (evn each fade) many.toNat) i) (1 + (t : Int)) = 100 := by
    rw [sq_evn hil]
    unfold lev evn
    simp only
    rw [if_pos ⟨g1, by omega⟩, if_pos h0]
  have hge : ∀ k, k ≤ many.toNat → i < k → 100 ≤ lsm (tab (evn each fade) many.toNat) (1 + (t : Int)) k := by
    intro k
    induction k with
    | zero => intro _ h; omega
    | succ k ih =>
      intro hk hik
      rw [lsm]
      rcases Nat.lt_or_ge i k with h1 | h1
      · have := ih (by omega) h1
        have := (lev_bd (hv.2 k (by simp; omega)) (1 + (t : Int))).1
        omega
      · have hik2 : i = k := by omega
        have := (lsm_bd hv (1 + (t : Int)) k (by simp; omega)).1
        rw [← hik2, hl, hik2]; omega
  have := hge many.toNat (Nat.le_refl _) hil
  rw [tab_length]; omega
end
theorem great_eq {l : List GShown} {out : List Int} (hb : ∀ p, p < l.length → 0 ≤ gd out p ∧ gd out p < fw l) (hs : ∀ k : Nat, (k : Int) < fw l → ∃ p, p < l.length ∧ gd out p = k) : mx (fun i => gd out i + 1) l.length = fw l := by
  have h0 := fw_bd (l := l)
  have h1 : mx (fun i => gd out i + 1) l.length ≤ fw l := mx_le h0.1 fun i hi => by have := hb i hi; omega
  by_cases hz : fw l = 0
  · have := mx_nonneg (fun i => gd out i + 1) l.length; omega
  · obtain ⟨p, hp, he⟩ := hs (fw l - 1).toNat (by omega)
    have := le_mx (f := fun i => gd out i + 1) hp
    omega
theorem laws_FnLanterns_true {code more : List Int} (hc : okL (okI .u8) code) (hm : okL (okI .u8) more) : laws_FnLanterns code more = some true := by
  unfold laws_FnLanterns
  obtain ⟨r, hr, hr2⟩ := a2Long_eq code more
  rw [hr, Option.bind_some]
  cases r with
  | true => rfl
  | false =>
  obtain ⟨hc2, hm2⟩ := hr2 rfl
  simp only [Bool.false_eq_true, if_false]
  obtain ⟨l, hl, h6, hd'⟩ := A2Shown_ok hc (by omega)
  have h : vshs l := ⟨by omega, fun i hi => (hd' i hi).1⟩
  have hfw := fw_bd (l := l)
  obtain ⟨⟨out, c4⟩, e4, rfl, ol, ob, os, oa⟩ := AssignLanterns_ok h
  obtain ⟨⟨best, most, c5⟩, e5, hbr⟩ := Brightest_ok h
  simp only at ol ob os oa hbr
  have hpos : (fw l > 0) ↔ (l.length : Int) > 0 := by
    constructor
    · intro h1; omega
    · intro h1
      have h2 := cnon_pos h (i := 0) (by omega)
      have h3 := cnon_fw (l := l) (i := 0) (by omega)
      omega
  rw [hl, Option.bind_some, FewestLanterns_eq h, Option.bind_some, e4, Option.bind_some, e5, Option.bind_some]
  simp only [if_true]
  rw [if_neg (by omega), if_pos (by rw [ol]), show decide (fw l > 0) = decide ((l.length : Int) > 0) from decide_eq_decide.2 hpos, beq_self_eq_true, Bool.not_true, Option.bind_some, if_neg (by simp)]
  refine eq_of_wp ?_
  refine wp_cnt (fun k => (mx (fun i => gd out i + 1) k, (k : Int))) l.length rfl (by omega) (fun k hk => ?_) (b := mx (fun i => gd out i + 1) l.length) ?_ ?_
  · have hb := ob k hk
    have hmn := mx_nonneg (fun i => gd out i + 1) k
    simp only
    rw [if_pos (by omega), at_gd (show k < out.length by omega), Option.bind_some, if_neg (by omega), Option.bind_some, decide_eq_false (by omega), Option.bind_some, if_neg (by simp), Option.bind_some]
    refine eq_of_wp ?_
    refine wp_cnt (fun j => (j : Int)) k rfl (by omega) (fun j hj => ?_) (b := ()) ?_ ?_
    · have hx : (if gd out k = gd out j then (if (sq l k).On < (sq l j).Off then (some (decide ((sq l j).On < (sq l k).Off))) else some false) else some false : Option Bool) = some false := by
        by_cases c1 : gd out k = gd out j
        · rw [if_pos c1]
          rcases oa k j hk (by omega) (by omega) c1 with h1 | h1
          · by_cases c2 : (sq l k).On < (sq l j).Off
            · rw [if_pos c2, decide_eq_false (by omega)]
            · rw [if_neg c2]
          · rw [if_neg (by omega)]
        · rw [if_neg c1]
      rw [if_pos (by omega), at_gd (show j < out.length by omega), Option.bind_some, at_sq hk, at_sq (show j < l.length by omega)]
      simp only [Option.bind_some]
      rw [hx, Option.bind_some, if_neg (by simp), w64_id (by omega) (by omega)]; rfl
    · rw [if_neg (by omega)]
    · rw [imax_def, w64_id (n := gd out k + 1) (by omega) (by omega), w64_id (by omega) (by omega)]
      exact wp_some rfl
  · simp only; rw [if_neg (by omega)]
  rw [great_eq ob os, if_pos rfl]
  obtain ⟨t7, ht7, t0, t1⟩ := a2At_ok hm hm2 (i := 0) (n := 90) (by omega) (by omega)
  have hone : (if c5 = 0 then
       ((spec_LightAt l best).bind fun r6 =>
       (laws_a2At more 0 90).bind fun r7 =>
       (spec_LightAt l r7).bind fun r8 =>
       if r6.2 = 0 then
       (if r6.1 = most then
       (if most < 1 then
       (some (Step.ret (S := Unit) (B := Empty) false))
       else
       if r8.2 = 0 then
       (if r8.1 > most then
       (some (.ret false))
       else
       some (.next ()))
       else
       some (.ret false))
       else
       some (.ret false))
       else
       some (.ret false))
       else
       if c5 = 10 then
       (some (.next ()))
       else
       some (.ret false)) = some (.next ()) := by
    rcases hbr with ⟨rfl, hb1, hb2, hb3, hb4⟩ | rfl
    · rw [if_pos rfl, specLightAt_eq h hb1.1 (by omega), Option.bind_some, ht7, Option.bind_some, specLightAt_eq h t0 (by omega), Option.bind_some]
      have := hb4 t7 t0 (by omega)
      simp only [if_true]
      rw [if_pos hb2.symm, if_neg (by omega), if_neg (by omega)]
    · rw [if_neg (by omega), if_pos rfl]
  rw [hone, onS_next]
  obtain ⟨a, ha, a0, a1⟩ := a2At_ok hm hm2 (i := 1) (n := 6) (by omega) (by omega)
  obtain ⟨f, hf, f0, f1⟩ := a2At_ok hm hm2 (i := 2) (n := 10) (by omega) (by omega)
  obtain ⟨g, hg, g0, g1⟩ := a2At_ok hm hm2 (i := 3) (n := 20) (by omega) (by omega)
  have m1 : 2 ≤ 2 + a ∧ 2 + a ≤ 7 := by omega
  have m2 : f + 1 ≤ f + 1 + g ∧ f + 1 + g ≤ 29 := by omega
  have m3 : 0 ≤ f ∧ f ≤ 9 := by omega
  have hv := Even_valid m1 m2 m3
  have hfe := Even_fw m1 m2 m3
  have hmul0 : (2 + a) * 1 ≤ (2 + a) * (f + 1 + g) := Int.mul_le_mul_of_nonneg_left (by omega) (by omega)
  have hmul1 : (2 + a) * (f + 1 + g) ≤ 7 * 29 := Int.mul_le_mul (by omega) (by omega) (by omega) (by omega)
  obtain ⟨n, hn⟩ : ∃ n : Nat, (n : Int) = (2 + a) * (f + 1 + g) - 1 := ⟨((2 + a) * (f + 1 + g) - 1).toNat, by omega⟩
  rw [ha, Option.bind_some, hf, Option.bind_some, hg, Option.bind_some, w64_id (n := 2 + a) (by omega) (by omega), w64_id (n := f + 1) (by omega) (by omega), w64_id (n := f + 1 + g) (by omega) (by omega), Even_eq m1 m2 m3, Option.bind_some]
  simp only
  rw [FewestLanterns_eq hv, Option.bind_some, w64_id (n := (2 + a) * (f + 1 + g)) (by omega) (by omega), show (2 + a) * (f + 1 + g) = 1 + (n : Int) by omega, DarkTicks_eq hv (by omega) (by omega) (by omega), Option.bind_some]
  simp only [if_true, tab_length]
  rw [if_pos (by omega)]
  unfold spec_ValidShown
  rw [l15Ok_eq hv, Option.bind_some, Option.bind_some]
  simp only [if_true]
  rw [hfe]
  by_cases c : 0 < f
  · rw [if_pos c, decide_eq_false (by omega), decide_eq_false (by omega), if_pos (by simp), if_pos (by omega), if_pos (by omega)]
    exact wp_some rfl
  · rw [if_neg c, decide_eq_true rfl, decide_eq_true (by omega), if_pos (by simp), if_pos (by omega), if_neg (by omega), Even_dark m1 m2 m3 (by omega) hn]
    exact wp_some rfl
end Go.Vs.G

