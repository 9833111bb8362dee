/- Plain facts about the typed functions, up to the law: no program in sight. No conditions. -/
import Derived.Test.YtaaoecnfjibfcaaV5
import Derived.Test.YtaaoecnfjibfcaaDLShifts
namespace Go.Vs
open Go

section
variable {α β S B R : Type}

theorem w64_succ {i n : Nat} (h : i < n) (hn : n < 9223372036854775807) : w64 ((i : Int) + 1) = (i : Int) + 1 := w64_id (by omega) (by omega)
theorem at_of {l : List α} {i : Nat} (h : i < l.length) : at? l (i : Int) = some l[i] := at_nat h
end
end Go.Vs

namespace Go.Vs.G
open Go Go.Vs

def small (c : UInt8) : Bool := decide (97 ≤ c.toNat ∧ c.toNat ≤ 122)
end Go.Vs.G

namespace Go.Vs
open Go

section
variable {α β γ R : Type}

/-- the library's IndexFunc -/
theorem idxFS {f : α → Option Bool} (c : α → Bool) (l : List α) (hf : ∀ x, x ∈ l → f x = some (c x)) (hl : l.length < 9223372036854775807)
    {body : Int → Option (Step Int Unit Int)}
    (hb : ∀ (i : Int), body i = if i < (l.length : Int) then ((at? l i).bind fun v => (f v).bind fun r => if r = true then some (.ret i) else some (.next (w64 (i + 1)))) else some (.brk ())) :
    wp (onL (loop body loopLim 0) (fun (_ : Unit) => some (-1 : Int)) (fun r => some r)) fun r => (r = -1 ∧ l.any c = false) ∨ (∃ k : Nat, r = (k : Int) ∧ ∃ h : k < l.length, c l[k] = true ∧ (∀ j (h2 : j < k), c (l[j]'(by omega)) = false) ∧ l.any c = true) := by
  refine wp_loop (fun t : Int => ∃ k : Nat, t = (k : Int) ∧ k ≤ l.length ∧ ∀ j (h2 : j < k) (h3 : j < l.length), c l[j] = false) (fun t => (l.length - t).toNat) ⟨0, rfl, by omega, fun j hj => by omega⟩ (by omega) ?_
  rintro i ⟨k, rfl, hk, hall⟩
  rw [hb]
  refine wp_ite (fun h => ?_) (fun h => ?_)
  · have hk2 : k < l.length := by omega
    rw [at_of hk2, Option.bind_some, hf _ (List.getElem_mem hk2), Option.bind_some]
    refine wp_ite (fun h3 => ?_) (fun h3 => ?_)
    · exact wp_some (wp_some (.inr ⟨k, rfl, hk2, h3, fun j hj => hall j hj (by omega), List.any_eq_true.2 ⟨_, List.getElem_mem hk2, h3⟩⟩))
    · rw [w64_succ hk2 (by omega)]
      refine wp_some ⟨⟨k + 1, rfl, by omega, fun j hj hj2 => ?_⟩, by omega⟩
      rcases Nat.lt_or_ge j k with h4 | h4
      · exact hall j h4 hj2
      · obtain rfl : j = k := by omega
        simpa using h3
  · obtain rfl : k = l.length := by omega
    refine wp_some (wp_some (.inl ⟨rfl, ?_⟩))
    refine Bool.eq_false_iff.2 fun hc => ?_
    obtain ⟨x, hx, hx2⟩ := List.any_eq_true.1 hc
    obtain ⟨j, hj, rfl⟩ := List.getElem_of_mem hx
    rw [hall j hj hj] at hx2
    cases hx2
/-- the library's ContainsFunc -/
theorem contS {f : α → Option Bool} (c : α → Bool) (l : List α) (hf : ∀ x, x ∈ l → f x = some (c x)) (hl : l.length < 9223372036854775807)
    {body : Int → Option (Step Int Unit Int)}
    (hb : ∀ (i : Int), body i = if i < (l.length : Int) then ((at? l i).bind fun v => (f v).bind fun r => if r = true then some (.ret i) else some (.next (w64 (i + 1)))) else some (.brk ())) :
    ((onL (loop body loopLim 0) (fun (_ : Unit) => some (-1 : Int)) (fun r => some r)).bind fun r => some (decide (r ≥ 0))) = some (l.any c) := by
  obtain ⟨r, h1, h2⟩ := idxFS c l hf hl hb
  rw [h1, Option.bind_some]
  rcases h2 with ⟨rfl, h⟩ | ⟨k, rfl, _, _, _, h⟩
  · rw [h]; rfl
  · rw [h, decide_eq_true (by omega)]
/-- a loop whose state at each round is told -/
theorem wp_cnt {S B : Type} {Q : γ → Prop} {body : S → Option (Step S B R)} {kb : B → Option γ} {kr : R → Option γ} {s0 : S} (st : Nat → S) (n : Nat) (h0 : s0 = st 0) (hn : n < 18446744073709551616)
    (hs : ∀ k, k < n → body (st k) = some (.next (st (k + 1)))) {b : B} (he : body (st n) = some (.brk b)) (hq : wp (kb b) Q) : wp (onL (loop body loopLim s0) kb kr) Q := by
  rw [h0, loop_brk st n hn hs he]; exact hq
/-- the numbers below n that fit -/
def sl (c : Nat → Bool) : Nat → List Int
  | 0 => []
  | k + 1 => if c k = true then sl c k ++ [(k : Int)] else sl c k
theorem sl_len (c : Nat → Bool) : ∀ k, (sl c k).length ≤ k
  | 0 => by simp [sl]
  | k + 1 => by have := sl_len c k; rw [sl]; split <;> simp <;> omega
/-- the greatest -/
def mx (f : Nat → Int) : Nat → Int
  | 0 => 0
  | k + 1 => max (mx f k) (f k)
theorem mx_nonneg (f : Nat → Int) : ∀ k, 0 ≤ mx f k
  | 0 => by simp [mx]
  | k + 1 => by have := mx_nonneg f k; rw [mx]; omega
theorem le_mx {f : Nat → Int} : ∀ {k i : Nat}, i < k → f i ≤ mx f k
  | k + 1, i, h => by
    rw [mx]
    rcases Nat.lt_or_ge i k with h1 | h1
    · have := le_mx (f := f) h1; omega
    · rw [show i = k by omega]; omega
theorem mx_le {f : Nat → Int} {m : Int} (hm : 0 ≤ m) : ∀ {k : Nat}, (∀ i, i < k → f i ≤ m) → mx f k ≤ m
  | 0, _ => by simpa [mx] using hm
  | k + 1, h => by
    have h1 := mx_le (f := f) hm (k := k) fun i hi => h i (by omega)
    have h2 := h k (by omega)
    rw [mx]; omega
end
end Go.Vs

namespace Go.Vs
open Go
end Go.Vs
namespace Go.Vs.G
open Go Go.Vs

/-- numbers that rise, from low to high -/
def rises (l : List Int) (low high : Int) : Prop := ∀ i (h : i < l.length), low ≤ l[i] ∧ l[i] ≤ high ∧ (∀ h2 : 0 < i, l[i - 1] < l[i])
end Go.Vs.G

namespace Go.Vs.G
open Go Go.Vs

/-- a source that can still be asked; B bounds the place that it has come to -/
structure SrcOk (B : Int) (s : GL00Src) : Prop where
  bytes : ∀ x, x ∈ s.code → 0 ≤ x ∧ x ≤ 255
  len : s.code.length ≤ 1000000
  at0 : 0 ≤ s.at_
  atB : s.at_ ≤ B
theorem SrcOk.mono {B B' : Int} {s : GL00Src} (h : SrcOk B s) (hB : B ≤ B') : SrcOk B' s := ⟨h.bytes, h.len, h.at0, Int.le_trans h.atB hB⟩
theorem srcOk_from {code : List Int} (h : okL (okI .u8) code) (hl : code.length ≤ 1000000) : SrcOk 0 (GL00Src.mk code 0 0) :=
  ⟨fun x hx => okU8 (h.2 x hx), hl, by simp, by simp⟩
theorem shr40 (n : Int) : shr? .u64 n 40 = some (n.fdiv (2 ^ 40)) := by
  simp [shr?, IntKind.bits]
theorem and255 (n : Int) : 0 ≤ bit_and .u64 n 255 ∧ bit_and .u64 n 255 ≤ 255 := by
  unfold bit_and
  rw [wu64_def]
  have h : (BitVec.ofInt IntKind.u64.bits n &&& BitVec.ofInt IntKind.u64.bits 255).toNat ≤ 255 := by
    rw [BitVec.toNat_and]
    exact Nat.le_trans Nat.and_le_right (by decide)
  omega
theorem next_ok {B : Int} {s : GL00Src} (h : SrcOk B s) (hB : B ≤ 4611686018427387904) : ∃ v s', spec_l00Src_next s = some (v, s') ∧ 0 ≤ v ∧ v ≤ 255 ∧ SrcOk (B + 1) s' := by
  have h1 := h.at0
  have h2 := h.atB
  have h3 := h.len
  have hat : w64 (s.at_ + 1) = s.at_ + 1 := w64_id (by omega) (by omega)
  have hb : ∃ b, (if s.at_ < (s.code.length : Int) then ((at? s.code s.at_).bind fun v1 => some (w64 v1)) else some 0) = some b ∧ 0 ≤ b ∧ b ≤ 255 := by
    split
    · rename_i hlt
      rw [at_ok h1 (by omega), Option.bind_some]
      obtain ⟨g1, g2⟩ := h.bytes s.code[s.at_.toNat] (List.getElem_mem (by omega))
      exact ⟨_, rfl, by rw [w64_id (by omega) (by omega)]; omega, by rw [w64_id (by omega) (by omega)]; omega⟩
    · exact ⟨0, rfl, by omega, by omega⟩
  obtain ⟨b, hb, b0, b1⟩ := hb
  unfold spec_l00Src_next
  rw [hb, Option.bind_some, hat]
  split
  · exact ⟨_, _, rfl, b0, b1, ⟨h.bytes, h.len, by simp only; omega, by simp only; omega⟩⟩
  · rw [shr40, Option.bind_some]
    have := and255 ((IntKind.wrap .u64 ((IntKind.wrap .u64 ((IntKind.wrap .u64 (s.seed * 6364136223846793005)) + (IntKind.wrap .u64 b))) + 1442695040888963407)).fdiv (2 ^ 40))
    exact ⟨_, _, rfl, by rw [w64_id (by omega) (by omega)]; omega, by rw [w64_id (by omega) (by omega)]; omega, ⟨h.bytes, h.len, by simp only; omega, by simp only; omega⟩⟩
theorem pick_ok {B : Int} {s : GL00Src} (h : SrcOk B s) (hB : B ≤ 4611686018427387000) (n : Int) : ∃ v s', spec_l00Src_pick s n = some (v, s') ∧ 0 ≤ v ∧ (v = 0 ∨ v < n) ∧ SrcOk (B + 2) s' := by
  unfold spec_l00Src_pick
  by_cases hn : n ≤ 1
  · rw [if_pos hn]; exact ⟨0, s, rfl, by omega, .inl rfl, h.mono (by omega)⟩
  · rw [if_neg hn]
    obtain ⟨v, s1, e1, v0, v1, k1⟩ := next_ok h (by omega)
    rw [e1, Option.bind_some]
    by_cases h2 : n > 200
    · rw [if_pos h2]
      obtain ⟨u, s2, e2, u0, u1, k2⟩ := next_ok k1 (by omega)
      simp only
      rw [e2, Option.bind_some, mod_ok (by omega), Option.bind_some, w64_id (n := v * 256) (by omega) (by omega), w64_id (by simp only; omega) (by simp only; omega)]
      have e : (v * 256 + u).tmod n = (v * 256 + u) % n := Int.tmod_eq_emod_of_nonneg (by omega)
      refine ⟨_, _, rfl, ?_, ?_, by rw [show B + 2 = B + 1 + 1 by omega]; exact k2⟩
      · simp only [e]; exact Int.emod_nonneg _ (by omega)
      · simp only [e]; right; exact Int.emod_lt_of_pos _ (by omega)
    · rw [if_neg h2, mod_ok (by omega), Option.bind_some]
      simp only
      have e : v.tmod n = v % n := Int.tmod_eq_emod_of_nonneg (by omega)
      refine ⟨_, _, rfl, ?_, ?_, k1.mono (by omega)⟩
      · rw [e]; exact Int.emod_nonneg _ (by omega)
      · rw [e]; right; exact Int.emod_lt_of_pos _ (by omega)
theorem a2Long_eq (a b : List Int) : ∃ r, laws_a2Long a b = some r ∧ (r = false → a.length ≤ 3000 ∧ b.length ≤ 3000) := by
  unfold laws_a2Long
  split
  · exact ⟨true, rfl, by simp⟩
  · exact ⟨_, rfl, by simp; omega⟩
end Go.Vs.G

namespace Go.Vs.G
open Go Go.Vs

theorem l00In_eqB (n a b : Int) : spec_l00In n a b = some (decide (a ≤ n ∧ n ≤ b)) := by
  unfold spec_l00In; split <;> simp <;> omega
end Go.Vs.G

namespace Go.Vs.G
open Go Go.Vs

/-- a valid fraction -/
def GFraction.valid (f : GFraction) : Prop := 1 ≤ f.Den ∧ f.Den ≤ 1000000 ∧ -1000000 ≤ f.Num ∧ f.Num ≤ 1000000 ∧ Int.gcd f.Num f.Den = 1
/-- a drawn fraction -/
structure Drawn (f : GFraction) : Prop where
  d0 : 1 ≤ f.Den
  d1 : f.Den ≤ 20
  n0 : -15 ≤ f.Num
  n1 : f.Num ≤ 44
  cop : Int.gcd f.Num f.Den = 1
theorem Drawn.valid {f : GFraction} (h : Drawn f) : f.valid := ⟨h.d0, by have := h.d1; omega, by have := h.n0; omega, by have := h.n1; omega, h.cop⟩
end Go.Vs.G

namespace Go.Vs
theorem wp_seq {α β : Type} {A : Option β} {k : β → Option α} {P : β → Prop} {Q : α → Prop} (h : wp A P) (hk : ∀ x, P x → wp (k x) Q) : wp (A.bind k) Q := by
  obtain ⟨x, rfl, hx⟩ := h; exact hk x hx
end Go.Vs
namespace Go.Vs.G
open Go Go.Vs

section
variable {α : Type} {Q : α → Prop} {B : Int} {s : GL00Src}
theorem wp_pick {n : Int} {k : Int × GL00Src → Option α} (h : SrcOk B s) (hB : B ≤ 4611686018427387000) (hk : ∀ v s', 0 ≤ v → (v = 0 ∨ v < n) → SrcOk (B + 2) s' → wp (k (v, s')) Q) : wp ((spec_l00Src_pick s n).bind k) Q := by
  obtain ⟨v, s', e, h0, h1, h2⟩ := pick_ok h hB n
  rw [e]; exact hk v s' h0 h1 h2
theorem wp_from {code : List Int} {k : GL00Src → Option α} (h : okL (okI .u8) code) (hl : code.length ≤ 1000000) (hk : ∀ s, SrcOk 0 s → wp (k s) Q) : wp ((spec_l00From code).bind k) Q := hk _ (srcOk_from h hl)
theorem wp_app {β : Type} {l m : List β} {k : List β → Option α} (h : l.length + m.length ≤ 4294967296) (hk : wp (k (l ++ m)) Q) : wp ((app? l m).bind k) Q := by
  rw [app_ok h]; exact hk
end
end Go.Vs.G

namespace Go.Vs.G
open Go Go.Vs

/-- a brightness -/
def brt (f : GFraction) : Prop := (0 ≤ f.Num ∧ f.Num ≤ 100000) ∧ f.Den ≤ 100000
instance (f : GFraction) : Decidable (brt f) := by unfold brt; infer_instance
instance (f : GFraction) : Decidable f.valid := by unfold GFraction.valid; infer_instance
/- light behind losses -/
/- the farthest -/
/- draws -/
section
variable {code : List Int} (hc : okL (okI .u8) code) (hl : code.length ≤ 1000000)
include hc hl
end

end Go.Vs.G

namespace Go.Vs
open Go

theorem mem_sl' {c : Nat → Bool} {v : Int} : ∀ {k : Nat}, v ∈ sl c k → ∃ j : Nat, v = (j : Int) ∧ j < k ∧ c j = true
  | 0, h => by simp [sl] at h
  | k + 1, h => by
    rw [sl] at h
    split at h
    · rename_i hc
      simp only [List.mem_append, List.mem_singleton] at h
      rcases h with h | h
      · obtain ⟨j, h1, h2, h3⟩ := mem_sl' h; exact ⟨j, h1, by omega, h3⟩
      · exact ⟨k, h, by omega, hc⟩
    · obtain ⟨j, h1, h2, h3⟩ := mem_sl' h; exact ⟨j, h1, by omega, h3⟩
end Go.Vs

namespace Go.Vs.G
open Go Go.Vs

theorem p8 {n : Nat} (h : n ≤ 8) : 2 ^ n ≤ 256 := Nat.le_trans (Nat.pow_le_pow_right (by omega) h) (by decide)
/-- lists of up to eight numbers -/
def l8 (l : List Int) : Prop := l.length ≤ 8 ∧ ∀ x, x ∈ l → 0 ≤ x ∧ x ≤ 100000
end Go.Vs.G

namespace Go.Vs
open Go

/-- numbers that rise -/
def Rise (l : List Int) : Prop := l.Pairwise (· < ·)
theorem rise_eq : ∀ {a b : List Int}, Rise a → Rise b → (∀ x, x ∈ a ↔ x ∈ b) → a = b
  | [], [], _, _, _ => rfl
  | [], y :: b, _, _, h => by have := (h y).2 (by simp); simp at this
  | x :: a, [], _, _, h => by have := (h x).1 (by simp); simp at this
  | x :: a, y :: b, ha, hb, h => by
    unfold Rise at ha hb
    rw [List.pairwise_cons] at ha hb
    have hxy : x = y := by
      have h1 := (h x).1 (by simp)
      have h2 := (h y).2 (by simp)
      simp only [List.mem_cons] at h1 h2
      rcases h1 with h1 | h1
      · exact h1
      · rcases h2 with h2 | h2
        · exact h2.symm
        · have := hb.1 x h1; have := ha.1 y h2; omega
    subst hxy
    rw [rise_eq ha.2 hb.2 fun z => ?_]
    constructor
    · intro hz
      have h1 := (h z).1 (by simp [hz])
      have := ha.1 z hz
      simp only [List.mem_cons] at h1
      rcases h1 with h1 | h1
      · omega
      · exact h1
    · intro hz
      have h1 := (h z).2 (by simp [hz])
      have := hb.1 z hz
      simp only [List.mem_cons] at h1
      rcases h1 with h1 | h1
      · omega
      · exact h1
theorem mem_sl {c : Nat → Bool} {v : Int} : ∀ {k : Nat}, v ∈ sl c k ↔ ∃ j : Nat, v = (j : Int) ∧ j < k ∧ c j = true := by
  intro k
  refine ⟨mem_sl', ?_⟩
  rintro ⟨j, rfl, hj, hc⟩
  induction k with
  | zero => omega
  | succ k ih =>
    rw [sl]
    rcases Nat.lt_or_ge j k with h | h
    · split <;> simp [ih h]
    · obtain rfl : j = k := by omega
      rw [if_pos hc]; simp
theorem rise_sl (c : Nat → Bool) : ∀ k, Rise (sl c k)
  | 0 => by simp [Rise, sl]
  | k + 1 => by
    have ih := rise_sl c k
    rw [sl]
    split
    · unfold Rise at ih ⊢
      rw [List.pairwise_append]
      refine ⟨ih, by simp, fun x hx y hy => ?_⟩
      obtain ⟨j, rfl, hj, _⟩ := mem_sl'  hx
      simp only [List.mem_singleton] at hy
      omega
    · exact ih
theorem rise_mono {l : List Int} : ∀ {n : Nat}, (∀ i (h : i < l.length), (∀ h2 : 0 < i, l[i - 1] < l[i])) → ∀ (i j : Nat) (hij : i < j) (hj : j < l.length), l[i] < l[j] := by
  intro _ h i j hij hj
  induction j with
  | zero => omega
  | succ j ih =>
    have h1 := h (j + 1) hj (by omega)
    simp only [Nat.add_sub_cancel] at h1
    rcases Nat.lt_or_ge i j with h2 | h2
    · have := ih h2 (by omega); omega
    · obtain rfl : i = j := by omega
      exact h1
theorem rise_of {l : List Int} (h : ∀ i (h : i < l.length), (∀ h2 : 0 < i, l[i - 1] < l[i])) : Rise l := by
  unfold Rise
  rw [List.pairwise_iff_getElem]
  intro i j hi hj hij
  exact rise_mono (n := 0) h i j hij hj
/-- numbers as bits -/
def bitsN : List Int → Nat
  | [] => 0
  | v :: l => 2 ^ v.toNat ||| bitsN l
def small20 (l : List Int) : Prop := ∀ v, v ∈ l → 0 ≤ v ∧ v < 20
theorem bitsN_test : ∀ {l : List Int}, (∀ v, v ∈ l → 0 ≤ v) → ∀ i, (bitsN l).testBit i = decide ((i : Int) ∈ l)
  | [], _, i => by simp [bitsN]
  | v :: l, h, i => by
    have h0 := h v (by simp)
    rw [bitsN, Nat.testBit_or, bitsN_test (fun x hx => h x (by simp [hx])), Nat.testBit_two_pow]
    by_cases h1 : v.toNat = i
    · have : (i : Int) = v := by omega
      simp [h1, this]
    · have : ¬ ((i : Int) = v) := by omega
      simp [h1, this]
/-- the set of a rising list -/
theorem sl_bits {l : List Int} {n : Nat} (hr : Rise l) (hl : ∀ v, v ∈ l → 0 ≤ v ∧ v < n) : sl (bitsN l).testBit n = l := by
  refine rise_eq (rise_sl _ _) hr fun x => ?_
  rw [mem_sl]
  constructor
  · rintro ⟨j, rfl, hj, hb⟩
    rw [bitsN_test (fun v hv => (hl v hv).1)] at hb
    exact of_decide_eq_true hb
  · intro hx
    have := hl x hx
    refine ⟨x.toNat, by omega, by omega, ?_⟩
    rw [bitsN_test (fun v hv => (hl v hv).1), show ((x.toNat : Nat) : Int) = x by omega]
    exact decide_eq_true hx
end Go.Vs

namespace Go.Vs
open Go
end Go.Vs
namespace Go.Vs.G
open Go Go.Vs
/-- a burning -/
def brn (s : List UInt8) : Prop := s.length ≤ 60 ∧ ∀ c, c ∈ s → c = 48 ∨ c = 49
instance (s : List UInt8) : Decidable (brn s) := inferInstanceAs (Decidable (_ ∧ _))
end Go.Vs.G

namespace Go.Vs
open Go
end Go.Vs
namespace Go.Vs.G
open Go Go.Vs
def cq (l : List GCue) (i : Nat) : GCue := l.getD i default
theorem at_cq {l : List GCue} {i : Nat} (h : i < l.length) : at? l (i : Int) = some (cq l i) := by
  unfold cq; rw [at_of h, List.getD_eq_getElem?_getD, List.getElem?_eq_getElem h]; rfl
/-- a cue as it is drawn -/
def dcue (c : GCue) : Prop := (0 ≤ c.At ∧ c.At ≤ 23) ∧ (1 ≤ c.Ticks ∧ c.Ticks ≤ 7) ∧ (1 ≤ c.Hands ∧ c.Hands ≤ 2) ∧ (0 ≤ c.Slack ∧ c.Slack ≤ 4)
def dcues (l : List GCue) : Prop := l.length ≤ 6 ∧ ∀ i, i < l.length → dcue (cq l i)
def act (c : GCue) (t : Int) : Bool := decide (c.At ≤ t ∧ t < c.At + c.Ticks)
/-- the hands at a tick -/
def hnd (l : List GCue) (t : Int) : Nat → Int
  | 0 => 0
  | k + 1 => hnd l t k + if act (cq l k) t = true then (cq l k).Hands else 0
theorem hnd_bd {l : List GCue} (h : dcues l) (t : Int) : ∀ k, k ≤ l.length → 0 ≤ hnd l t k ∧ hnd l t k ≤ 2 * k
  | 0, _ => by simp [hnd]
  | k + 1, hk => by
    have h1 := hnd_bd h t k (by omega)
    have h2 := (h.2 k (by omega)).2.2.1
    rw [hnd]; split <;> omega
abbrev H (l : List GCue) (t : Int) : Int := hnd l t l.length
theorem hnd_pos {l : List GCue} (h : dcues l) {t : Int} : ∀ {k i : Nat}, k ≤ l.length → i < k → act (cq l i) t = true → 0 < hnd l t k
  | k + 1, i, hk, hi, ha => by
    have h1 := hnd_bd h t k (by omega)
    have h2 := (h.2 k (by omega)).2.2.1
    rw [hnd]
    rcases Nat.lt_or_ge i k with h3 | h3
    · have := hnd_pos h (k := k) (by omega) h3 ha
      split <;> omega
    · obtain rfl : i = k := by omega
      rw [if_pos ha]; omega
section
variable {l : List GCue} (h : dcues l)
include h
theorem handsAt_eq (t : Int) : impl_handsAt l t = some (H l t) := by
  have h6 := h.1
  unfold impl_handsAt
  refine eq_of_wp ?_
  refine wp_cnt (fun k => (hnd l t k, (k : Int))) l.length rfl (by omega) (fun k hk => ?_) (b := H l t) ?_ (wp_some rfl)
  · have hb := hnd_bd h t k (by omega)
    have hc := h.2 k hk
    obtain ⟨c1, c2, c3, c4⟩ := hc
    simp only
    rw [if_pos (by omega), at_cq hk, Option.bind_some, w64_id (n := (k : Int) + 1) (by omega) (by omega), w64_id (n := (cq l k).At + (cq l k).Ticks) (by omega) (by omega), w64_id (by omega) (by omega)]
    have e : (if (cq l k).At ≤ t then (some (decide (t < (cq l k).At + (cq l k).Ticks))) else some false : Option Bool) = some (act (cq l k) t) := by
      unfold act
      by_cases h1 : (cq l k).At ≤ t
      · rw [if_pos h1]; exact congrArg some (decide_eq_decide.2 (by omega))
      · rw [if_neg h1, decide_eq_false (fun h => h1 h.1)]
    rw [e, Option.bind_some, hnd]
    split
    · rfl
    · rw [Int.add_zero]; rfl
  · simp only; rw [if_neg (by omega)]
theorem ValidCues_true : impl_ValidCues l = some true := by
  have h6 := h.1
  unfold impl_ValidCues
  rw [if_pos (by omega)]
  have hcf : slices_ContainsFunc_impl_Cue_impl_Cue_800 l (fun a0 => impl_ValidCues_1 a0) = some (l.any fun _ => false) := by
    unfold slices_ContainsFunc_impl_Cue_impl_Cue_800 slices_IndexFunc_impl_Cue_impl_Cue_822
    refine contS (fun _ => false) l (fun x hx => ?_) (by omega) (fun _ => rfl)
    obtain ⟨i, hi, rfl⟩ := List.getElem_of_mem hx
    have hc := h.2 i hi
    unfold cq at hc
    rw [List.getD_eq_getElem?_getD, List.getElem?_eq_getElem hi] at hc
    obtain ⟨c1, c2, c3, c4⟩ := hc
    simp only [Option.getD_some] at c1 c2 c3 c4
    have hw : ∀ n a b : Int, a ≤ n ∧ n ≤ b → impl_within n a b = some true := fun n a b hn => by unfold impl_within; rw [if_pos (by omega), decide_eq_true hn.2]
    unfold impl_ValidCues_1
    simp only [hw _ 0 10000 ⟨c1.1, by omega⟩, hw _ 1 1000 ⟨c2.1, by omega⟩, hw _ 1 4 ⟨c3.1, by omega⟩, hw _ 0 6 ⟨c4.1, by omega⟩, Option.bind_some, if_true]
    rfl
  rw [hcf, Option.bind_some]
  have : (l.any fun _ => false) = false := by induction l <;> simp
  rw [this]; rfl
theorem mostHands_eq : impl_mostHands l = some (mx (fun i => H l (cq l i).At) l.length) := by
  have h6 := h.1
  unfold impl_mostHands
  refine eq_of_wp ?_
  refine wp_cnt (fun k => (mx (fun i => H l (cq l i).At) k, (k : Int))) l.length rfl (by omega) (fun k hk => ?_) (b := mx (fun i => H l (cq l i).At) l.length) ?_ (wp_some rfl)
  · simp only
    rw [if_pos (by omega), at_cq hk, Option.bind_some, handsAt_eq h, Option.bind_some, w64_id (n := (k : Int) + 1) (by omega) (by omega), imax_def, mx]
    rfl
  · simp only; rw [if_neg (by omega)]
end
end Go.Vs.G

namespace Go.Vs.G
open Go Go.Vs

/-- rising numbers from a to b -/
theorem rises.rise {s : List Int} {a b : Int} (h : rises s a b) : Rise s := rise_of fun i hi => (h i hi).2.2
theorem rises.rng {s : List Int} {a b : Int} (h : rises s a b) {v : Int} (hv : v ∈ s) : a ≤ v ∧ v ≤ b := by
  obtain ⟨i, hi, rfl⟩ := List.getElem_of_mem hv; exact ⟨(h i hi).1, (h i hi).2.1⟩
theorem rises.small {s : List Int} {b : Int} (h : rises s 0 b) (hb : b < 20) : small20 s := fun v hv => by have := h.rng hv; omega
theorem rises.len {s : List Int} {b : Int} (h : rises s 0 b) (hb : b < 20) : s.length ≤ 20 := by
  rw [← sl_bits (n := 20) h.rise (fun v hv => by have := h.small hb v hv; omega)]; exact sl_len _ _
end Go.Vs.G

namespace Go.Vs.G
open Go Go.Vs
theorem cq_append {l : List GCue} {c : GCue} {i : Nat} : cq (l ++ [c]) i = if i = l.length then c else cq l i := by
  unfold cq
  rw [List.getD_eq_getElem?_getD, List.getD_eq_getElem?_getD, List.getElem?_append]
  by_cases h : i < l.length
  · rw [if_pos h, if_neg (by omega)]
  · rw [if_neg h]
    by_cases h2 : i = l.length
    · rw [if_pos h2, h2, Nat.sub_self]; rfl
    · rw [if_neg h2, List.getElem?_eq_none (by simp; omega), List.getElem?_eq_none (by omega)]
theorem A2Cues_ok {code : List Int} (hc : okL (okI .u8) code) (hl : code.length ≤ 1000000) : wp (spec_A2Cues code) (fun l => dcues l ∧ ∀ i, i < l.length → (cq l i).At ≤ 19) := by
  unfold spec_A2Cues
  refine wp_from hc hl fun s hs => wp_seq (P := fun r => dcues r.1 ∧ ∀ i, i < r.1.length → (cq r.1 i).At ≤ 19) ?_ fun r hr => wp_some hr
  unfold spec_l17Draw
  refine wp_pick hs (by omega) fun n s1 n0 n1 h1 => ?_
  simp only
  refine wp_loop (fun q : GL00Src × List GCue × Int => SrcOk (2 + 10 * (n - q.2.2)) q.1 ∧ 0 ≤ q.2.2 ∧ q.2.2 ≤ n ∧ (q.2.1.length : Int) = n - q.2.2 ∧ ∀ i, i < q.2.1.length → dcue (cq q.2.1 i) ∧ (cq q.2.1 i).At ≤ 19) (fun q => q.2.2.toNat) ⟨h1.mono (by simp only; omega), n0, by simp only; omega, by simp, by simp⟩ (by simp only; omega) ?_
  rintro ⟨s, out, k⟩ ⟨h2, h3, h4, h5, h6⟩
  simp only at h2 h3 h4 h5 h6 ⊢
  refine wp_ite (fun h => ?_) (fun h => ?_)
  · refine wp_pick h2 (by omega) fun a s2 a0 a1 k1 => wp_pick k1 (by omega) fun b s3 b0 b1 k2 => wp_pick k2 (by omega) fun c s4 c0 c1 k3 => wp_pick k3 (by omega) fun d s5 d0 d1 k4 => wp_app (by simp; omega) ?_
    rw [w64_id (n := 1 + b) (by omega) (by omega), w64_id (n := 1 + c) (by omega) (by omega), w64_id (by omega) (by omega)]
    refine wp_some ⟨⟨k4.mono (by simp only; omega), by simp only; omega, by simp only; omega, by simp; omega, fun i hi => ?_⟩, by simp only; omega⟩
    simp only [List.length_append, List.length_singleton] at hi
    simp only
    rw [cq_append]
    by_cases h7 : i = out.length
    · rw [if_pos h7]; unfold dcue; simp only; omega
    · rw [if_neg h7]; exact h6 i (by omega)
  · exact wp_some (wp_some ⟨⟨by simp only; omega, fun i hi => (h6 i hi).1⟩, fun i hi => (h6 i hi).2⟩)
/-- a cue that is shifted -/
def shc (c : GCue) (b : Int) : GCue := GCue.mk (c.At + b) c.Ticks c.Hands (c.Slack - b)
end Go.Vs.G

namespace Go.Vs.G
open Go Go.Vs

/- sums -/
def smK (l : List Int) : Nat → Int
  | 0 => 0
  | k + 1 => smK l k + l.getD k 0
def sm (l : List Int) : Int := smK l l.length
theorem smK_bd {l : List Int} {B : Int} (hB : 0 ≤ B) : ∀ {k : Nat}, (∀ i, i < k → 0 ≤ l.getD i 0 ∧ l.getD i 0 ≤ B) → 0 ≤ smK l k ∧ smK l k ≤ B * k
  | 0, _ => by simp [smK]
  | k + 1, h => by
    have ih := smK_bd hB (k := k) fun i hi => h i (by omega)
    have := h k (by omega)
    simp only [smK]
    rw [Int.natCast_succ, Int.mul_add, Int.mul_one]; omega
theorem smK_zero {l : List Int} : ∀ {k : Nat}, (∀ i, i < k → 0 ≤ l.getD i 0) → smK l k = 0 → ∀ i, i < k → l.getD i 0 = 0
  | 0, _, _, i, hi => by omega
  | k + 1, h, hs, i, hi => by
    simp only [smK] at hs
    have h1 : 0 ≤ smK l k := by
      have : ∀ {m : Nat}, m ≤ k → 0 ≤ smK l m := by
        intro m
        induction m with
        | zero => intro _; simp [smK]
        | succ m ih => intro hm; have := ih (by omega); have := h m (by omega); simp only [smK]; omega
      exact this (Nat.le_refl _)
    have h2 := h k (by omega)
    rcases Nat.lt_or_ge i k with h3 | h3
    · exact smK_zero (fun j hj => h j (by omega)) (by omega) i h3
    · obtain rfl : i = k := by omega
      omega
theorem at_getI {l : List Int} {k : Nat} (h : k < l.length) : at? l (k : Int) = some (l.getD k 0) := by
  rw [at_of h, List.getD_eq_getElem?_getD, List.getElem?_eq_getElem h]; rfl
theorem sumOf_sm {l : List Int} (hl : l.length ≤ 1000) (h : ∀ i, i < l.length → 0 ≤ l.getD i 0 ∧ l.getD i 0 ≤ 1000) : impl_sumOf l = some (sm l) := by
  unfold impl_sumOf
  refine eq_of_wp ?_
  refine wp_cnt (fun k => (smK l k, (k : Int))) l.length rfl (by omega) (fun k hk => ?_) (b := sm l) ?_ (wp_some rfl)
  · have h1 := smK_bd (B := 1000) (by omega) (k := k) fun i hi => h i (by omega)
    have h2 := h k hk
    simp only
    rw [if_pos (by omega), at_getI hk, Option.bind_some, w64_id (n := smK l k + _) (by omega) (by omega), w64_id (by omega) (by omega)]; rfl
  · simp only; rw [if_neg (by omega)]; rfl
theorem a2Sum_sm {l : List Int} (hl : l.length ≤ 1000) (h : ∀ i, i < l.length → 0 ≤ l.getD i 0 ∧ l.getD i 0 ≤ 1000) : laws_a2Sum l = some (sm l) := sumOf_sm hl h
/- what is a list of shifts -/
def okv (l : List GCue) (a : List Int) : Prop := a.length = l.length ∧ ∀ i, i < l.length → 0 ≤ a.getD i 0 ∧ a.getD i 0 ≤ (cq l i).Slack
def shl (l : List GCue) (a : List Int) : List GCue := tab (fun i => shc (cq l i) (a.getD i 0)) l.length
/-- all lists of shifts that go on from d -/
def allv (l : List GCue) : Nat → List Int → List (List Int)
  | 0, d => [d]
  | n + 1, d => (List.range ((cq l d.length).Slack.toNat + 1)).flatMap fun b : Nat => allv l n (d ++ [(b : Int)])
theorem getD_app {d : List Int} {x : Int} {i : Nat} : (d ++ [x]).getD i 0 = if i < d.length then d.getD i 0 else if i = d.length then x else 0 := by
  rw [List.getD_eq_getElem?_getD, List.getD_eq_getElem?_getD, List.getElem?_append]
  by_cases h : i < d.length
  · rw [if_pos h, if_pos h]
  · rw [if_neg h, if_neg h]
    by_cases h2 : i = d.length
    · rw [if_pos h2, h2, Nat.sub_self]; rfl
    · rw [if_neg h2, List.getElem?_eq_none (by simp; omega)]; rfl
def prf (l : List GCue) (d : List Int) : Prop := ∀ i, i < d.length → 0 ≤ d.getD i 0 ∧ d.getD i 0 ≤ (cq l i).Slack
theorem prf_nil {l : List GCue} : prf l [] := fun i hi => by simp at hi
theorem shl_len (l : List GCue) (a : List Int) : (shl l a).length = l.length := by unfold shl; simp
theorem allv_mem {l : List GCue} : ∀ {n : Nat} {d a : List Int}, d.length + n = l.length → okv l a → (∀ i, i < d.length → a.getD i 0 = d.getD i 0) → a ∈ allv l n d
  | 0, d, a, hn, ha, hp => by
    simp only [allv, List.mem_singleton]
    refine List.ext_getElem (by rw [ha.1]; omega) fun i h1 h2 => ?_
    have := hp i h2
    rw [List.getD_eq_getElem?_getD, List.getD_eq_getElem?_getD, List.getElem?_eq_getElem h1, List.getElem?_eq_getElem h2] at this
    exact this
  | n + 1, d, a, hn, ha, hp => by
    simp only [allv, List.mem_flatMap, List.mem_range]
    have hb := ha.2 d.length (by omega)
    refine ⟨(a.getD d.length 0).toNat, by omega, allv_mem (n := n) (by simp; omega) ha fun i hi => ?_⟩
    simp only [List.length_append, List.length_singleton] at hi
    rw [getD_app]
    rcases Nat.lt_or_ge i d.length with h1 | h1
    · rw [if_pos h1]; exact hp i h1
    · obtain rfl : i = d.length := by omega
      rw [if_neg (by omega), if_pos rfl]; omega
section
variable {l : List GCue} (h : dcues l)
include h
theorem prf_snoc {d : List Int} (hd : prf l d) (hl : d.length < l.length) {b : Nat} (hb : b ≤ (cq l d.length).Slack.toNat) : prf l (d ++ [(b : Int)]) := by
  intro i hi
  simp only [List.length_append, List.length_singleton] at hi
  rw [getD_app]
  have := (h.2 d.length hl).2.2.2
  rcases Nat.lt_or_ge i d.length with h1 | h1
  · rw [if_pos h1]; exact hd i h1
  · obtain rfl : i = d.length := by omega
    rw [if_neg (by omega), if_pos rfl]; omega
theorem mem_allv : ∀ {n : Nat} {d a : List Int}, d.length + n = l.length → prf l d → a ∈ allv l n d → okv l a
  | 0, d, a, hn, hd, ha => by
    simp only [allv, List.mem_singleton] at ha
    subst ha
    exact ⟨by omega, fun i hi => hd i (by omega)⟩
  | n + 1, d, a, hn, hd, ha => by
    simp only [allv, List.mem_flatMap, List.mem_range] at ha
    obtain ⟨b, hb, ha⟩ := ha
    exact mem_allv (n := n) (by simp; omega) (prf_snoc h hd (by omega) (by omega)) ha
theorem allShifts_fold {τ : Type} {f : List Int → τ → Option τ} {g : List Int → τ → τ} {P : τ → Prop} (hf : ∀ a st, okv l a → P st → f a st = some (g a st) ∧ P (g a st)) :
    ∀ (n : Nat) (d : List Int) (st : τ) (m : Nat), d.length + n = l.length → prf l d → P st → n < m →
      impl_allShifts_n l f m d st = some ((allv l n d).foldl (fun s a => g a s) st) ∧ P ((allv l n d).foldl (fun s a => g a s) st)
  | _, _, _, 0, _, _, _, hm => by omega
  | 0, d, st, m + 1, hn, hd, hP, _ => by
    obtain ⟨h1, h2⟩ := hf d st ⟨by omega, fun i hi => hd i (by omega)⟩ hP
    rw [impl_allShifts_n, if_pos (by omega), h1]
    exact ⟨rfl, h2⟩
  | n + 1, d, st, m + 1, hn, hd, hP, hm => by
    have h6 := h.1
    have hs := (h.2 d.length (by omega)).2.2.2
    have key : ∀ k, k ≤ (cq l d.length).Slack.toNat + 1 → P (((List.range k).flatMap fun b : Nat => allv l n (d ++ [(b : Int)])).foldl (fun s a => g a s) st) := by
      intro k
      induction k with
      | zero => intro _; exact hP
      | succ k ih =>
        intro hk
        rw [List.range_succ, List.flatMap_append, List.foldl_append, List.flatMap_singleton]
        exact (allShifts_fold hf n (d ++ [(k : Int)]) _ m (by simp; omega) (prf_snoc h hd (by omega) (by omega)) (ih (by omega)) (by omega)).2
    refine ⟨?_, key _ (Nat.le_refl _)⟩
    rw [impl_allShifts_n, if_neg (by omega)]
    refine eq_of_wp ?_
    refine wp_cnt (fun k => (((List.range k).flatMap fun b : Nat => allv l n (d ++ [(b : Int)])).foldl (fun s a => g a s) st, (k : Int))) ((cq l d.length).Slack.toNat + 1) rfl (by omega) (fun k hk => ?_) (b := (allv l (n + 1) d).foldl (fun s a => g a s) st) ?_ (wp_some rfl)
    · simp only
      rw [at_cq (by omega), Option.bind_some, if_pos (by omega)]
      unfold cloneL
      rw [if_pos (by omega), Option.bind_some, app_ok (by simp; omega), Option.bind_some,
        (allShifts_fold hf n (d ++ [(k : Int)]) _ m (by simp; omega) (prf_snoc h hd (by omega) (by omega)) (key k (by omega)) (by omega)).1, Option.bind_some, w64_id (by omega) (by omega), List.range_succ, List.flatMap_append, List.foldl_append, List.flatMap_singleton]
      rfl
    · simp only
      rw [at_cq (by omega), Option.bind_some, if_neg (by omega)]
      rfl
theorem allShifts_eq {τ : Type} {f : List Int → τ → Option τ} {g : List Int → τ → τ} {P : τ → Prop} (hf : ∀ a st, okv l a → P st → f a st = some (g a st) ∧ P (g a st)) {st : τ} (hP : P st) :
    impl_allShifts l [] f st = some ((allv l l.length []).foldl (fun s a => g a s) st) := by
  have := h.1
  exact (allShifts_fold h hf l.length [] st 8 (by simp) prf_nil hP (by omega)).1
theorem all_iff {a : List Int} : a ∈ allv l l.length [] ↔ okv l a := ⟨mem_allv h (by simp) prf_nil, fun ha => allv_mem (by simp) ha fun i hi => by simp at hi⟩
/- shifted cues -/
theorem shl_d (ha : ∀ i, i < l.length → (cq l i).At ≤ 19) {a : List Int} (hv : okv l a) : dcues (shl l a) := by
  refine ⟨by unfold shl; simpa using h.1, fun i hi => ?_⟩
  have hi2 : i < l.length := by unfold shl at hi; simpa using hi
  have c1 := h.2 i hi2
  have c2 := hv.2 i hi2
  have c3 := ha i hi2
  obtain ⟨d1, d2, d3, d4⟩ := c1
  unfold shl cq
  rw [List.getD_eq_getElem?_getD, tab_get hi2]
  unfold cq at d1 d2 d3 d4 c2 c3
  simp only [Option.getD_some, shc, dcue, cq]
  omega
theorem shiftCues_shl (ha : ∀ i, i < l.length → (cq l i).At ≤ 19) {a : List Int} (hv : okv l a) : impl_shiftCues l a = some (shl l a) := by
  have h6 := h.1
  obtain ⟨hr, hb⟩ := hv
  have hat : ∀ i, i < l.length → at? a (i : Int) = some (a.getD i 0) := fun i hi => at_getI (by omega)
  unfold impl_shiftCues cloneL shl
  rw [if_pos (by omega), Option.bind_some]
  refine eq_of_wp ?_
  have hl0 : l = tab (fun i => cq l i) l.length := by unfold cq; exact eq_tab l default
  refine wp_cnt (fun k => (tab (fun i => if i < k then shc (cq l i) (a.getD i 0) else cq l i) l.length, (k : Int))) l.length ?_ (by omega) (fun k hk => ?_) (b := tab (fun i => shc (cq l i) (a.getD i 0)) l.length) ?_ (wp_some rfl)
  · refine Prod.ext ?_ rfl
    conv => lhs; rw [hl0]
    exact tab_congr fun i _ => by simp
  · have c1 := h.2 k hk
    have c2 := hb k hk
    have c3 := ha k hk
    obtain ⟨d1, d2, d3, d4⟩ := c1
    simp only
    rw [if_pos (by omega), hat k hk, Option.bind_some, tab_at (by omega) (by omega), Option.bind_some, Option.bind_some, Int.toNat_natCast, if_neg (by omega), tab_set, tab_at (by omega) (by omega), Option.bind_some, Option.bind_some, Int.toNat_natCast, if_pos rfl, tab_set, w64_id (n := (k : Int) + 1) (by omega) (by omega), w64_id (n := (cq l k).At + _) (by omega) (by omega)]
    simp only
    rw [w64_id (n := (cq l k).Slack - _) (by omega) (by omega)]
    refine congrArg some (congrArg Step.next (Prod.ext ?_ rfl))
    refine tab_congr fun i hi => ?_
    by_cases h1 : i = k
    · subst h1; rw [if_pos rfl, if_pos (by omega)]; rfl
    · rw [if_neg h1, if_neg h1]
      by_cases h2 : i < k
      · rw [if_pos h2, if_pos (by omega)]
      · rw [if_neg h2, if_neg (by omega)]
  · simp only
    rw [if_neg (by omega)]
    exact congrArg some (congrArg Step.brk (tab_congr fun i hi => by rw [if_pos hi]))
end
end Go.Vs.G

namespace Go.Vs.G
open Go Go.Vs

/-- the most hands -/
def Mh (l : List GCue) : Int := mx (fun i => H l (cq l i).At) l.length
theorem Mh_bd {l : List GCue} (h : dcues l) : 0 ≤ Mh l ∧ Mh l ≤ 12 := ⟨mx_nonneg _ _, mx_le (by omega) fun i hi => by
  have := (hnd_bd h (cq l i).At l.length (Nat.le_refl _)).2
  have := h.1
  unfold H; omega⟩
theorem Mh_pos {l : List GCue} (h : dcues l) (h0 : 0 < l.length) : 1 ≤ Mh l := by
  have h1 : H l (cq l 0).At ≤ Mh l := le_mx (f := fun i => H l (cq l i).At) h0
  have h2 : 0 < H l (cq l 0).At := hnd_pos h (Nat.le_refl _) h0 (by
    have := (h.2 0 h0).2.1
    unfold act; exact decide_eq_true (by omega))
  omega
def zer (l : List GCue) : List Int := List.replicate l.length 0
theorem zer_getD (l : List GCue) (i : Nat) : (zer l).getD i 0 = 0 := by
  unfold zer
  rw [List.getD_eq_getElem?_getD, List.getElem?_replicate]
  split <;> rfl
theorem zer_ok {l : List GCue} (h : dcues l) : okv l (zer l) := ⟨by simp [zer], fun i hi => by
  rw [zer_getD]
  have := (h.2 i hi).2.2.2; omega⟩
theorem shl_zer {l : List GCue} {a : List Int} (hz : ∀ i, i < l.length → a.getD i 0 = 0) : shl l a = l := by
  have hl0 : l = tab (fun i => cq l i) l.length := by unfold cq; exact eq_tab l default
  conv => rhs; rw [hl0]
  unfold shl
  refine tab_congr fun i hi => ?_
  rw [hz i hi]
  unfold shc
  rw [Int.add_zero, Int.sub_zero]
theorem okv_bd {l : List GCue} (h : dcues l) {a : List Int} (ha : okv l a) : ∀ i, i < a.length → 0 ≤ a.getD i 0 ∧ a.getD i 0 ≤ 1000 := fun i hi => by
  have h1 := ha.2 i (by rw [← ha.1]; exact hi)
  have h2 := (h.2 i (by rw [← ha.1]; exact hi)).2.2.2
  omega
theorem sm_bd {l : List GCue} (h : dcues l) {a : List Int} (ha : okv l a) : 0 ≤ sm a ∧ sm a ≤ 6000 := by
  have := smK_bd (l := a) (B := 1000) (by omega) (k := a.length) (okv_bd h ha)
  have h6 := h.1
  have := ha.1
  unfold sm; omega
theorem sm_zer (l : List GCue) : sm (zer l) = 0 := by
  have : ∀ k, smK (zer l) k = 0 := by
    intro k
    induction k with
    | zero => rfl
    | succ k ih => simp only [smK]; rw [ih, zer_getD]; rfl
  exact this _
/-- the least sum and its shifts, so far -/
def bstS (l : List GCue) (m : Int) (a : List Int) (x : Int × List GCue × Int × List Int) : Int × List GCue × Int × List Int :=
  if (x.1 < 0 ∨ sm a < x.1) ∧ Mh (shl l a) ≤ m then (sm a, x.2.1, x.2.2.1, a) else x
/-- what the best is of what was seen -/
def Bst (l : List GCue) (m : Int) (L : List (List Int)) (x : Int × List GCue × Int × List Int) : Prop :=
  (x.1 = -1 ∧ ∀ a, a ∈ L → ¬ Mh (shl l a) ≤ m) ∨ (0 ≤ x.1 ∧ x.2.2.2 ∈ L ∧ Mh (shl l x.2.2.2) ≤ m ∧ x.1 = sm x.2.2.2 ∧ ∀ a, a ∈ L → Mh (shl l a) ≤ m → x.1 ≤ sm a)
theorem Bst_fold {l : List GCue} (h : dcues l) {m : Int} : ∀ (L S : List (List Int)) (x : Int × List GCue × Int × List Int), (∀ a, a ∈ L → okv l a) → Bst l m S x → Bst l m (S ++ L) (L.foldl (fun s a => bstS l m a s) x)
  | [], S, x, _, hb => by simpa using hb
  | a :: L, S, x, hL, hb => by
    have := Bst_fold h L (S ++ [a]) (bstS l m a x) (fun b hb' => hL b (by simp [hb'])) (by
      have s0 := (sm_bd h (hL a (by simp))).1
      unfold bstS
      split
      · rename_i hc
        refine .inr ⟨s0, by simp, hc.2, rfl, fun b hb2 hm => ?_⟩
        simp only
        rcases List.mem_append.1 hb2 with hb2 | hb2
        · rcases hb with ⟨h1, h2⟩ | ⟨h1, h2, h3, h4, h5⟩
          · exact absurd hm (h2 b hb2)
          · have := h5 b hb2 hm
            rcases hc.1 with h6 | h6 <;> omega
        · rw [List.mem_singleton.1 hb2]; exact Int.le_refl _
      · rename_i hc
        rcases hb with ⟨h1, h2⟩ | ⟨h1, h2, h3, h4, h5⟩
        · refine .inl ⟨h1, fun b hb2 => ?_⟩
          rcases List.mem_append.1 hb2 with hb2 | hb2
          · exact h2 b hb2
          · rw [List.mem_singleton.1 hb2]
            exact fun hm => hc ⟨.inl (by omega), hm⟩
        · refine .inr ⟨h1, by simp [h2], h3, h4, fun b hb2 hm => ?_⟩
          rcases List.mem_append.1 hb2 with hb2 | hb2
          · exact h5 b hb2 hm
          · rw [List.mem_singleton.1 hb2] at hm ⊢
            exact Classical.byContradiction fun hlt => hc ⟨.inr (by omega), hm⟩)
    rw [List.append_assoc] at this
    exact this
section
variable {l : List GCue} (h : dcues l) (h19 : ∀ i, i < l.length → (cq l i).At ≤ 19)
include h h19
theorem bst_eq {m : Int} (a : List Int) (x : Int × List GCue × Int × List Int) (ha : okv l a) (hx : x.2.1 = l ∧ x.2.2.1 = m) : impl_LeastShifts_1 a x.1 x.2.1 x.2.2.1 x.2.2.2 = some (bstS l m a x) ∧ ((bstS l m a x).2.1 = l ∧ (bstS l m a x).2.2.1 = m) := by
  obtain ⟨x1, x2, x3, x4⟩ := x
  obtain ⟨rfl, rfl⟩ := hx
  simp only at h h19 ha ⊢
  have h6 := h.1
  have hd := shl_d h h19 ha
  have hal := ha.1
  refine ⟨?_, ?_⟩
  · unfold impl_LeastShifts_1 bstS
    rw [sumOf_sm (by omega) (okv_bd h ha), Option.bind_some, shiftCues_shl h h19 ha, Option.bind_some, mostHands_eq hd]
    simp only [Option.bind_some]
    change (Option.bind (if x1 < 0 then some (decide (Mh (shl x2 a) ≤ x3)) else if sm a < x1 then some (decide (Mh (shl x2 a) ≤ x3)) else some false) fun x5 => _) = _
    unfold cloneL
    have hcl : a.length ≤ 4294967296 := by omega
    simp only [hcl, if_true]
    by_cases c1 : x1 < 0
    · rw [if_pos c1]
      by_cases c2 : Mh (shl x2 a) ≤ x3
      · rw [decide_eq_true c2, if_pos ⟨.inl c1, c2⟩]; rfl
      · rw [decide_eq_false c2, if_neg (fun hh => c2 hh.2)]; rfl
    · rw [if_neg c1]
      by_cases c3 : sm a < x1
      · rw [if_pos c3]
        by_cases c2 : Mh (shl x2 a) ≤ x3
        · rw [decide_eq_true c2, if_pos ⟨.inr c3, c2⟩]; rfl
        · rw [decide_eq_false c2, if_neg (fun hh => c2 hh.2)]; rfl
      · rw [if_neg c3, if_neg (fun hh => hh.1.elim c1 c3)]; rfl
  · unfold bstS
    split <;> exact ⟨rfl, rfl⟩
/-- the least shifts -/
theorem LeastShifts_ok {m : Int} (hm : 0 ≤ m ∧ m ≤ 24) : ∃ r, impl_LeastShifts l m = some r ∧
    ((r = ([], 3) ∧ ∀ a, okv l a → ¬ Mh (shl l a) ≤ m) ∨ (r.2 = 0 ∧ okv l r.1 ∧ Mh (shl l r.1) ≤ m ∧ ∀ a, okv l a → Mh (shl l a) ≤ m → sm r.1 ≤ sm a)) := by
  have hcc : impl_cuesCode l m = some 0 := by
    unfold impl_cuesCode
    rw [ValidCues_true h, Option.bind_some, if_pos rfl, show impl_within m 0 24 = some true by unfold impl_within; rw [if_pos (by omega), decide_eq_true (by omega)]]
    rfl
  have hf := allShifts_eq h (f := fun a0 (x : Int × (List GCue) × Int × (List Int)) => impl_LeastShifts_1 a0 x.1 x.2.1 x.2.2.1 x.2.2.2) (g := bstS l m) (P := fun x => x.2.1 = l ∧ x.2.2.1 = m) (fun a st h1 h2 => bst_eq h h19 a st h1 h2) (st := (-1, l, m, [])) ⟨rfl, rfl⟩
  have hb := Bst_fold h (m := m) (allv l l.length []) [] (-1, l, m, []) (fun a ha => (all_iff h).1 ha) (.inl ⟨rfl, fun a ha => by simp at ha⟩)
  rw [List.nil_append] at hb
  unfold impl_LeastShifts
  rw [hcc, Option.bind_some, if_pos rfl, hf, Option.bind_some]
  generalize (allv l l.length []).foldl (fun s a => bstS l m a s) (-1, l, m, []) = x at hb ⊢
  rcases hb with ⟨h1, h2⟩ | ⟨h1, h2, h3, h4, h5⟩
  · rw [if_pos (by omega)]
    exact ⟨_, rfl, .inl ⟨rfl, fun a ha => h2 a ((all_iff h).2 ha)⟩⟩
  · rw [if_neg (by omega)]
    exact ⟨_, rfl, .inr ⟨rfl, (all_iff h).1 h2, h3, fun a ha hm2 => by rw [← h4]; exact h5 a ((all_iff h).2 ha) hm2⟩⟩
/-- the least hands -/
theorem Slack_ok : ∃ m, impl_HandsWithSlack l = some (m, 0) ∧ (∃ a, okv l a ∧ Mh (shl l a) = m) ∧ ∀ a, okv l a → m ≤ Mh (shl l a) := by
  have hf := allShifts_eq h (f := fun a0 (x : Int × (List GCue)) => impl_HandsWithSlack_1 a0 x.1 x.2) (g := fun a x => (imin x.1 (Mh (shl l a)), x.2)) (P := fun x => x.2 = l) (fun a st h1 h2 => by
    obtain ⟨x1, x2⟩ := st
    simp only at h2
    subst h2
    refine ⟨?_, rfl⟩
    unfold impl_HandsWithSlack_1
    rw [shiftCues_shl h h19 h1, Option.bind_some, mostHands_eq (shl_d h h19 h1)]
    rfl) (st := (Mh l, l)) rfl
  have key : ∀ (L : List (List Int)) (x : Int × List GCue), (L.foldl (fun (s : Int × List GCue) a => (imin s.1 (Mh (shl l a)), s.2)) x).1 ≤ x.1 ∧ (∀ a, a ∈ L → (L.foldl (fun (s : Int × List GCue) a => (imin s.1 (Mh (shl l a)), s.2)) x).1 ≤ Mh (shl l a)) ∧
      ((L.foldl (fun (s : Int × List GCue) a => (imin s.1 (Mh (shl l a)), s.2)) x).1 = x.1 ∨ ∃ a, a ∈ L ∧ (L.foldl (fun (s : Int × List GCue) a => (imin s.1 (Mh (shl l a)), s.2)) x).1 = Mh (shl l a)) := by
    intro L
    induction L with
    | nil => intro x; exact ⟨Int.le_refl _, fun a ha => by simp at ha, .inl rfl⟩
    | cons b L ih =>
      intro x
      obtain ⟨i1, i2, i3⟩ := ih (imin x.1 (Mh (shl l b)), x.2)
      rw [List.foldl_cons]
      have hm : imin x.1 (Mh (shl l b)) = min x.1 (Mh (shl l b)) := imin_def _ _
      simp only [hm] at i1 i2 i3 ⊢
      refine ⟨by omega, fun a ha => ?_, ?_⟩
      · rcases List.mem_cons.1 ha with rfl | ha
        · omega
        · exact i2 a ha
      · rcases i3 with i3 | ⟨a, ha, i3⟩
        · rcases Int.le_total x.1 (Mh (shl l b)) with hc | hc
          · left; omega
          · right; exact ⟨b, by simp, by omega⟩
        · right; exact ⟨a, by simp [ha], i3⟩
  obtain ⟨k1, k2, k3⟩ := key (allv l l.length []) (Mh l, l)
  refine ⟨_, ?_, ?_, fun a ha => k2 a ((all_iff h).2 ha)⟩
  · unfold impl_HandsWithSlack
    rw [ValidCues_true h, Option.bind_some, if_pos rfl, mostHands_eq h, Option.bind_some]
    change ((impl_allShifts l [] _ (Mh l, l)).bind fun st1 => some (st1.1, 0)) = _
    rw [hf]; rfl
  · rcases k3 with k3 | ⟨a, ha, k3⟩
    · exact ⟨zer l, zer_ok h, by rw [k3, shl_zer fun i _ => zer_getD l i]⟩
    · exact ⟨a, (all_iff h).1 ha, k3.symm⟩
end
end Go.Vs.G

namespace Go.Vs.G
open Go Go.Vs
section
variable {l : List GCue} (h : dcues l)
include h
theorem l17Ok_true : spec_l17Ok l = some true := by
  have h6 := h.1
  unfold spec_l17Ok
  refine eq_of_wp ?_
  refine wp_cnt (fun k => (k : Int)) l.length rfl (by omega) (fun k hk => ?_) (b := ()) ?_ ?_
  · obtain ⟨d1, d2, d3, d4⟩ := h.2 k hk
    rw [if_pos (by omega), at_cq hk, Option.bind_some, l00In_eqB, l00In_eqB, l00In_eqB, l00In_eqB, decide_eq_true (show 0 ≤ (cq l k).At ∧ (cq l k).At ≤ 10000 by omega), decide_eq_true (show 1 ≤ (cq l k).Ticks ∧ (cq l k).Ticks ≤ 1000 by omega), decide_eq_true (show 1 ≤ (cq l k).Hands ∧ (cq l k).Hands ≤ 4 by omega), decide_eq_true (show 0 ≤ (cq l k).Slack ∧ (cq l k).Slack ≤ 6 by omega), w64_id (by omega) (by omega)]
    rfl
  · rw [if_neg (by omega)]
  · exact wp_some (decide_eq_true (by omega))
theorem l17At_eq (t : Int) : spec_l17At l t = some (H l t) := by
  have h6 := h.1
  unfold spec_l17At
  refine eq_of_wp ?_
  refine wp_cnt (fun k => (hnd l t k, (k : Int))) l.length rfl (by omega) (fun k hk => ?_) (b := H l t) ?_ (wp_some rfl)
  · obtain ⟨d1, d2, d3, d4⟩ := h.2 k hk
    have hb := hnd_bd h t k (by omega)
    simp only
    rw [if_pos (by omega), at_cq hk, Option.bind_some, Option.bind_some, Option.bind_some, w64_id (n := (cq l k).At + (cq l k).Ticks) (by omega) (by omega), w64_id (n := (cq l k).At + (cq l k).Ticks - 1) (by omega) (by omega), l00In_eqB, Option.bind_some, w64_id (n := (k : Int) + 1) (by omega) (by omega)]
    have e : decide ((cq l k).At ≤ t ∧ t ≤ (cq l k).At + (cq l k).Ticks - 1) = act (cq l k) t := by unfold act; exact decide_eq_decide.2 (by omega)
    rw [e]
    simp only [hnd]
    cases hc : act (cq l k) t with
    | true => simp only [if_true, Option.bind_some]; rw [w64_id (by omega) (by omega)]; rfl
    | false => simp only [Bool.false_eq_true, if_false, Int.add_zero]; rfl
  · simp only; rw [if_neg (by omega)]
theorem l17Most_eq : spec_l17Most l = some (Mh l) := by
  have h6 := h.1
  unfold spec_l17Most
  refine eq_of_wp ?_
  refine wp_cnt (fun k => (mx (fun i => H l (cq l i).At) k, (k : Int))) l.length rfl (by omega) (fun k hk => ?_) (b := Mh l) ?_ (wp_some rfl)
  · simp only
    rw [if_pos (by omega), at_cq hk, Option.bind_some, l17At_eq h, Option.bind_some, w64_id (by omega) (by omega)]
    have : spec_l00Max (mx (fun i => H l (cq l i).At) k) (H l (cq l k).At) = some (mx (fun i => H l (cq l i).At) (k + 1)) := by
      unfold spec_l00Max
      rw [mx]
      split <;> congr 1 <;> omega
    rw [this]; rfl
  · simp only; rw [if_neg (by omega)]; rfl
theorem specMost_eq : spec_MostHands l = some (Mh l, 0) := by
  unfold spec_MostHands
  rw [l17Ok_true h, Option.bind_some, if_pos rfl, l17Most_eq h]; rfl
theorem MostHands_Mh : impl_MostHands l = some (Mh l, 0) := by
  unfold impl_MostHands
  rw [ValidCues_true h, Option.bind_some, if_pos rfl, mostHands_eq h]; rfl
theorem specShift_shl (h19 : ∀ i, i < l.length → (cq l i).At ≤ 19) {a : List Int} (ha : okv l a) : spec_ShiftCues l a = some (shl l a, 0) := by
  have h6 := h.1
  have hal := ha.1
  have hd := shl_d h h19 ha
  unfold spec_ShiftCues
  rw [l17Ok_true h, Option.bind_some, if_pos rfl, if_pos (by omega)]
  refine eq_of_wp ?_
  refine wp_cnt (fun k => (tab (fun i => shc (cq l i) (a.getD i 0)) k, (k : Int))) l.length rfl (by omega) (fun k hk => ?_) (b := shl l a) ?_ ?_
  · obtain ⟨d1, d2, d3, d4⟩ := h.2 k hk
    have c2 := ha.2 k hk
    have c3 := h19 k hk
    simp only
    rw [if_pos (by omega), at_getI (by omega), Option.bind_some, at_cq hk, Option.bind_some, l00In_eqB, decide_eq_true c2, Option.bind_some, if_pos rfl, Option.bind_some, Option.bind_some]
    unfold spec_l17Shift
    rw [Option.bind_some, app_ok (by simp; omega), Option.bind_some, w64_id (n := (k : Int) + 1) (by omega) (by omega), w64_id (n := (cq l k).At + _) (by omega) (by omega), w64_id (n := (cq l k).Slack - _) (by omega) (by omega), tab_succ]
    rfl
  · simp only; rw [if_neg (by omega)]; rfl
  · rw [l17Ok_true hd, Option.bind_some, if_pos rfl]
    exact wp_some rfl
end
theorem laws_FnShifts_true {code : List Int} (hc : okL (okI .u8) code) : laws_FnShifts code = some true := by
  unfold laws_FnShifts
  obtain ⟨r, hr, hr2⟩ := a2Long_eq code []
  rw [hr, Option.bind_some]
  cases r with
  | true => rfl
  | false =>
  obtain ⟨hc2, _⟩ := hr2 rfl
  simp only [Bool.false_eq_true, if_false]
  obtain ⟨l, hl, h, h19⟩ := A2Cues_ok hc (by omega)
  rw [hl, Option.bind_some]
  obtain ⟨m, e1, ⟨b, hb, hbm⟩, hall⟩ := Slack_ok h h19
  have hz := zer_ok h
  have hzl : shl l (zer l) = l := shl_zer fun i _ => zer_getD l i
  have hM := Mh_bd h
  have hm0 : 0 ≤ m := by rw [← hbm]; exact (Mh_bd (shl_d h h19 hb)).1
  have hmM : m ≤ Mh l := by have := hall _ hz; rwa [hzl] at this
  have h00 : m = 0 ↔ l.length = 0 := by
    constructor
    · intro h0
      refine Classical.byContradiction fun hn => ?_
      have := Mh_pos (shl_d h h19 hb) (by rw [shl_len]; omega)
      omega
    · intro h0
      have : Mh l = 0 := by unfold Mh; rw [h0]; rfl
      omega
  rw [e1, Option.bind_some, MostHands_Mh h, Option.bind_some]
  have hx : ((decide (m = 0)) == (decide ((l.length : Int) = 0))) = true := by
    rw [beq_iff_eq]; exact decide_eq_decide.2 (by rw [h00]; omega)
  simp only [if_true]
  rw [if_neg (by omega), if_neg (by omega), hx]
  simp only [Bool.not_true, Option.bind_some, Bool.false_eq_true, if_false]
  obtain ⟨r5, e5, p5⟩ := LeastShifts_ok h h19 (m := m) (by omega)
  rw [e5, Option.bind_some]
  rcases p5 with ⟨_, p5⟩ | ⟨q1, q2, q3, q4⟩
  · exact absurd (by omega) (p5 b hb)
  obtain ⟨r8, e8, p8⟩ := LeastShifts_ok h h19 (m := Mh l) (by omega)
  rcases p8 with ⟨_, p8⟩ | ⟨s1, s2, s3, s4⟩
  · exact absurd (by rw [hzl]; omega) (p8 _ hz)
  rw [specShift_shl h h19 q2, Option.bind_some, specMost_eq (shl_d h h19 q2), Option.bind_some, e8, Option.bind_some]
  have h6 := h.1
  have l5 := q2.1
  have l8 := s2.1
  have hs8 : sm r8.1 = 0 := by
    have := s4 _ hz (by rw [hzl]; omega)
    rw [sm_zer] at this
    have := (sm_bd h s2).1
    omega
  have hs5 : (sm r5.1 = 0) ↔ m = Mh l := by
    constructor
    · intro h0
      have hzz : ∀ i, i < l.length → r5.1.getD i 0 = 0 := fun i hi => smK_zero (k := r5.1.length) (fun j hj => (okv_bd h q2 j hj).1) h0 i (by omega)
      rw [shl_zer hzz] at q3
      omega
    · intro h0
      have := q4 _ hz (by rw [hzl]; omega)
      rw [sm_zer] at this
      have := (sm_bd h q2).1
      omega
  have hx2 : ((decide (sm r5.1 = 0)) == (decide (m = Mh l))) = true := by
    rw [beq_iff_eq]; exact decide_eq_decide.2 hs5
  simp only [q1, s1, if_true]
  rw [if_neg (by omega), if_pos (by omega), a2Sum_sm (by omega) (okv_bd h s2), Option.bind_some, if_pos hs8, a2Sum_sm (by omega) (okv_bd h q2), Option.bind_some, hx2]
  simp only [Bool.not_true, Option.bind_some, Bool.false_eq_true, if_false]
  by_cases hm : m = 0
  · rw [if_pos hm]
  · rw [if_neg hm, w64_id (by omega) (by omega)]
    obtain ⟨r11, e11, p11⟩ := LeastShifts_ok h h19 (m := m - 1) (by omega)
    rw [e11, Option.bind_some]
    rcases p11 with ⟨rfl, _⟩ | ⟨t1, t2, t3, t4⟩
    · rfl
    · have := hall _ t2
      omega
end Go.Vs.G

