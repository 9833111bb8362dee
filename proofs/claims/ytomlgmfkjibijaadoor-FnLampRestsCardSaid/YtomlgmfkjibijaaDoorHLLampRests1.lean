/- Plain facts about the typed functions, up to the law: no program in sight. No conditions. -/
import Derived.Test.YtomlgmfkjibijaaDoorV5
import Derived.Test.YtomlgmfkjibijaaDoorDLLampRests
namespace Go.Vs
open Go

section
variable {α β S B R : Type}

theorem at_of {l : List α} {i : Nat} (h : i < l.length) : at? l (i : Int) = some l[i] := at_nat h
end
end Go.Vs

namespace Go.Vs.G
open Go Go.Vs

def small (c : UInt8) : Bool := decide (97 ≤ c.toNat ∧ c.toNat ≤ 122)
end Go.Vs.G

namespace Go.Vs
open Go

section
variable {α β γ R : Type}

/-- a loop whose state at each round is told -/
theorem wp_cnt {S B : Type} {Q : γ → Prop} {body : S → Option (Step S B R)} {kb : B → Option γ} {kr : R → Option γ} {s0 : S} (st : Nat → S) (n : Nat) (h0 : s0 = st 0) (hn : n < 18446744073709551616)
    (hs : ∀ k, k < n → body (st k) = some (.next (st (k + 1)))) {b : B} (he : body (st n) = some (.brk b)) (hq : wp (kb b) Q) : wp (onL (loop body loopLim s0) kb kr) Q := by
  rw [h0, loop_brk st n hn hs he]; exact hq
/-- the numbers below n that fit -/
def sl (c : Nat → Bool) : Nat → List Int
  | 0 => []
  | k + 1 => if c k = true then sl c k ++ [(k : Int)] else sl c k
theorem sl_len (c : Nat → Bool) : ∀ k, (sl c k).length ≤ k
  | 0 => by simp [sl]
  | k + 1 => by have := sl_len c k; rw [sl]; split <;> simp <;> omega
end
end Go.Vs

namespace Go.Vs
open Go
end Go.Vs
namespace Go.Vs.G
open Go Go.Vs

/-- numbers that rise, from low to high -/
def rises (l : List Int) (low high : Int) : Prop := ∀ i (h : i < l.length), low ≤ l[i] ∧ l[i] ≤ high ∧ (∀ h2 : 0 < i, l[i - 1] < l[i])
end Go.Vs.G

namespace Go.Vs.G
open Go Go.Vs

/-- a source that can still be asked; B bounds the place that it has come to -/
structure SrcOk (B : Int) (s : GL00Src) : Prop where
  bytes : ∀ x, x ∈ s.code → 0 ≤ x ∧ x ≤ 255
  len : s.code.length ≤ 1000000
  at0 : 0 ≤ s.at_
  atB : s.at_ ≤ B
theorem SrcOk.mono {B B' : Int} {s : GL00Src} (h : SrcOk B s) (hB : B ≤ B') : SrcOk B' s := ⟨h.bytes, h.len, h.at0, Int.le_trans h.atB hB⟩
theorem srcOk_from {code : List Int} (h : okL (okI .u8) code) (hl : code.length ≤ 1000000) : SrcOk 0 (GL00Src.mk code 0 0) :=
  ⟨fun x hx => okU8 (h.2 x hx), hl, by simp, by simp⟩
theorem shr40 (n : Int) : shr? .u64 n 40 = some (n.fdiv (2 ^ 40)) := by
  simp [shr?, IntKind.bits]
theorem and255 (n : Int) : 0 ≤ bit_and .u64 n 255 ∧ bit_and .u64 n 255 ≤ 255 := by
  unfold bit_and
  rw [wu64_def]
  have h : (BitVec.ofInt IntKind.u64.bits n &&& BitVec.ofInt IntKind.u64.bits 255).toNat ≤ 255 := by
    rw [BitVec.toNat_and]
    exact Nat.le_trans Nat.and_le_right (by decide)
  omega
theorem next_ok {B : Int} {s : GL00Src} (h : SrcOk B s) (hB : B ≤ 4611686018427387904) : ∃ v s', spec_l00Src_next s = some (v, s') ∧ 0 ≤ v ∧ v ≤ 255 ∧ SrcOk (B + 1) s' := by
  have h1 := h.at0
  have h2 := h.atB
  have h3 := h.len
  have hat : w64 (s.at_ + 1) = s.at_ + 1 := w64_id (by omega) (by omega)
  have hb : ∃ b, (if s.at_ < (s.code.length : Int) then ((at? s.code s.at_).bind fun v1 => some (w64 v1)) else some 0) = some b ∧ 0 ≤ b ∧ b ≤ 255 := by
    split
    · rename_i hlt
      rw [at_ok h1 (by omega), Option.bind_some]
      obtain ⟨g1, g2⟩ := h.bytes s.code[s.at_.toNat] (List.getElem_mem (by omega))
      exact ⟨_, rfl, by rw [w64_id (by omega) (by omega)]; omega, by rw [w64_id (by omega) (by omega)]; omega⟩
    · exact ⟨0, rfl, by omega, by omega⟩
  obtain ⟨b, hb, b0, b1⟩ := hb
  unfold spec_l00Src_next
  rw [hb, Option.bind_some, hat]
  split
  · exact ⟨_, _, rfl, b0, b1, ⟨h.bytes, h.len, by simp only; omega, by simp only; omega⟩⟩
  · rw [shr40, Option.bind_some]
    have := and255 ((IntKind.wrap .u64 ((IntKind.wrap .u64 ((IntKind.wrap .u64 (s.seed * 6364136223846793005)) + (IntKind.wrap .u64 b))) + 1442695040888963407)).fdiv (2 ^ 40))
    exact ⟨_, _, rfl, by rw [w64_id (by omega) (by omega)]; omega, by rw [w64_id (by omega) (by omega)]; omega, ⟨h.bytes, h.len, by simp only; omega, by simp only; omega⟩⟩
theorem pick_ok {B : Int} {s : GL00Src} (h : SrcOk B s) (hB : B ≤ 4611686018427387000) (n : Int) : ∃ v s', spec_l00Src_pick s n = some (v, s') ∧ 0 ≤ v ∧ (v = 0 ∨ v < n) ∧ SrcOk (B + 2) s' := by
  unfold spec_l00Src_pick
  by_cases hn : n ≤ 1
  · rw [if_pos hn]; exact ⟨0, s, rfl, by omega, .inl rfl, h.mono (by omega)⟩
  · rw [if_neg hn]
    obtain ⟨v, s1, e1, v0, v1, k1⟩ := next_ok h (by omega)
    rw [e1, Option.bind_some]
    by_cases h2 : n > 200
    · rw [if_pos h2]
      obtain ⟨u, s2, e2, u0, u1, k2⟩ := next_ok k1 (by omega)
      simp only
      rw [e2, Option.bind_some, mod_ok (by omega), Option.bind_some, w64_id (n := v * 256) (by omega) (by omega), w64_id (by simp only; omega) (by simp only; omega)]
      have e : (v * 256 + u).tmod n = (v * 256 + u) % n := Int.tmod_eq_emod_of_nonneg (by omega)
      refine ⟨_, _, rfl, ?_, ?_, by rw [show B + 2 = B + 1 + 1 by omega]; exact k2⟩
      · simp only [e]; exact Int.emod_nonneg _ (by omega)
      · simp only [e]; right; exact Int.emod_lt_of_pos _ (by omega)
    · rw [if_neg h2, mod_ok (by omega), Option.bind_some]
      simp only
      have e : v.tmod n = v % n := Int.tmod_eq_emod_of_nonneg (by omega)
      refine ⟨_, _, rfl, ?_, ?_, k1.mono (by omega)⟩
      · rw [e]; exact Int.emod_nonneg _ (by omega)
      · rw [e]; right; exact Int.emod_lt_of_pos _ (by omega)
theorem a2Long_eq (a b : List Int) : ∃ r, laws_a2Long a b = some r ∧ (r = false → a.length ≤ 3000 ∧ b.length ≤ 3000) := by
  unfold laws_a2Long
  split
  · exact ⟨true, rfl, by simp⟩
  · exact ⟨_, rfl, by simp; omega⟩
/-- a number off a byte -/
theorem a2At_ok {code : List Int} (h : okL (okI .u8) code) (hl : code.length ≤ 3000) {i n : Int} (hi : 0 ≤ i) (hn : 1 ≤ n) : ∃ v, laws_a2At code i n = some v ∧ 0 ≤ v ∧ v < n := by
  unfold laws_a2At
  by_cases h1 : i ≥ (code.length : Int)
  · rw [if_pos h1]; exact ⟨0, rfl, by omega, by omega⟩
  · rw [if_neg h1, Option.bind_some]
    have h2 : ¬ n < 1 := by omega
    simp only [h2, decide_false, Bool.false_eq_true, if_false]
    rw [at_ok hi (by omega), Option.bind_some, mod_ok (by omega), Option.bind_some]
    obtain ⟨g1, g2⟩ := okU8 (h.2 code[i.toNat] (List.getElem_mem (by omega)))
    rw [w64_id (by omega) (by omega)]
    have e : (code[i.toNat]'(by omega)).tmod n = (code[i.toNat]'(by omega)) % n := Int.tmod_eq_emod_of_nonneg g1
    exact ⟨_, rfl, by rw [e]; exact Int.emod_nonneg _ (by omega), by rw [e]; exact Int.emod_lt_of_pos _ (by omega)⟩
end Go.Vs.G

namespace Go.Vs.G
open Go Go.Vs

def GBlades.good (b : GBlades) : Prop := 1 ≤ b.Many ∧ b.Many ≤ 12 ∧ 1000 % b.Many = 0 ∧ 1 ≤ b.Open ∧ b.Open ≤ 999 ∧ b.Open % b.Many = 0
/-- how many of the first k parts satisfy c -/
def count (c : Nat → Bool) : Nat → Nat
  | 0 => 0
  | k + 1 => if c k = true then count c k + 1 else count c k
end Go.Vs.G

namespace Go.Vs.G
open Go Go.Vs

/-- a valid fraction -/
def GFraction.valid (f : GFraction) : Prop := 1 ≤ f.Den ∧ f.Den ≤ 1000000 ∧ -1000000 ≤ f.Num ∧ f.Num ≤ 1000000 ∧ Int.gcd f.Num f.Den = 1
/-- a drawn fraction -/
structure Drawn (f : GFraction) : Prop where
  d0 : 1 ≤ f.Den
  d1 : f.Den ≤ 20
  n0 : -15 ≤ f.Num
  n1 : f.Num ≤ 44
  cop : Int.gcd f.Num f.Den = 1
theorem Drawn.valid {f : GFraction} (h : Drawn f) : f.valid := ⟨h.d0, by have := h.d1; omega, by have := h.n0; omega, by have := h.n1; omega, h.cop⟩
end Go.Vs.G

namespace Go.Vs
theorem wp_seq {α β : Type} {A : Option β} {k : β → Option α} {P : β → Prop} {Q : α → Prop} (h : wp A P) (hk : ∀ x, P x → wp (k x) Q) : wp (A.bind k) Q := by
  obtain ⟨x, rfl, hx⟩ := h; exact hk x hx
end Go.Vs
namespace Go.Vs.G
open Go Go.Vs

section
variable {α : Type} {Q : α → Prop} {B : Int} {s : GL00Src}
theorem wp_pick {n : Int} {k : Int × GL00Src → Option α} (h : SrcOk B s) (hB : B ≤ 4611686018427387000) (hk : ∀ v s', 0 ≤ v → (v = 0 ∨ v < n) → SrcOk (B + 2) s' → wp (k (v, s')) Q) : wp ((spec_l00Src_pick s n).bind k) Q := by
  obtain ⟨v, s', e, h0, h1, h2⟩ := pick_ok h hB n
  rw [e]; exact hk v s' h0 h1 h2
theorem wp_from {code : List Int} {k : GL00Src → Option α} (h : okL (okI .u8) code) (hl : code.length ≤ 1000000) (hk : ∀ s, SrcOk 0 s → wp (k s) Q) : wp ((spec_l00From code).bind k) Q := hk _ (srcOk_from h hl)
theorem wp_app {β : Type} {l m : List β} {k : List β → Option α} (h : l.length + m.length ≤ 4294967296) (hk : wp (k (l ++ m)) Q) : wp ((app? l m).bind k) Q := by
  rw [app_ok h]; exact hk
end
end Go.Vs.G

namespace Go.Vs.G
open Go Go.Vs

theorem withinB (n a b : Int) : impl_within n a b = some (decide (a ≤ n ∧ n ≤ b)) := by unfold impl_within; split <;> simp <;> omega
/-- a brightness -/
def brt (f : GFraction) : Prop := (0 ≤ f.Num ∧ f.Num ≤ 100000) ∧ f.Den ≤ 100000
instance (f : GFraction) : Decidable (brt f) := by unfold brt; infer_instance
instance (f : GFraction) : Decidable f.valid := by unfold GFraction.valid; infer_instance
/- light behind losses -/
/- the farthest -/
/- draws -/
section
variable {code : List Int} (hc : okL (okI .u8) code) (hl : code.length ≤ 1000000)
include hc hl
end

end Go.Vs.G

namespace Go.Vs
open Go

theorem mem_sl' {c : Nat → Bool} {v : Int} : ∀ {k : Nat}, v ∈ sl c k → ∃ j : Nat, v = (j : Int) ∧ j < k ∧ c j = true
  | 0, h => by simp [sl] at h
  | k + 1, h => by
    rw [sl] at h
    split at h
    · rename_i hc
      simp only [List.mem_append, List.mem_singleton] at h
      rcases h with h | h
      · obtain ⟨j, h1, h2, h3⟩ := mem_sl' h; exact ⟨j, h1, by omega, h3⟩
      · exact ⟨k, h, by omega, hc⟩
    · obtain ⟨j, h1, h2, h3⟩ := mem_sl' h; exact ⟨j, h1, by omega, h3⟩
end Go.Vs

namespace Go.Vs
open Go

/-- numbers that rise -/
def Rise (l : List Int) : Prop := l.Pairwise (· < ·)
theorem rise_eq : ∀ {a b : List Int}, Rise a → Rise b → (∀ x, x ∈ a ↔ x ∈ b) → a = b
  | [], [], _, _, _ => rfl
  | [], y :: b, _, _, h => by have := (h y).2 (by simp); simp at this
  | x :: a, [], _, _, h => by have := (h x).1 (by simp); simp at this
  | x :: a, y :: b, ha, hb, h => by
    unfold Rise at ha hb
    rw [List.pairwise_cons] at ha hb
    have hxy : x = y := by
      have h1 := (h x).1 (by simp)
      have h2 := (h y).2 (by simp)
      simp only [List.mem_cons] at h1 h2
      rcases h1 with h1 | h1
      · exact h1
      · rcases h2 with h2 | h2
        · exact h2.symm
        · have := hb.1 x h1; have := ha.1 y h2; omega
    subst hxy
    rw [rise_eq ha.2 hb.2 fun z => ?_]
    constructor
    · intro hz
      have h1 := (h z).1 (by simp [hz])
      have := ha.1 z hz
      simp only [List.mem_cons] at h1
      rcases h1 with h1 | h1
      · omega
      · exact h1
    · intro hz
      have h1 := (h z).2 (by simp [hz])
      have := hb.1 z hz
      simp only [List.mem_cons] at h1
      rcases h1 with h1 | h1
      · omega
      · exact h1
theorem mem_sl {c : Nat → Bool} {v : Int} : ∀ {k : Nat}, v ∈ sl c k ↔ ∃ j : Nat, v = (j : Int) ∧ j < k ∧ c j = true := by
  intro k
  refine ⟨mem_sl', ?_⟩
  rintro ⟨j, rfl, hj, hc⟩
  induction k with
  | zero => omega
  | succ k ih =>
    rw [sl]
    rcases Nat.lt_or_ge j k with h | h
    · split <;> simp [ih h]
    · obtain rfl : j = k := by omega
      rw [if_pos hc]; simp
theorem rise_sl (c : Nat → Bool) : ∀ k, Rise (sl c k)
  | 0 => by simp [Rise, sl]
  | k + 1 => by
    have ih := rise_sl c k
    rw [sl]
    split
    · unfold Rise at ih ⊢
      rw [List.pairwise_append]
      refine ⟨ih, by simp, fun x hx y hy => ?_⟩
      obtain ⟨j, rfl, hj, _⟩ := mem_sl'  hx
      simp only [List.mem_singleton] at hy
      omega
    · exact ih
theorem rise_mono {l : List Int} : ∀ {n : Nat}, (∀ i (h : i < l.length), (∀ h2 : 0 < i, l[i - 1] < l[i])) → ∀ (i j : Nat) (hij : i < j) (hj : j < l.length), l[i] < l[j] := by
  intro _ h i j hij hj
  induction j with
  | zero => omega
  | succ j ih =>
    have h1 := h (j + 1) hj (by omega)
    simp only [Nat.add_sub_cancel] at h1
    rcases Nat.lt_or_ge i j with h2 | h2
    · have := ih h2 (by omega); omega
    · obtain rfl : i = j := by omega
      exact h1
theorem rise_of {l : List Int} (h : ∀ i (h : i < l.length), (∀ h2 : 0 < i, l[i - 1] < l[i])) : Rise l := by
  unfold Rise
  rw [List.pairwise_iff_getElem]
  intro i j hi hj hij
  exact rise_mono (n := 0) h i j hij hj
/-- numbers as bits -/
def bitsN : List Int → Nat
  | [] => 0
  | v :: l => 2 ^ v.toNat ||| bitsN l
def small20 (l : List Int) : Prop := ∀ v, v ∈ l → 0 ≤ v ∧ v < 20
theorem bitsN_test : ∀ {l : List Int}, (∀ v, v ∈ l → 0 ≤ v) → ∀ i, (bitsN l).testBit i = decide ((i : Int) ∈ l)
  | [], _, i => by simp [bitsN]
  | v :: l, h, i => by
    have h0 := h v (by simp)
    rw [bitsN, Nat.testBit_or, bitsN_test (fun x hx => h x (by simp [hx])), Nat.testBit_two_pow]
    by_cases h1 : v.toNat = i
    · have : (i : Int) = v := by omega
      simp [h1, this]
    · have : ¬ ((i : Int) = v) := by omega
      simp [h1, this]
/-- the set of a rising list -/
theorem sl_bits {l : List Int} {n : Nat} (hr : Rise l) (hl : ∀ v, v ∈ l → 0 ≤ v ∧ v < n) : sl (bitsN l).testBit n = l := by
  refine rise_eq (rise_sl _ _) hr fun x => ?_
  rw [mem_sl]
  constructor
  · rintro ⟨j, rfl, hj, hb⟩
    rw [bitsN_test (fun v hv => (hl v hv).1)] at hb
    exact of_decide_eq_true hb
  · intro hx
    have := hl x hx
    refine ⟨x.toNat, by omega, by omega, ?_⟩
    rw [bitsN_test (fun v hv => (hl v hv).1), show ((x.toNat : Nat) : Int) = x by omega]
    exact decide_eq_true hx
end Go.Vs

namespace Go.Vs.G
open Go Go.Vs

def GLamp.good (x : GLamp) : Prop := 1 ≤ x.Heats ∧ x.Heats ≤ 20 ∧ 1 ≤ x.Cools ∧ x.Cools ≤ 20 ∧ 1 ≤ x.Limit ∧ x.Limit ≤ 100
theorem within_eq (n a b : Int) : impl_within n a b = some (decide (a ≤ n ∧ n ≤ b)) := by
  unfold impl_within; split <;> simp <;> omega
theorem ValidLamp_eq (x : GLamp) : ∃ b, impl_ValidLamp x = some b ∧ (b = true ↔ x.good) := by
  unfold impl_ValidLamp
  simp only [within_eq, Option.bind_some, decide_eq_true_eq, GLamp.good]
  split
  · split
    · exact ⟨_, rfl, by simp; omega⟩
    · exact ⟨_, rfl, by simp; omega⟩
  · exact ⟨_, rfl, by simp; omega⟩
end Go.Vs.G

namespace Go.Vs
open Go
/-- trimmed to nothing -/
theorem dropWhile_nil {p : UInt8 → Bool} : ∀ {l : List UInt8}, l.dropWhile p = [] ↔ ∀ x, x ∈ l → p x = true
  | [] => by simp
  | a :: l => by
    rw [List.dropWhile_cons]
    by_cases h : p a = true
    · rw [if_pos h, dropWhile_nil]; simp [h]
    · rw [if_neg h]; simp [h]
theorem trim_nil {l cs : List UInt8} : Lib.trimS l cs = [] ↔ ∀ x, x ∈ l → cs.contains x = true := by
  unfold Lib.trimS Lib.trimLeftS Lib.trimRightS
  rw [dropWhile_nil]
  constructor
  · intro h
    have h2 : l.reverse.dropWhile (cs.contains ·) = [] := by
      refine Classical.byContradiction fun hn => ?_
      obtain ⟨a, t, ht⟩ := List.exists_cons_of_ne_nil hn
      have h3 := h a (by rw [ht]; simp)
      have h4 := List.head_dropWhile_not (cs.contains ·) (l := l.reverse) hn
      simp only [ht, List.head_cons] at h4
      rw [h3] at h4; cases h4
    rw [dropWhile_nil] at h2
    exact fun x hx => h2 x (by simpa using hx)
  · intro h x hx
    refine h x ?_
    rw [List.mem_reverse] at hx
    exact List.mem_reverse.1 ((List.dropWhile_sublist _).subset hx)
end Go.Vs
namespace Go.Vs.G
open Go Go.Vs
/-- a burning -/
def brn (s : List UInt8) : Prop := s.length ≤ 60 ∧ ∀ c, c ∈ s → c = 48 ∨ c = 49
instance (s : List UInt8) : Decidable (brn s) := inferInstanceAs (Decidable (_ ∧ _))
theorem u8_eq (c : UInt8) (n : Nat) (hn : n < 256) : ((c.toNat : Int) = (n : Int)) ↔ c = UInt8.ofNat n := by
  constructor
  · intro h
    have h2 : c.toNat = n := by omega
    rw [← h2, UInt8.ofNat_toNat]
  · rintro rfl
    simp [UInt8.toNat_ofNat']
    omega
theorem u48 (c : UInt8) : ((c.toNat : Int) = 48) ↔ c = 48 := u8_eq c 48 (by decide)
theorem u49 (c : UInt8) : ((c.toNat : Int) = 49) ↔ c = 49 := u8_eq c 49 (by decide)
end Go.Vs.G

namespace Go.Vs
open Go
section
variable {α : Type}
theorem last_at {M : List α} {x : α} (h : M.length ≤ 4294967296) : at? (M ++ [x]) (w64 (((M ++ [x]).length : Int) - 1)) = some x := by
  rw [List.length_append, List.length_singleton, w64_id (by omega) (by omega), show ((M.length + 1 : Nat) : Int) - 1 = (M.length : Int) by omega, at_of (by simp)]
  simp
theorem last_set {M : List α} {x y : α} (h : M.length ≤ 4294967296) : (M ++ [x]).set ((w64 (((M ++ [x]).length : Int) - 1)).toNat) y = M ++ [y] := by
  rw [List.length_append, List.length_singleton, w64_id (by omega) (by omega), show (((M.length + 1 : Nat) : Int) - 1).toNat = M.length by omega]
  rw [List.set_append_right _ _ (Nat.le_refl _)]
  simp
end
end Go.Vs
namespace Go.Vs.G
open Go Go.Vs
/-- the tick before burns, too -/
def pc (c : Nat → Bool) (k : Nat) : Bool := decide (0 < k) && c (k - 1)
def incH : List (Nat × Nat) → List (Nat × Nat)
  | p :: L => (p.1, p.2 + 1) :: L
  | [] => []
/-- the burns among the first k ticks, the last one first -/
def rb (c : Nat → Bool) : Nat → List (Nat × Nat)
  | 0 => []
  | k + 1 => if c k = true then (if pc c k = true then incH (rb c k) else (k, 1) :: rb c k) else rb c k
theorem rb_head {c : Nat → Bool} : ∀ {k : Nat}, c k = true → ∃ p L, rb c (k + 1) = p :: L ∧ p.1 + p.2 = k + 1
  | 0, h => ⟨(0, 1), [], by rw [rb, if_pos h]; rfl, rfl⟩
  | k + 1, h => by
    rw [rb, if_pos h]
    by_cases hp : pc c (k + 1) = true
    · rw [if_pos hp]
      have hk : c k = true := by unfold pc at hp; simpa using hp
      obtain ⟨p, L, h1, h2⟩ := rb_head hk
      rw [h1]
      exact ⟨_, L, rfl, by simp only; omega⟩
    · rw [if_neg hp]; exact ⟨_, _, rfl, rfl⟩
theorem rb_pc {c : Nat → Bool} {k : Nat} (h : pc c k = true) : ∃ p L, rb c k = p :: L ∧ p.1 + p.2 = k := by
  unfold pc at h
  rw [Bool.and_eq_true, decide_eq_true_eq] at h
  obtain ⟨j, rfl⟩ : ∃ j, k = j + 1 := ⟨k - 1, by omega⟩
  exact rb_head (by simpa using h.2)
theorem rb_len (c : Nat → Bool) : ∀ k, (rb c k).length ≤ k
  | 0 => by simp [rb]
  | k + 1 => by
    have ih := rb_len c k
    rw [rb]
    split
    · split
      · cases h : rb c k with
        | nil => simp [incH]
        | cons p L => rw [h] at ih; simp [incH] at ih ⊢; omega
      · simp; omega
    · omega
theorem rb_in {c : Nat → Bool} : ∀ {k : Nat} {p : Nat × Nat}, p ∈ rb c k → 1 ≤ p.2 ∧ p.1 + p.2 ≤ k
  | k + 1, p, h => by
    rw [rb] at h
    split at h
    · split at h
      · rename_i hp
        obtain ⟨q, L, h1, h2⟩ := rb_pc hp
        rw [h1, incH, List.mem_cons] at h
        rcases h with rfl | h
        · exact ⟨by simp only; omega, by simp only; omega⟩
        · have := rb_in (c := c) (k := k) (p := p) (by rw [h1]; exact List.mem_cons_of_mem _ h)
          omega
      · rw [List.mem_cons] at h
        rcases h with rfl | h
        · exact ⟨by simp, by simp⟩
        · have := rb_in h; omega
    · have := rb_in h; omega
/-- one behind the other, with a gap -/
theorem rb_gap {c : Nat → Bool} : ∀ {k : Nat}, (rb c k).Pairwise fun p q => q.1 + q.2 < p.1
  | 0 => by simp [rb]
  | k + 1 => by
    have ih := rb_gap (c := c) (k := k)
    rw [rb]
    split
    · split
      · rename_i hp
        obtain ⟨q, L, h1, h2⟩ := rb_pc hp
        rw [h1] at ih ⊢
        rw [List.pairwise_cons] at ih
        rw [incH, List.pairwise_cons]
        exact ih
      · rename_i hck hp
        rw [List.pairwise_cons]
        refine ⟨fun q hq => ?_, ih⟩
        have h1 := rb_in hq
        simp only
        rcases Nat.lt_or_ge (q.1 + q.2) k with h2 | h2
        · exact h2
        · -- the tick before would burn
          exfalso
          have h3 : q.1 + q.2 = k := by omega
          have : ∀ {k : Nat} {q : Nat × Nat}, q ∈ rb c k → q.1 + q.2 = k → pc c k = true := by
            intro k
            induction k with
            | zero => intro q hq; simp [rb] at hq
            | succ k ih2 =>
              intro q hq he
              rw [rb] at hq
              by_cases hc : c k = true
              · simp [pc, hc]
              · rw [if_neg hc] at hq
                have := rb_in hq
                omega
          exact hp (this hq h3)
    · exact ih
theorem rb_cov {c : Nat → Bool} : ∀ {k j : Nat}, j < k → (c j = true ↔ ∃ p, p ∈ rb c k ∧ p.1 ≤ j ∧ j < p.1 + p.2)
  | k + 1, j, h => by
    rw [rb]
    by_cases hck : c k = true
    · rw [if_pos hck]
      by_cases hp : pc c k = true
      · rw [if_pos hp]
        obtain ⟨q, L, h1, h2⟩ := rb_pc hp
        have hq := rb_in (c := c) (k := k) (p := q) (by rw [h1]; simp)
        rw [h1, incH]
        rcases Nat.lt_or_ge j k with h3 | h3
        · rw [rb_cov h3, h1]
          constructor
          · rintro ⟨p, hp1, hp2, hp3⟩
            rcases List.mem_cons.1 hp1 with rfl | hp1
            · exact ⟨_, List.mem_cons_self .., by simp only; omega, by simp only; omega⟩
            · exact ⟨p, List.mem_cons_of_mem _ hp1, hp2, hp3⟩
          · rintro ⟨p, hp1, hp2, hp3⟩
            rcases List.mem_cons.1 hp1 with rfl | hp1
            · simp only at hp2 hp3
              exact ⟨q, by simp, hp2, by omega⟩
            · exact ⟨p, List.mem_cons_of_mem _ hp1, hp2, hp3⟩
        · obtain rfl : j = k := by omega
          simp only [hck, true_iff]
          exact ⟨_, List.mem_cons_self .., by simp only; omega, by simp only; omega⟩
      · rw [if_neg hp]
        rcases Nat.lt_or_ge j k with h3 | h3
        · rw [rb_cov h3]
          constructor
          · rintro ⟨p, hp1, hp2⟩; exact ⟨p, List.mem_cons_of_mem _ hp1, hp2⟩
          · rintro ⟨p, hp1, hp2, hp3⟩
            rcases List.mem_cons.1 hp1 with rfl | hp1
            · simp only at hp2; omega
            · exact ⟨p, hp1, hp2, hp3⟩
        · obtain rfl : j = k := by omega
          simp only [hck, true_iff]
          exact ⟨_, List.mem_cons_self .., Nat.le_refl _, by simp⟩
    · rw [if_neg hck]
      rcases Nat.lt_or_ge j k with h3 | h3
      · exact rb_cov h3
      · obtain rfl : j = k := by omega
        refine ⟨fun h => absurd h hck, ?_⟩
        rintro ⟨p, hp1, hp2, hp3⟩
        have := rb_in hp1
        omega
/-- ticks that burn -/
def ones (c : Nat → Bool) : Nat → Nat
  | 0 => 0
  | k + 1 => ones c k + if c k = true then 1 else 0
theorem ones_le (c : Nat → Bool) : ∀ k, ones c k ≤ k
  | 0 => by simp [ones]
  | k + 1 => by have := ones_le c k; rw [ones]; split <;> omega
def row (p : Nat × Nat) : List Int := [(p.1 : Int), (p.2 : Int)]
def rows (L : List (Nat × Nat)) : List (List Int) := L.reverse.map row
theorem rows_cons (p : Nat × Nat) (L : List (Nat × Nat)) : rows (p :: L) = rows L ++ [row p] := by simp [rows]
theorem rows_len (L : List (Nat × Nat)) : (rows L).length = L.length := by simp [rows]
/-- burning at tick i -/
def bat (s : List UInt8) (i : Nat) : Bool := decide (s.getD i 0 = 49)
theorem bat_get {s : List UInt8} {i : Nat} (h : i < s.length) : bat s i = decide (s[i] = 49) := by unfold bat; rw [List.getD_eq_getElem?_getD, List.getElem?_eq_getElem h]; rfl
theorem burnsOf_eq {s : List UInt8} (hs : brn s) : impl_burnsOf s = some (rows (rb (bat s) s.length)) := by
  have h60 := hs.1
  unfold impl_burnsOf
  refine eq_of_wp ?_
  refine wp_cnt (fun k => (rows (rb (bat s) k), (k : Int))) s.length rfl (by omega) (fun k hk => ?_) (b := rows (rb (bat s) s.length)) ?_ (wp_some rfl)
  · have hlen := rb_len (bat s) k
    have hch := hs.2 _ (List.getElem_mem hk)
    have hb := bat_get hk
    simp only
    rw [if_pos (by omega), at_of hk, Option.bind_some, w64_id (n := (k : Int) + 1) (by omega) (by omega), rb]
    by_cases hc : s[k] = 49
    · rw [hb, decide_eq_true hc, if_neg (fun h => by rw [(u48 _).1 h] at hc; exact absurd hc (by decide))]
      have hpc : (if (k : Int) > 0 then ((at? s (w64 ((k : Int) - 1))).bind fun c2 => some (decide ((c2.toNat : Int) = 49))) else some false : Option Bool) = some (pc (bat s) k) := by
        unfold pc
        by_cases h0 : 0 < k
        · rw [if_pos (by omega), w64_id (by omega) (by omega), show (k : Int) - 1 = ((k - 1 : Nat) : Int) by omega, at_of (by omega), Option.bind_some, bat_get (by omega), decide_eq_true h0, Bool.true_and]
          exact congrArg some (decide_eq_decide.2 (u49 _))
        · rw [if_neg (by omega), decide_eq_false h0]; rfl
      rw [hpc, Option.bind_some]
      by_cases hp : pc (bat s) k = true
      · obtain ⟨p, L, h1, h2⟩ := rb_pc hp
        have h3 : (rows L).length ≤ 60 := by rw [rows_len]; rw [h1] at hlen; simp at hlen; omega
        rw [if_pos hp, if_pos rfl, if_pos hp, h1, rows_cons, last_at (by omega), Option.bind_some]
        have ha : at? (row p) 1 = some (p.2 : Int) := rfl
        rw [ha, Option.bind_some, Option.bind_some, last_set (by omega), incH, rows_cons, w64_id (n := (p.2 : Int) + 1) (by omega) (by omega)]
        rfl
      · rw [if_neg hp, if_pos rfl, if_neg hp, app_ok (by rw [rows_len]; simp; omega), Option.bind_some, rows_cons]
        rfl
    · rw [hb, decide_eq_false hc, if_pos ((u48 _).2 (hch.resolve_right hc)), if_neg (by simp)]; rfl
  · simp only; rw [if_neg (by omega)]
end Go.Vs.G

namespace Go.Vs.G
open Go Go.Vs
theorem ValidBurning_eq {s : List UInt8} (hs : s.length ≤ 1048576) : impl_ValidBurning s = some (decide (brn s)) := by
  unfold impl_ValidBurning
  by_cases h : s.length ≤ 60
  · rw [if_pos (by omega)]
    unfold strings_Trim
    rw [if_pos ⟨by omega, by decide, by decide⟩, Option.bind_some]
    have hiff : Lib.trimS s [48, 49] = [] ↔ brn s := by
      rw [trim_nil]
      unfold brn
      constructor
      · intro h2
        refine ⟨h, fun c hc => ?_⟩
        have := h2 c hc
        simpa using this
      · intro h2 c hc
        have := h2.2 c hc
        simpa using this
    by_cases hb : brn s
    · rw [hiff.2 hb, decide_eq_true hb]; rfl
    · rw [decide_eq_false hb]
      have : Lib.trimS s [48, 49] ≠ [] := fun h => hb (hiff.1 h)
      simpa using this
  · rw [if_neg (by omega), decide_eq_false (fun h2 => h h2.1)]
end Go.Vs.G

namespace Go.Vs.G
open Go Go.Vs

/-- rising numbers from a to b -/
theorem rises.rise {s : List Int} {a b : Int} (h : rises s a b) : Rise s := rise_of fun i hi => (h i hi).2.2
theorem rises.rng {s : List Int} {a b : Int} (h : rises s a b) {v : Int} (hv : v ∈ s) : a ≤ v ∧ v ≤ b := by
  obtain ⟨i, hi, rfl⟩ := List.getElem_of_mem hv; exact ⟨(h i hi).1, (h i hi).2.1⟩
theorem rises.small {s : List Int} {b : Int} (h : rises s 0 b) (hb : b < 20) : small20 s := fun v hv => by have := h.rng hv; omega
theorem rises.len {s : List Int} {b : Int} (h : rises s 0 b) (hb : b < 20) : s.length ≤ 20 := by
  rw [← sl_bits (n := 20) h.rise (fun v hv => by have := h.small hb v hv; omega)]; exact sl_len _ _
end Go.Vs.G

namespace Go.Vs.G
open Go Go.Vs
open Classical in
noncomputable def burnsR (s : List UInt8) : List (List Int) × Int := if brn s then (rows (rb (bat s) s.length), 0) else ([], 1)
open Classical in
theorem BurnsOf_eq {s : List UInt8} (hs : s.length ≤ 1048576) : impl_BurnsOf s = some (burnsR s) := by
  unfold impl_BurnsOf burnsR
  rw [ValidBurning_eq hs, Option.bind_some]
  by_cases h : brn s
  · rw [decide_eq_true h, if_pos rfl, burnsOf_eq h, if_pos h]; rfl
  · rw [decide_eq_false h, if_neg (by simp), if_neg h]
/-- the burning ticks, counted -/
theorem count_ones {s : List UInt8} : ∀ k, k ≤ s.length → (s.take k).count 49 = ones (bat s) k
  | 0, _ => by simp [ones]
  | k + 1, h => by
    have ih := count_ones (s := s) k (by omega)
    rw [List.take_add_one, List.getElem?_eq_getElem (show k < s.length by omega), List.count_append, ih, ones, bat_get (show k < s.length by omega)]
    congr 1
    by_cases hc : s[k] = 49
    · rw [hc]; rfl
    · rw [if_neg (by simpa using hc)]
      simp [List.count_singleton, hc]
theorem fuelEnd {s : List UInt8} (hs : brn s) {each start : Int} (h1 : 0 ≤ each ∧ each ≤ 1000) (h2 : 0 ≤ start ∧ start ≤ 1000) : ∃ a b : Nat, a ≤ 60 ∧ b ≤ 60 ∧ ones (bat s) s.length = a ∧ (rb (bat s) s.length).length = b ∧ 0 ≤ each * (a : Int) ∧ each * (a : Int) ≤ 60000 ∧ 0 ≤ start * (b : Int) ∧ start * (b : Int) ≤ 60000 := by
  have h3 := ones_le (bat s) s.length
  have h4 := rb_len (bat s) s.length
  have h5 := hs.1
  refine ⟨_, _, by omega, by omega, rfl, rfl, Int.mul_nonneg h1.1 (by omega), ?_, Int.mul_nonneg h2.1 (by omega), ?_⟩
  · exact Int.le_trans (Int.mul_le_mul h1.2 (show ((ones (bat s) s.length : Nat) : Int) ≤ 60 by omega) (by omega) (by omega)) (by omega)
  · exact Int.le_trans (Int.mul_le_mul h2.2 (show (((rb (bat s) s.length).length : Nat) : Int) ≤ 60 by omega) (by omega) (by omega)) (by omega)
open Classical in
noncomputable def fuelR (s : List UInt8) (each start : Int) : Int × Int :=
  if brn s then (if (0 ≤ each ∧ each ≤ 1000) ∧ (0 ≤ start ∧ start ≤ 1000) then (each * (ones (bat s) s.length : Nat) + start * ((rb (bat s) s.length).length : Nat), 0) else (0, 2)) else (0, 1)
open Classical in
theorem FuelFor_eq {s : List UInt8} {each start : Int} (hs : s.length ≤ 1048576) : impl_FuelFor s each start = some (fuelR s each start) := by
  unfold impl_FuelFor fuelR
  rw [ValidBurning_eq hs, Option.bind_some]
  by_cases h : brn s
  · rw [decide_eq_true h, if_pos rfl, if_pos h, withinB, withinB, Option.bind_some]
    by_cases h1 : 0 ≤ each ∧ each ≤ 1000
    · rw [decide_eq_true h1, if_pos rfl, Option.bind_some]
      by_cases h2 : 0 ≤ start ∧ start ≤ 1000
      · obtain ⟨a, b, ha, hb, ea, eb, g1, g2, g3, g4⟩ := fuelEnd h h1 h2
        have hc : Lib.countByte s 49 = a := by
          unfold Lib.countByte
          have := count_ones (s := s) s.length (Nat.le_refl _)
          rw [List.take_length] at this
          omega
        rw [decide_eq_true h2]
        simp only [Bool.not_true, Bool.false_eq_true, if_false, Option.bind_some]
        rw [if_pos ⟨h1, h2⟩, ea, eb]
        show (strings_Count s [49]).bind _ = _
        unfold strings_Count
        simp only [Option.bind_some]
        rw [burnsOf_eq h, Option.bind_some, rows_len, hc, eb, w64_id (n := each * (a : Int)) (by omega) (by omega), w64_id (n := start * (b : Int)) (by omega) (by omega), w64_id (by omega) (by omega)]
      · rw [decide_eq_false h2, if_neg (fun h => h2 h.2)]; rfl
    · simp only [h1, decide_false, false_and, if_false, Bool.false_eq_true, Option.bind_some, if_true]
  · rw [decide_eq_false h, if_neg (by simp), if_neg h]
end Go.Vs.G

namespace Go.Vs.G
open Go Go.Vs
theorem A2Lamp_ok {code : List Int} (hc : okL (okI .u8) code) (hl : code.length ≤ 1000000) : wp (spec_A2Lamp code) GLamp.good := by
  unfold spec_A2Lamp
  refine wp_from hc hl fun s hs => wp_seq (P := fun r => r.1.good) ?_ fun r hr => wp_some hr
  unfold spec_l21Draw
  refine wp_pick hs (by omega) fun a s1 a0 a1 h1 => wp_pick h1 (by omega) fun b s2 b0 b1 h2 => wp_pick h2 (by omega) fun c s3 c0 c1 h3 => wp_some ?_
  simp only [GLamp.good]
  rw [w64_id (n := 1 + a) (by omega) (by omega), w64_id (n := 1 + b) (by omega) (by omega), w64_id (n := 1 + c) (by omega) (by omega)]
  omega
theorem b2s_mem {l : List Int} (h : ∀ n, n ∈ l → n = 48 ∨ n = 49) : ∀ c, c ∈ b2s l → c = 48 ∨ c = 49 := fun c hc => by
  unfold b2s at hc
  obtain ⟨n, hn, rfl⟩ := List.mem_map.1 hc
  rcases h n hn with rfl | rfl
  · exact .inl rfl
  · exact .inr rfl
theorem A2Burning_ok {code : List Int} (hc : okL (okI .u8) code) (hl : code.length ≤ 1000000) {t : Int} (h0 : 0 ≤ t) (h1 : t ≤ 60) : wp (spec_A2Burning code t) (fun s => (s.length : Int) = t ∧ brn s) := by
  unfold spec_A2Burning
  refine wp_from hc hl fun s hs => ?_
  refine wp_loop (fun q : GL00Src × List Int × Int => SrcOk (2 * (t - q.2.2)) q.1 ∧ 0 ≤ q.2.2 ∧ q.2.2 ≤ t ∧ (q.2.1.length : Int) = t - q.2.2 ∧ ∀ n, n ∈ q.2.1 → n = 48 ∨ n = 49) (fun q => q.2.2.toNat) ⟨hs.mono (by simp only; omega), h0, by simp only; omega, by simp, by simp⟩ (by simp only; omega) ?_
  rintro ⟨s, out, k⟩ ⟨h2, h3, h4, h5, h6⟩
  simp only at h2 h3 h4 h5 h6 ⊢
  refine wp_ite (fun h => ?_) (fun h => ?_)
  · refine wp_pick h2 (by omega) fun v s' v0 v1 h7 => ?_
    have hv : v.toNat < ([48, 49, 49, 48] : List UInt8).length := by simp; omega
    simp only
    rw [at_ok v0 hv, Option.bind_some]
    have hm : ∀ c, c ∈ ([48, 49, 49, 48] : List UInt8) → (c.toNat : Int) = 48 ∨ (c.toNat : Int) = 49 := by decide
    have hcv := hm _ (List.getElem_mem hv)
    generalize ([48, 49, 49, 48] : List UInt8)[v.toNat] = c at hcv
    refine wp_app (by simp; omega) ?_
    rw [w64_id (by omega) (by omega)]
    refine wp_some ⟨⟨h7.mono (by simp only; omega), by simp only; omega, by simp only; omega, by simp; omega, fun n hn => ?_⟩, by simp only; omega⟩
    simp only [List.mem_append, List.mem_singleton] at hn
    rcases hn with hn | rfl
    · exact h6 n hn
    · exact hcv
  · have hlen : (b2s out).length = out.length := by simp [b2s]
    exact wp_some (wp_some ⟨by rw [hlen]; omega, by rw [hlen]; omega, b2s_mem h6⟩)
theorem a2Ones_eq {s : List UInt8} (hs : s.length ≤ 1048576) : laws_a2Ones s = some ((ones (bat s) s.length : Nat) : Int) := by
  unfold laws_a2Ones
  refine eq_of_wp ?_
  refine wp_cnt (fun k => (((ones (bat s) k : Nat) : Int), (k : Int))) s.length (by simp [ones]) (by omega) (fun k hk => ?_) (b := ((ones (bat s) s.length : Nat) : Int)) ?_ (wp_some rfl)
  · have := ones_le (bat s) k
    simp only
    rw [if_pos (by omega), at_of hk, Option.bind_some, w64_id (n := (k : Int) + 1) (by omega) (by omega), w64_id (by omega) (by omega), ones, bat_get hk]
    by_cases hc : s[k] = 49
    · rw [if_pos ((u49 _).2 hc), if_pos (decide_eq_true hc)]; rfl
    · rw [if_neg (fun h => hc ((u49 _).1 h)), if_neg (by simpa using hc)]; rfl
  · simp only; rw [if_neg (by omega)]
end Go.Vs.G

namespace Go.Vs.G
open Go Go.Vs
theorem ValidLamp_true {x : GLamp} (h : x.good) : impl_ValidLamp x = some true := by
  obtain ⟨b, h1, h2⟩ := ValidLamp_eq x
  rw [h1, h2.2 h]
theorem tdiv_pos {a b : Int} (h : 0 ≤ a) : a.tdiv b = a / b := Int.tdiv_eq_ediv_of_nonneg h
theorem long_ok {x : GLamp} (h : x.good) : ∃ q, impl_LongestBurn x = some (q, 0) ∧ q = x.Limit / x.Heats ∧ 0 ≤ q ∧ q ≤ 100 ∧ q * x.Heats ≤ x.Limit ∧ x.Limit < (q + 1) * x.Heats := by
  have hv := ValidLamp_true h
  obtain ⟨g1, g2, g3, g4, g5, g6⟩ := h
  have h0 : 0 ≤ x.Limit / x.Heats := Int.ediv_nonneg (by omega) (by omega)
  have h1 : x.Limit / x.Heats ≤ x.Limit := Int.ediv_le_self _ (by omega)
  have h2 : x.Limit / x.Heats * x.Heats ≤ x.Limit := Int.ediv_mul_le _ (by omega)
  have h3 : x.Limit < (x.Limit / x.Heats + 1) * x.Heats := Int.lt_ediv_add_one_mul_self _ (by omega)
  refine ⟨_, ?_, rfl, h0, by omega, h2, h3⟩
  unfold impl_LongestBurn
  rw [hv, Option.bind_some, if_pos rfl, div_ok (by omega), Option.bind_some, tdiv_pos (by omega)]
  rw [show IntKind.wrap .i64 (x.Limit / x.Heats) = x.Limit / x.Heats from w64_id (by omega) (by omega)]
theorem rest_ok {x : GLamp} (h : x.good) {b : Int} (h0 : 0 ≤ b) (h1 : b ≤ 100) (hq : b ≤ x.Limit / x.Heats) : ∃ r, impl_RestAfter x b = some (r, 0) ∧ 0 ≤ r ∧ r ≤ 3000 ∧ b * x.Heats ≤ r * x.Cools ∧ (0 < r → (r - 1) * x.Cools < b * x.Heats) ∧ 0 ≤ b * x.Heats ∧ b * x.Heats ≤ 2000 := by
  have hv := ValidLamp_true h
  obtain ⟨g1, g2, g3, g4, g5, g6⟩ := h
  have hh : x.Limit / x.Heats ≤ x.Limit := Int.ediv_le_self _ (by omega)
  have hh0 : 0 ≤ x.Limit / x.Heats := Int.ediv_nonneg (by omega) (by omega)
  have hm0 : 0 ≤ b * x.Heats := Int.mul_nonneg h0 (by omega)
  have hm1 : b * x.Heats ≤ 100 * 20 := Int.mul_le_mul h1 g2 (by omega) (by omega)
  have hd0 : 0 ≤ (b * x.Heats + x.Cools - 1) / x.Cools := Int.ediv_nonneg (by omega) (by omega)
  have hd1 : (b * x.Heats + x.Cools - 1) / x.Cools ≤ b * x.Heats + x.Cools - 1 := Int.ediv_le_self _ (by omega)
  have hd2 : (b * x.Heats + x.Cools - 1) / x.Cools * x.Cools ≤ b * x.Heats + x.Cools - 1 := Int.ediv_mul_le _ (by omega)
  have hd3 : b * x.Heats + x.Cools - 1 < ((b * x.Heats + x.Cools - 1) / x.Cools + 1) * x.Cools := Int.lt_ediv_add_one_mul_self _ (by omega)
  rw [Int.add_mul, Int.one_mul] at hd3
  refine ⟨_, ?_, hd0, by omega, by omega, fun h => ?_, hm0, by omega⟩
  · unfold impl_RestAfter
    rw [hv, Option.bind_some, if_pos rfl, withinB, Option.bind_some, decide_eq_true ⟨h0, h1⟩, if_pos rfl, div_ok (by omega), Option.bind_some, tdiv_pos (by omega), show IntKind.wrap .i64 (x.Limit / x.Heats) = x.Limit / x.Heats from w64_id (by omega) (by omega), if_neg (by omega)]
    rw [w64_id (n := b * x.Heats) (by omega) (by omega), w64_id (n := b * x.Heats + x.Cools) (by omega) (by omega), w64_id (n := b * x.Heats + x.Cools - 1) (by omega) (by omega), div_ok (by omega), Option.bind_some, tdiv_pos (by omega)]
    rw [show IntKind.wrap .i64 ((b * x.Heats + x.Cools - 1) / x.Cools) = (b * x.Heats + x.Cools - 1) / x.Cools from w64_id (by omega) (by omega)]
  · rw [Int.sub_mul, Int.one_mul]; omega
theorem rest_far {x : GLamp} (h : x.good) {b : Int} (h0 : 0 ≤ b) (h1 : b ≤ 101) (hq : x.Limit / x.Heats < b) : ∃ r e, impl_RestAfter x b = some (r, e) ∧ (b ≤ 100 → e = 6) := by
  have hv := ValidLamp_true h
  obtain ⟨g1, g2, g3, g4, g5, g6⟩ := h
  have hh : x.Limit / x.Heats ≤ x.Limit := Int.ediv_le_self _ (by omega)
  have hh0 : 0 ≤ x.Limit / x.Heats := Int.ediv_nonneg (by omega) (by omega)
  unfold impl_RestAfter
  rw [hv, Option.bind_some, if_pos rfl, withinB, Option.bind_some]
  by_cases h2 : b ≤ 100
  · rw [decide_eq_true ⟨h0, h2⟩, if_pos rfl, div_ok (by omega), Option.bind_some, tdiv_pos (by omega), show IntKind.wrap .i64 (x.Limit / x.Heats) = x.Limit / x.Heats from w64_id (by omega) (by omega), if_pos (by omega)]
    exact ⟨_, _, rfl, fun _ => rfl⟩
  · rw [decide_eq_false (fun h => h2 h.2), if_neg (by simp)]
    exact ⟨_, _, rfl, fun h => absurd h h2⟩
/-- a list of 48 -/
theorem fill48 {n : Nat} (hn : n ≤ 60) {α : Type} {kb : List Int → Option α} {kr : Empty → Option α} : onL (loop (S := ((List Int) × Int)) (B := (List Int)) (R := Empty) (fun ((marks1, i1) : (List Int) × Int) => if i1 < (marks1.length : Int) then ((at? marks1 i1).bind fun v1 => some (.next (marks1.set i1.toNat 48, w64 (i1 + 1)))) else some (.brk marks1)) loopLim (List.replicate n 0, 0)) kb kr = kb (tab (fun _ => (48 : Int)) n) := by
  have := loop_brk (body := (fun ((marks1, i1) : (List Int) × Int) => if i1 < (marks1.length : Int) then ((at? marks1 i1).bind fun v1 => some (Step.next (S := (List Int) × Int) (B := List Int) (R := Empty) (marks1.set i1.toNat 48, w64 (i1 + 1)))) else some (Step.brk marks1))) (fun k => (tab (fun j => if j < k then (48 : Int) else 0) n, (k : Int))) (b := tab (fun _ => (48 : Int)) n) n (by omega) (fun k hk => by
    simp only [tab_length]
    rw [if_pos (by omega), tab_at (by omega) (by omega), Option.bind_some, Int.toNat_natCast, tab_set, w64_id (by omega) (by omega)]
    refine congrArg some (congrArg Step.next (Prod.ext ?_ rfl))
    refine tab_congr fun j hj => ?_
    by_cases h1 : j = k
    · rw [if_pos h1, if_pos (by omega)]
    · rw [if_neg h1]
      by_cases h2 : j < k
      · rw [if_pos h2, if_pos (by omega)]
      · rw [if_neg h2, if_neg (by omega)]) (by
    simp only [tab_length]
    rw [if_neg (by omega)]
    refine congrArg some (congrArg Step.brk ?_)
    exact tab_congr fun j hj => by rw [if_pos hj])
  have h0 : (tab (fun j => if j < 0 then (48 : Int) else 0) n, ((0 : Nat) : Int)) = (List.replicate n (0 : Int), 0) := by
    rw [tab_replicate]; exact Prod.ext (tab_congr fun j hj => by simp) rfl
  rw [h0] at this
  exact congrArg (fun o => onL o kb kr) this
/-- covered by one of the burns -/
def cov (R : List (Nat × Nat)) (j : Nat) : Bool := R.any fun p => decide (p.1 ≤ j ∧ j < p.1 + p.2)
theorem cov_snoc (R : List (Nat × Nat)) (p : Nat × Nat) (j : Nat) : cov (R ++ [p]) j = (cov R j || decide (p.1 ≤ j ∧ j < p.1 + p.2)) := by simp [cov]
/-- marks where ticks burn -/
def mrk (R : List (Nat × Nat)) (n : Nat) : List Int := tab (fun j => if cov R j = true then 49 else 48) n
theorem mrk_s {s : List UInt8} (hb : brn s) : b2s (mrk (rb (bat s) s.length).reverse s.length) = s := by
  have e : s = tab (fun i => s.getD i 0) s.length := eq_tab s 0
  conv => rhs; rw [e]
  unfold mrk b2s
  rw [show (tab (fun j => if cov (rb (bat s) s.length).reverse j = true then (49 : Int) else 48) s.length).map (fun n => UInt8.ofNat n.toNat) = tab (fun j => UInt8.ofNat (if cov (rb (bat s) s.length).reverse j = true then (49 : Int) else 48).toNat) s.length by simp [tab]]
  refine tab_congr fun j hj => ?_
  have hc : cov (rb (bat s) s.length).reverse j = bat s j := by
    rw [Bool.eq_iff_iff, rb_cov (c := bat s) hj]
    unfold cov
    rw [List.any_eq_true]
    constructor
    · rintro ⟨p, hp, h⟩; exact ⟨p, List.mem_reverse.1 hp, of_decide_eq_true h⟩
    · rintro ⟨p, hp, h⟩; exact ⟨p, List.mem_reverse.2 hp, decide_eq_true h⟩
  have hch := hb.2 _ (List.getElem_mem hj)
  have hg : s.getD j 0 = s[j] := by rw [List.getD_eq_getElem?_getD, List.getElem?_eq_getElem hj]; rfl
  rw [hc, bat_get hj, hg]
  by_cases h : s[j] = 49
  · rw [if_pos (decide_eq_true h), h]; rfl
  · rw [if_neg (by simpa using h), hch.resolve_right h]; rfl
def lst (R : List (Nat × Nat)) (k : Nat) : Int := if k = 0 then -1 else (((R.getD (k - 1) (0, 0)).1 + (R.getD (k - 1) (0, 0)).2 : Nat) : Int)
theorem laws_FnLampRests_true {code more : List Int} (hc : okL (okI .u8) code) (hm : okL (okI .u8) more) : laws_FnLampRests code more = some true := by
  unfold laws_FnLampRests
  obtain ⟨r, hr, hr2⟩ := a2Long_eq code more
  rw [hr, Option.bind_some]
  cases r with
  | true => rfl
  | false =>
  obtain ⟨hc2, hm2⟩ := hr2 rfl
  simp only [Bool.false_eq_true, if_false]
  obtain ⟨x, hx, hg⟩ := A2Lamp_ok hc (by omega)
  rw [hx, Option.bind_some]
  obtain ⟨q, hq, hqe, q0, q1, q2, q3⟩ := long_ok hg
  have hg' := hg
  obtain ⟨g1, g2, g3, g4, g5, g6⟩ := hg'
  have q4 : (q + 1) * x.Heats ≤ 101 * 20 := Int.mul_le_mul (by omega) g2 (by omega) (by omega)
  have q5 : 0 ≤ q * x.Heats := Int.mul_nonneg q0 (by omega)
  rw [hq, Option.bind_some]
  simp only [if_true]
  rw [w64_id (n := q + 1) (by omega) (by omega), w64_id (n := q * x.Heats) (by omega) (by omega), w64_id (n := (q + 1) * x.Heats) (by omega) (by omega), if_neg (by omega), if_neg (by omega), if_neg (by omega), decide_eq_false (by omega), Option.bind_some]
  simp only [Bool.false_eq_true, if_false]
  obtain ⟨b, hb, b0, b1⟩ := a2At_ok hm hm2 (i := 0) (n := q + 1) (by omega) (by omega)
  rw [hb, Option.bind_some]
  obtain ⟨rr, hrr, r0, r1, r2, r3, r4, r5⟩ := rest_ok hg (b := b) b0 (by omega) (by omega)
  obtain ⟨fr, fe, hf, hf2⟩ := rest_far hg (b := q + 1) (by omega) (by omega) (by omega)
  have r6 : 0 ≤ rr * x.Cools := Int.mul_nonneg r0 (by omega)
  have r7 : rr * x.Cools ≤ 3000 * 20 := Int.mul_le_mul r1 g4 (by omega) (by omega)
  rw [hrr, Option.bind_some, hf, Option.bind_some]
  have hcond : ((if (0 : Int) = 0 then
 (if rr < 0 then
 (some true)
 else
 if (w64 (rr * x.Cools)) < (w64 (b * x.Heats)) then
 (some true)
 else
 if rr > 0 then
 (if (w64 ((w64 (rr - 1)) * x.Cools)) ≥ (w64 (b * x.Heats)) then
 (some true)
 else
 if q < 100 then
 (some (!(decide (fe = 6))))
 else
 some false)
 else
 if q < 100 then
 (some (!(decide (fe = 6))))
 else
 some false)
 else
 some true) : Option Bool) = some false := by
    rw [if_pos rfl, if_neg (by omega), w64_id (n := rr * x.Cools) (by omega) (by omega), w64_id (n := b * x.Heats) (by omega) (by omega), if_neg (by omega)]
    have hlast : (if q < 100 then (some (!(decide (fe = 6)))) else some false : Option Bool) = some false := by
      by_cases h : q < 100
      · rw [if_pos h, hf2 (by omega)]; rfl
      · rw [if_neg h]
    rw [hlast]
    by_cases h : rr > 0
    · have := r3 h
      have e : (rr - 1) * x.Cools = rr * x.Cools - x.Cools := by rw [Int.sub_mul, Int.one_mul]
      rw [if_pos h, w64_id (n := rr - 1) (by omega) (by omega), w64_id (n := (rr - 1) * x.Cools) (by omega) (by omega), if_neg (by omega)]
    · rw [if_neg h]
  rw [hcond, Option.bind_some]
  simp only [Bool.false_eq_true, if_false]
  obtain ⟨t, ht, t0, t1⟩ := a2At_ok hm hm2 (i := 1) (n := 24) (by omega) (by omega)
  rw [ht, Option.bind_some]
  obtain ⟨s, hs, s1, s2⟩ := A2Burning_ok hm (by omega) t0 (by omega)
  have h60 := s2.1
  rw [hs, Option.bind_some, BurnsOf_eq (by omega), Option.bind_some]
  obtain ⟨u, hu, u0, u1⟩ := a2At_ok hm hm2 (i := 2) (n := 20) (by omega) (by omega)
  obtain ⟨v, hv, v0, v1⟩ := a2At_ok hm hm2 (i := 3) (n := 30) (by omega) (by omega)
  rw [hu, Option.bind_some, hv, Option.bind_some, FuelFor_eq (by omega), Option.bind_some]
  have hbr : burnsR s = (rows (rb (bat s) s.length), 0) := by unfold burnsR; rw [if_pos s2]
  have hfu : fuelR s u v = (u * (ones (bat s) s.length : Nat) + v * ((rb (bat s) s.length).length : Nat), 0) := by
    unfold fuelR; rw [if_pos s2, if_pos ⟨⟨u0, by omega⟩, v0, by omega⟩]
  rw [hbr, hfu]
  simp only [if_true, decide_true, Bool.not_true, Option.bind_some, Bool.false_eq_true, if_false]
  rw [mk_ok (by omega) (by omega), Option.bind_some, Int.toNat_natCast, fill48 (by omega)]
  obtain ⟨a, b', ha, hb', ea, eb, f1, f2, f3, f4⟩ := fuelEnd s2 (each := u) (start := v) ⟨u0, by omega⟩ ⟨v0, by omega⟩
  -- the burns in their order
  have hR : rows (rb (bat s) s.length) = (rb (bat s) s.length).reverse.map row := rfl
  have hrev : (rb (bat s) s.length).length = (rb (bat s) s.length).reverse.length := by simp
  have hms := mrk_s s2
  have hgap : (rb (bat s) s.length).reverse.Pairwise fun p q => p.1 + p.2 < q.1 := List.pairwise_reverse.2 rb_gap
  have hin : ∀ p, p ∈ (rb (bat s) s.length).reverse → 1 ≤ p.2 ∧ p.1 + p.2 ≤ s.length := fun p hp => rb_in (List.mem_reverse.1 hp)
  rw [hR]
  rw [hrev] at eb ⊢
  generalize (rb (bat s) s.length).reverse = R at hms hgap hin eb
  refine eq_of_wp ?_
  refine wp_cnt (fun k => (mrk (R.take k) s.length, lst R k, (k : Int))) R.length (by simp [mrk, cov, lst]) (by omega) (fun k hk => ?_) (b := mrk R s.length) ?_ ?_
  · have hp := hin R[k] (List.getElem_mem hk)
    have hrow : at? (R.map row) (k : Int) = some (row R[k]) := by rw [at_of (by simpa using hk)]; simp
    have e0 : ∀ p : Nat × Nat, at? (row p) 0 = some ((p.1 : Nat) : Int) := fun _ => rfl
    have e1 : ∀ p : Nat × Nat, at? (row p) 1 = some ((p.2 : Nat) : Int) := fun _ => rfl
    have e2 : ∀ p : Nat × Nat, ((row p).length : Int) = 2 := fun _ => rfl
    have hlast : ¬ ((R[k].1 : Nat) : Int) ≤ lst R k := by
      unfold lst
      by_cases h0 : k = 0
      · rw [if_pos h0]; omega
      · rw [if_neg h0, List.getD_eq_getElem?_getD, List.getElem?_eq_getElem (by omega)]
        rw [List.pairwise_iff_getElem] at hgap
        have := hgap (k - 1) k (by omega) hk (by omega)
        simp only [Option.getD_some]; omega
    have hl2 : lst R (k + 1) = ((R[k].1 + R[k].2 : Nat) : Int) := by
      unfold lst
      rw [if_neg (by omega), Nat.add_sub_cancel, List.getD_eq_getElem?_getD, List.getElem?_eq_getElem hk]; rfl
    generalize hpk : R[k] = p at *
    simp only
    rw [if_pos (by simp; omega), hrow]
    simp only [Option.bind_some, e2, e0, e1, if_true]
    rw [if_neg hlast, if_neg (by omega), if_neg (by omega), w64_id (n := (p.1 : Int) + (p.2 : Int)) (by omega) (by omega), decide_eq_false (by omega), Option.bind_some]
    simp only [Bool.false_eq_true, if_false]
    refine eq_of_wp ?_
    refine wp_cnt (fun j => (tab (fun i => if (cov (R.take k) i || decide (p.1 ≤ i ∧ i < p.1 + j)) = true then (49 : Int) else 48) s.length, ((p.1 + j : Nat) : Int))) p.2 ?_ (by omega) (fun j hj => ?_) (b := mrk (R.take (k + 1)) s.length) ?_ ?_
    · refine Prod.ext ?_ rfl
      refine tab_congr fun i _ => ?_
      rw [decide_eq_false (by omega), Bool.or_false]
    · simp only
      rw [if_pos (by omega), tab_at (by omega) (by omega), Option.bind_some, tab_set, w64_id (by omega) (by omega)]
      refine congrArg some (congrArg Step.next (Prod.ext ?_ (by simp only; omega)))
      refine tab_congr fun i hi => ?_
      by_cases h1 : i = ((p.1 + j : Nat) : Int).toNat
      · rw [if_pos h1, decide_eq_true (by omega), Bool.or_true, if_pos rfl]
      · rw [if_neg h1]
        have : (decide (p.1 ≤ i ∧ i < p.1 + j)) = decide (p.1 ≤ i ∧ i < p.1 + (j + 1)) := decide_eq_decide.2 (by omega)
        rw [this]
    · simp only
      rw [if_neg (by omega)]
      refine congrArg some (congrArg Step.brk ?_)
      unfold mrk
      refine tab_congr fun i _ => ?_
      have e : R.take (k + 1) = R.take k ++ [p] := by rw [List.take_add_one, List.getElem?_eq_getElem hk, hpk]; rfl
      rw [e, cov_snoc]
    · rw [w64_id (n := (k : Int) + 1) (by omega) (by omega)]
      refine wp_some ?_
      rw [hl2]
      rfl
  · simp only; rw [if_neg (by simp), List.take_length]
  · rw [hms, if_pos (by simp), a2Ones_eq (by omega), Option.bind_some, List.length_map, ea, eb, w64_id (n := u * (a : Int)) (by omega) (by omega), w64_id (n := v * (b' : Int)) (by omega) (by omega), w64_id (by omega) (by omega)]
    exact wp_some (decide_eq_true rfl)
end Go.Vs.G

