/- Plain facts about the typed functions, up to the law: no program in sight. No conditions. -/
import Derived.Test.YtbbnegmfpkjcbaaV5
import Derived.Test.YtbbnegmfpkjcbaaDLLoadRules
namespace Go.Vs
open Go

section
variable {α β S B R : Type}

theorem w64_succ {i n : Nat} (h : i < n) (hn : n < 9223372036854775807) : w64 ((i : Int) + 1) = (i : Int) + 1 := w64_id (by omega) (by omega)
theorem at_of {l : List α} {i : Nat} (h : i < l.length) : at? l (i : Int) = some l[i] := at_nat h
end
end Go.Vs

namespace Go.Vs.G
open Go Go.Vs

/-- a source that can still be asked; B bounds the place that it has come to -/
structure SrcOk (B : Int) (s : GL00Src) : Prop where
  bytes : ∀ x, x ∈ s.code → 0 ≤ x ∧ x ≤ 255
  len : s.code.length ≤ 1000000
  at0 : 0 ≤ s.at_
  atB : s.at_ ≤ B
theorem SrcOk.mono {B B' : Int} {s : GL00Src} (h : SrcOk B s) (hB : B ≤ B') : SrcOk B' s := ⟨h.bytes, h.len, h.at0, Int.le_trans h.atB hB⟩
theorem srcOk_from {code : List Int} (h : okL (okI .u8) code) (hl : code.length ≤ 1000000) : SrcOk 0 (GL00Src.mk code 0 0) :=
  ⟨fun x hx => okU8 (h.2 x hx), hl, by simp, by simp⟩
theorem shr40 (n : Int) : shr? .u64 n 40 = some (n.fdiv (2 ^ 40)) := by
  simp [shr?, IntKind.bits]
theorem and255 (n : Int) : 0 ≤ bit_and .u64 n 255 ∧ bit_and .u64 n 255 ≤ 255 := by
  unfold bit_and
  rw [wu64_def]
  have h : (BitVec.ofInt IntKind.u64.bits n &&& BitVec.ofInt IntKind.u64.bits 255).toNat ≤ 255 := by
    rw [BitVec.toNat_and]
    exact Nat.le_trans Nat.and_le_right (by decide)
  omega
theorem next_ok {B : Int} {s : GL00Src} (h : SrcOk B s) (hB : B ≤ 4611686018427387904) : ∃ v s', spec_l00Src_next s = some (v, s') ∧ 0 ≤ v ∧ v ≤ 255 ∧ SrcOk (B + 1) s' := by
  have h1 := h.at0
  have h2 := h.atB
  have h3 := h.len
  have hat : w64 (s.at_ + 1) = s.at_ + 1 := w64_id (by omega) (by omega)
  have hb : ∃ b, (if s.at_ < (s.code.length : Int) then ((at? s.code s.at_).bind fun v1 => some (w64 v1)) else some 0) = some b ∧ 0 ≤ b ∧ b ≤ 255 := by
    split
    · rename_i hlt
      rw [at_ok h1 (by omega), Option.bind_some]
      obtain ⟨g1, g2⟩ := h.bytes s.code[s.at_.toNat] (List.getElem_mem (by omega))
      exact ⟨_, rfl, by rw [w64_id (by omega) (by omega)]; omega, by rw [w64_id (by omega) (by omega)]; omega⟩
    · exact ⟨0, rfl, by omega, by omega⟩
  obtain ⟨b, hb, b0, b1⟩ := hb
  unfold spec_l00Src_next
  rw [hb, Option.bind_some, hat]
  split
  · exact ⟨_, _, rfl, b0, b1, ⟨h.bytes, h.len, by simp only; omega, by simp only; omega⟩⟩
  · rw [shr40, Option.bind_some]
    have := and255 ((IntKind.wrap .u64 ((IntKind.wrap .u64 ((IntKind.wrap .u64 (s.seed * 6364136223846793005)) + (IntKind.wrap .u64 b))) + 1442695040888963407)).fdiv (2 ^ 40))
    exact ⟨_, _, rfl, by rw [w64_id (by omega) (by omega)]; omega, by rw [w64_id (by omega) (by omega)]; omega, ⟨h.bytes, h.len, by simp only; omega, by simp only; omega⟩⟩
theorem pick_ok {B : Int} {s : GL00Src} (h : SrcOk B s) (hB : B ≤ 4611686018427387000) (n : Int) : ∃ v s', spec_l00Src_pick s n = some (v, s') ∧ 0 ≤ v ∧ (v = 0 ∨ v < n) ∧ SrcOk (B + 2) s' := by
  unfold spec_l00Src_pick
  by_cases hn : n ≤ 1
  · rw [if_pos hn]; exact ⟨0, s, rfl, by omega, .inl rfl, h.mono (by omega)⟩
  · rw [if_neg hn]
    obtain ⟨v, s1, e1, v0, v1, k1⟩ := next_ok h (by omega)
    rw [e1, Option.bind_some]
    by_cases h2 : n > 200
    · rw [if_pos h2]
      obtain ⟨u, s2, e2, u0, u1, k2⟩ := next_ok k1 (by omega)
      simp only
      rw [e2, Option.bind_some, mod_ok (by omega), Option.bind_some, w64_id (n := v * 256) (by omega) (by omega), w64_id (by simp only; omega) (by simp only; omega)]
      have e : (v * 256 + u).tmod n = (v * 256 + u) % n := Int.tmod_eq_emod_of_nonneg (by omega)
      refine ⟨_, _, rfl, ?_, ?_, by rw [show B + 2 = B + 1 + 1 by omega]; exact k2⟩
      · simp only [e]; exact Int.emod_nonneg _ (by omega)
      · simp only [e]; right; exact Int.emod_lt_of_pos _ (by omega)
    · rw [if_neg h2, mod_ok (by omega), Option.bind_some]
      simp only
      have e : v.tmod n = v % n := Int.tmod_eq_emod_of_nonneg (by omega)
      refine ⟨_, _, rfl, ?_, ?_, k1.mono (by omega)⟩
      · rw [e]; exact Int.emod_nonneg _ (by omega)
      · rw [e]; right; exact Int.emod_lt_of_pos _ (by omega)
theorem a2Long_eq (a b : List Int) : ∃ r, laws_a2Long a b = some r ∧ (r = false → a.length ≤ 3000 ∧ b.length ≤ 3000) := by
  unfold laws_a2Long
  split
  · exact ⟨true, rfl, by simp⟩
  · exact ⟨_, rfl, by simp; omega⟩
/-- a number off a byte -/
theorem a2At_ok {code : List Int} (h : okL (okI .u8) code) (hl : code.length ≤ 3000) {i n : Int} (hi : 0 ≤ i) (hn : 1 ≤ n) : ∃ v, laws_a2At code i n = some v ∧ 0 ≤ v ∧ v < n := by
  unfold laws_a2At
  by_cases h1 : i ≥ (code.length : Int)
  · rw [if_pos h1]; exact ⟨0, rfl, by omega, by omega⟩
  · rw [if_neg h1, Option.bind_some]
    have h2 : ¬ n < 1 := by omega
    simp only [h2, decide_false, Bool.false_eq_true, if_false]
    rw [at_ok hi (by omega), Option.bind_some, mod_ok (by omega), Option.bind_some]
    obtain ⟨g1, g2⟩ := okU8 (h.2 code[i.toNat] (List.getElem_mem (by omega)))
    rw [w64_id (by omega) (by omega)]
    have e : (code[i.toNat]'(by omega)).tmod n = (code[i.toNat]'(by omega)) % n := Int.tmod_eq_emod_of_nonneg g1
    exact ⟨_, rfl, by rw [e]; exact Int.emod_nonneg _ (by omega), by rw [e]; exact Int.emod_lt_of_pos _ (by omega)⟩
end Go.Vs.G

namespace Go.Vs.G
open Go Go.Vs

theorem l00In_eqB (n a b : Int) : spec_l00In n a b = some (decide (a ≤ n ∧ n ≤ b)) := by
  unfold spec_l00In; split <;> simp <;> omega
end Go.Vs.G

namespace Go.Vs.G
open Go Go.Vs

theorem within_eqR (n a b : Int) : impl_within n a b = some (decide (a ≤ n ∧ n ≤ b)) := by
  unfold impl_within; split <;> simp <;> omega
end Go.Vs.G

namespace Go.Vs
open Go

section
variable {α β γ R : Type}

/-- a loop whose state at each round is told -/
theorem wp_cnt {S B : Type} {Q : γ → Prop} {body : S → Option (Step S B R)} {kb : B → Option γ} {kr : R → Option γ} {s0 : S} (st : Nat → S) (n : Nat) (h0 : s0 = st 0) (hn : n < 18446744073709551616)
    (hs : ∀ k, k < n → body (st k) = some (.next (st (k + 1)))) {b : B} (he : body (st n) = some (.brk b)) (hq : wp (kb b) Q) : wp (onL (loop body loopLim s0) kb kr) Q := by
  rw [h0, loop_brk st n hn hs he]; exact hq
end
end Go.Vs

namespace Go.Vs
theorem wp_seq {α β : Type} {A : Option β} {k : β → Option α} {P : β → Prop} {Q : α → Prop} (h : wp A P) (hk : ∀ x, P x → wp (k x) Q) : wp (A.bind k) Q := by
  obtain ⟨x, rfl, hx⟩ := h; exact hk x hx
end Go.Vs
namespace Go.Vs.G
open Go Go.Vs

section
variable {α : Type} {Q : α → Prop} {B : Int} {s : GL00Src}
theorem wp_pick {n : Int} {k : Int × GL00Src → Option α} (h : SrcOk B s) (hB : B ≤ 4611686018427387000) (hk : ∀ v s', 0 ≤ v → (v = 0 ∨ v < n) → SrcOk (B + 2) s' → wp (k (v, s')) Q) : wp ((spec_l00Src_pick s n).bind k) Q := by
  obtain ⟨v, s', e, h0, h1, h2⟩ := pick_ok h hB n
  rw [e]; exact hk v s' h0 h1 h2
theorem wp_from {code : List Int} {k : GL00Src → Option α} (h : okL (okI .u8) code) (hl : code.length ≤ 1000000) (hk : ∀ s, SrcOk 0 s → wp (k s) Q) : wp ((spec_l00From code).bind k) Q := hk _ (srcOk_from h hl)
theorem wp_app {β : Type} {l m : List β} {k : List β → Option α} (h : l.length + m.length ≤ 4294967296) (hk : wp (k (l ++ m)) Q) : wp ((app? l m).bind k) Q := by
  rw [app_ok h]; exact hk
end
end Go.Vs.G

namespace Go.Vs.G
open Go Go.Vs

/-- how many numbers below n -/
def cn (P : Nat → Bool) : Nat → Nat
  | 0 => 0
  | n + 1 => cn P n + if P n = true then 1 else 0
theorem cn_le {P Q : Nat → Bool} : ∀ {n : Nat}, (∀ v, v < n → P v = true → Q v = true) → cn P n ≤ cn Q n
  | 0, _ => Nat.le_refl _
  | n + 1, h => by
    have ih := cn_le (P := P) (Q := Q) (n := n) fun v hv => h v (by omega)
    have := h n (by omega)
    simp only [cn]
    cases hp : P n with
    | true => rw [this hp]; simp; omega
    | false => simp only [Bool.false_eq_true, if_false]; omega
theorem cn_congr {P Q : Nat → Bool} : ∀ {n : Nat}, (∀ v, v < n → P v = Q v) → cn P n = cn Q n
  | 0, _ => rfl
  | n + 1, h => by simp only [cn]; rw [cn_congr (P := P) (Q := Q) (n := n) fun v hv => h v (by omega), h n (by omega)]
theorem cn_zero {P : Nat → Bool} : ∀ {n : Nat}, (∀ v, v < n → P v = false) → cn P n = 0
  | 0, _ => rfl
  | n + 1, h => by simp only [cn]; rw [cn_zero (P := P) (n := n) fun v hv => h v (by omega), h n (by omega)]; rfl
theorem cn_add {P Q : Nat → Bool} {a : Nat} : ∀ {n : Nat}, a < n → P a = false → Q a = true → (∀ v, v < n → v ≠ a → Q v = P v) → cn Q n = cn P n + 1
  | n + 1, ha, hP, hQ, h => by
    simp only [cn]
    by_cases he : a = n
    · subst he
      rw [hP, hQ, cn_congr (P := Q) (Q := P) (n := a) fun v hv => h v (by omega) (by omega)]
      simp
    · have := cn_add (P := P) (Q := Q) (n := n) (by omega) hP hQ fun v hv hne => h v (by omega) hne
      rw [this, h n (by omega) (fun h => he h.symm)]; omega
/-- one number may be told apart -/
theorem cn_split {P : Nat → Bool} {a n : Nat} (ha : a < n) : cn P n = cn (fun v => decide (v ≠ a) && P v) n + if P a = true then 1 else 0 := by
  cases hp : P a with
  | true => exact cn_add ha (by simp) hp fun v hv hne => by simp [hne]
  | false =>
    simp only [Bool.false_eq_true, if_false, Nat.add_zero]
    refine cn_congr fun v hv => ?_
    by_cases h : v = a
    · subst h; rw [hp]; simp
    · simp [h]
/-- how many letters there may be -/
@[irreducible] def NB : Nat := 256
theorem NB_eq : NB = 256 := by unfold NB; rfl
/-- a letter's number -/
def ltr (s : List UInt8) (i : Nat) : Nat := (s.getD i 0).toNat
theorem ltr_lt (s : List UInt8) (i : Nat) : ltr s i < NB := by rw [NB_eq]; have := (s.getD i 0).toNat_lt; unfold ltr; omega
open Classical in
/-- v is shown from i on, before x -/
noncomputable def occ (s : List UInt8) (i x v : Nat) : Bool := decide (∃ j, i ≤ j ∧ j < x ∧ j < s.length ∧ ltr s j = v)
theorem occ_iff {s : List UInt8} {i x v : Nat} : occ s i x v = true ↔ ∃ j, i ≤ j ∧ j < x ∧ j < s.length ∧ ltr s j = v := by unfold occ; simp
theorem occ_ne {s : List UInt8} {i x v : Nat} (h : v ≠ (ltr s i)) : occ s (i + 1) x v = occ s i x v := by
  rw [Bool.eq_iff_iff, occ_iff, occ_iff]
  constructor
  · rintro ⟨j, h1, h2⟩; exact ⟨j, by omega, h2⟩
  · rintro ⟨j, h1, h2, h3, h4⟩
    by_cases hj : j = i
    · subst hj; exact absurd h4.symm h
    · exact ⟨j, by omega, h2, h3, h4⟩
theorem occ_self {s : List UInt8} {i x : Nat} (hi : i < s.length) (hx : i < x) : occ s i x (ltr s i) = true := occ_iff.2 ⟨i, Nat.le_refl _, hx, hi, rfl⟩
theorem occ_le {s : List UInt8} {i x v : Nat} (hx : x ≤ i) : occ s i x v = false := by
  rw [Bool.eq_false_iff]
  intro h
  obtain ⟨j, h1, h2, _⟩ := occ_iff.1 h
  omega
/-- how many of a set are shown from i on, before x -/
noncomputable def cc (s : List UInt8) (A : Nat → Bool) (i x : Nat) : Nat := cn (fun v => A v && occ s i x v) NB
noncomputable def dd (s : List UInt8) (A : Nat → Bool) (i x : Nat) : Nat := cn (fun v => decide (v ≠ (ltr s i)) && (A v && occ s i x v)) NB
section
variable {s : List UInt8} {i : Nat}
theorem cc_old (hi : i < s.length) (A : Nat → Bool) (x : Nat) : cc s A i x = dd s A i x + if A (ltr s i) = true ∧ i < x then 1 else 0 := by
  unfold cc dd
  rw [cn_split (a := (ltr s i)) (ltr_lt s i)]
  congr 1
  by_cases hx : i < x
  · rw [occ_self hi hx]; simp [hx]
  · rw [occ_le (by omega)]; simp [hx]
theorem cc_new (A : Nat → Bool) (x : Nat) : cc s A (i + 1) x = dd s A i x + if (A (ltr s i) && occ s (i + 1) x (ltr s i)) = true then 1 else 0 := by
  unfold cc dd
  rw [cn_split (a := (ltr s i)) (ltr_lt s i)]
  congr 1
  refine cn_congr fun v hv => ?_
  by_cases h : v = (ltr s i)
  · simp [h]
  · rw [occ_ne h]
theorem dd_le {A A' : Nat → Bool} (h : ∀ v, v ≠ (ltr s i) → A' v = true → A v = true) (x : Nat) : dd s A' i x ≤ dd s A i x := by
  unfold dd
  refine cn_le fun v _ hv => ?_
  simp only [Bool.and_eq_true, decide_eq_true_eq] at hv ⊢
  exact ⟨hv.1, h v hv.1 hv.2.1, hv.2.2⟩
/-- what the rule does with its set -/
inductive GStep (s : List UInt8) (i p : Nat) (G G' : Nat → Bool) : Bool → Prop where
  | hit : G (ltr s i) = true → (∀ v, G' v = G v) → GStep s i p G G' false
  | room : G (ltr s i) = false → (∀ v, G' v = (G v || v == (ltr s i))) → GStep s i p G G' true
  | out (t : Nat) : G (ltr s i) = false → G t = true → t < NB → cn G NB = p → (∀ v, G' v = ((G v && v != t) || v == (ltr s i))) → (∀ x v, occ s i x t = true → G v = true → occ s i x v = true) → GStep s i p G G' true
def b2i (b : Bool) : Int := if b = true then 1 else 0
theorem dom_step (hi : i < s.length) {p : Nat} {A G A' G' : Nat → Bool} {δ : Int} {la lg : Bool} (hd : ∀ x, (cc s A i x : Int) ≤ cc s G i x + δ)
    (hA1 : ∀ v, A' v = true → A v = true ∨ v = (ltr s i)) (hA2 : A' (ltr s i) = true) (hA3 : cn A' NB ≤ p) (hA4 : la = false → A (ltr s i) = true) (hG : GStep s i p G G' lg) :
    ∀ x, (cc s A' (i + 1) x : Int) ≤ cc s G' (i + 1) x + (δ + b2i la - b2i lg) := by
  intro x
  have he : (ltr s i) < NB := ltr_lt s i
  have h0 : 0 ≤ δ := by
    have := hd 0
    rw [show cc s A i 0 = 0 from cn_zero fun v _ => by rw [occ_le (by omega)]; simp, show cc s G i 0 = 0 from cn_zero fun v _ => by rw [occ_le (by omega)]; simp] at this
    omega
  have hx := hd x
  have hx1 := hd (i + 1)
  have dA : dd s A' i x ≤ dd s A i x := dd_le (fun v hv h => (hA1 v h).resolve_right hv) x
  -- the others of the set
  have cA : dd s A' i x + 1 ≤ p := by
    refine Nat.le_trans ?_ hA3
    rw [cn_split (P := A') (a := (ltr s i)) he, hA2]
    simp only [if_true]
    refine Nat.add_le_add_right (cn_le fun v _ hv => ?_) 1
    simp only [Bool.and_eq_true] at hv ⊢
    exact ⟨hv.1, hv.2.1⟩
  rw [cc_old hi, cc_old hi] at hx hx1
  rw [cc_new, cc_new, hA2]
  simp only [Bool.true_and]
  -- at i + 1 nobody else is shown
  have d0 : ∀ B : Nat → Bool, dd s B i (i + 1) = 0 := fun B => cn_zero fun v _ => by
    by_cases hv : v = (ltr s i)
    · simp [hv]
    · have : occ s i (i + 1) v = false := by
        rw [Bool.eq_false_iff]
        intro h
        obtain ⟨j, h1, h2, h3, h4⟩ := occ_iff.1 h
        obtain rfl : j = i := by omega
        exact hv h4.symm
      rw [this]; simp
  have dx : ∀ B : Nat → Bool, x ≤ i → dd s B i x = 0 := fun B h => cn_zero fun v _ => by rw [occ_le h]; simp
  rw [d0, d0] at hx1
  simp only [show i < i + 1 by omega, and_true] at hx1
  cases hG with
  | hit g1 g2 =>
    have dG : dd s G' i x = dd s G i x := by unfold dd; exact cn_congr fun v _ => by rw [g2]
    rw [dG, g2, g1]
    rw [g1] at hx
    simp only [Bool.true_and, true_and] at hx ⊢
    cases la with
    | true => simp only [b2i, if_true, Bool.false_eq_true, if_false]; split at hx <;> split at hx <;> omega
    | false =>
      rw [hA4 rfl] at hx
      simp only [true_and] at hx
      simp only [b2i, Bool.false_eq_true, if_false]
      omega
  | room g1 g2 =>
    have dG : dd s G' i x = dd s G i x := by
      unfold dd
      refine cn_congr fun v _ => ?_
      by_cases hv : v = (ltr s i)
      · simp [hv]
      · have hb : (v == ltr s i) = false := beq_eq_false_iff_ne.2 hv
        rw [g2, hb]; simp [hv]
    have ge : G' (ltr s i) = true := by rw [g2]; simp
    rw [dG, ge]
    rw [g1] at hx hx1
    simp only [Bool.true_and, Bool.false_eq_true, false_and, if_false] at hx hx1 ⊢
    cases la with
    | true => simp only [b2i, if_true]; split at hx <;> omega
    | false =>
      rw [hA4 rfl] at hx hx1
      simp only [true_and, if_true] at hx hx1
      simp only [b2i, Bool.false_eq_true, if_false, if_true]
      by_cases hix : i < x
      · rw [if_pos hix] at hx; omega
      · have q := dx A (by omega)
        have : occ s (i + 1) x (ltr s i) = false := occ_le (by omega)
        rw [this]
        simp only [Bool.false_eq_true, if_false]
        omega
  | out t g1 gt gl gp g2 gm =>
    have hte : t ≠ (ltr s i) := fun h => by rw [h, g1] at gt; cases gt
    have ge : G' (ltr s i) = true := by rw [g2]; simp
    rw [ge]
    rw [g1] at hx hx1
    simp only [Bool.true_and, Bool.false_eq_true, false_and, if_false] at hx hx1 ⊢
    have hδ : 0 ≤ δ + b2i la - b2i true := by
      cases la with
      | true => simp only [b2i, if_true]; omega
      | false =>
        rw [hA4 rfl] at hx1
        simp only [if_true] at hx1
        simp only [b2i, Bool.false_eq_true, if_false, if_true]; omega
    cases ho : occ s i x t with
    | true =>
      -- all of the rule's set are shown before x
      have dG : dd s G' i x + 1 = p := by
        rw [← gp]
        refine (cn_add (P := fun v => decide (v ≠ (ltr s i)) && (G' v && occ s i x v)) (Q := G) gl ?_ gt fun v _ hv => ?_).symm
        · rw [g2]; simp [hte]
        · by_cases hve : v = (ltr s i)
          · rw [hve, g1]; simp
          · rw [g2]
            cases hgv : G v with
            | true => rw [gm x v ho hgv]; simp [hve, hv]
            | false => simp [hve]
      omega
    | false =>
      have dG : dd s G' i x = dd s G i x := by
        unfold dd
        refine cn_congr fun v _ => ?_
        by_cases hv : v = (ltr s i)
        · simp [hv]
        · by_cases hvt : v = t
          · subst hvt; rw [ho]; simp
          · have hb : (v == ltr s i) = false := beq_eq_false_iff_ne.2 hv
            have hb2 : (v != t) = true := bne_iff_ne.2 hvt
            rw [g2, hb, hb2]; simp [hv]
      rw [dG]
      cases la with
      | true => simp only [b2i, if_true]; split at hx <;> omega
      | false =>
        rw [hA4 rfl] at hx hx1
        simp only [true_and, if_true] at hx hx1
        simp only [b2i, Bool.false_eq_true, if_false, if_true]
        by_cases hix : i < x
        · rw [if_pos hix] at hx; omega
        · have q := dx A (by omega)
          have : occ s (i + 1) x (ltr s i) = false := occ_le (by omega)
          rw [this]
          simp only [Bool.false_eq_true, if_false]
          omega
end
end Go.Vs.G

namespace Go.Vs.G
open Go Go.Vs

/-- the magazine behind i showings by a plan -/
def run (s : List UInt8) (p : Nat) (pl : List Int) : Nat → List Int
  | 0 => List.replicate p 0
  | i + 1 => (run s p pl i).set (pl.getD i 0).toNat (ltr s i : Int)
def ldc (s : List UInt8) (p : Nat) (pl : List Int) : Nat → Int
  | 0 => 0
  | i + 1 => ldc s p pl i + if (run s p pl i).getD (pl.getD i 0).toNat 0 = (ltr s i : Int) then 0 else 1
theorem run_len (s : List UInt8) (p : Nat) (pl : List Int) : ∀ i, (run s p pl i).length = p
  | 0 => by simp [run]
  | i + 1 => by simp [run, run_len s p pl i]
/-- the letters of a magazine -/
def St (M : List Int) (v : Nat) : Bool := decide (0 < v ∧ (v : Int) ∈ M)
theorem St_iff {M : List Int} {v : Nat} : St M v = true ↔ 0 < v ∧ (v : Int) ∈ M := by unfold St; simp
theorem cn_le1 {P Q : Nat → Bool} {a n : Nat} (h : ∀ v, v < n → v ≠ a → Q v = true → P v = true) : cn Q n ≤ cn P n + 1 := by
  by_cases ha : a < n
  · rw [cn_split (P := Q) ha]
    have := cn_le (P := fun v => decide (v ≠ a) && Q v) (Q := P) (n := n) fun v hv hq => by
      simp only [Bool.and_eq_true, decide_eq_true_eq] at hq
      exact h v hv hq.1 hq.2
    split <;> omega
  · have := cn_le (P := Q) (Q := P) (n := n) fun v hv hq => h v hv (by omega) hq
    omega
theorem card_le : ∀ M : List Int, cn (St M) NB ≤ M.length
  | [] => by rw [cn_zero fun v _ => by simp [St]]; exact Nat.zero_le _
  | m :: M => by
    have ih := card_le M
    have := cn_le1 (P := St M) (Q := St (m :: M)) (a := m.toNat) (n := NB) fun v _ hne hq => by
      rw [St_iff] at hq ⊢
      refine ⟨hq.1, (List.mem_cons.1 hq.2).resolve_left fun h => hne (by omega)⟩
    simp only [List.length_cons]; omega
theorem card_eq : ∀ M : List Int, (∀ m, m ∈ M → 0 < m ∧ m < (NB : Int)) → M.Pairwise (· ≠ ·) → cn (St M) NB = M.length
  | [], _, _ => cn_zero fun v _ => by simp [St]
  | m :: M, h, hp => by
    obtain ⟨p1, p2⟩ := List.pairwise_cons.1 hp
    have ih := card_eq M (fun q hq => h q (by simp [hq])) p2
    have hm := h m (by simp)
    have := cn_add (P := St M) (Q := St (m :: M)) (a := m.toNat) (n := NB) (by omega) (by
        rw [Bool.eq_false_iff]
        intro hq
        obtain ⟨_, hq⟩ := St_iff.1 hq
        exact p1 _ hq (by omega)) (St_iff.2 ⟨by omega, List.mem_cons.2 (.inl (by omega))⟩) fun v _ hne => by
      rw [Bool.eq_iff_iff, St_iff, St_iff]
      exact ⟨fun hq => ⟨hq.1, (List.mem_cons.1 hq.2).resolve_left fun h => hne (by omega)⟩, fun hq => ⟨hq.1, List.mem_cons_of_mem _ hq.2⟩⟩
    rw [this, ih]; rfl
theorem mem_set_iff {M : List Int} {k : Nat} {e v : Int} (hk : k < M.length) : v ∈ M.set k e ↔ v = e ∨ ∃ j, j < M.length ∧ j ≠ k ∧ M.getD j 0 = v := by
  constructor
  · intro h
    obtain ⟨j, hj, he⟩ := List.mem_iff_getElem.1 h
    rw [List.length_set] at hj
    rw [List.getElem_set] at he
    split at he
    · exact .inl he.symm
    · rename_i hne
      exact .inr ⟨j, hj, fun h => hne h.symm, by rw [List.getD_eq_getElem?_getD, List.getElem?_eq_getElem hj]; exact he⟩
  · rintro (rfl | ⟨j, hj, hne, he⟩)
    · exact List.mem_iff_getElem.2 ⟨k, by simpa using hk, by simp⟩
    · refine List.mem_iff_getElem.2 ⟨j, by simpa using hj, ?_⟩
      rw [List.getElem_set, if_neg (fun h => hne h.symm)]
      rw [List.getD_eq_getElem?_getD, List.getElem?_eq_getElem hj] at he
      exact he
theorem mem_getD {M : List Int} {v : Int} : v ∈ M ↔ ∃ j, j < M.length ∧ M.getD j 0 = v := by
  rw [List.mem_iff_getElem]
  constructor
  · rintro ⟨j, hj, he⟩; exact ⟨j, hj, by rw [List.getD_eq_getElem?_getD, List.getElem?_eq_getElem hj]; exact he⟩
  · rintro ⟨j, hj, he⟩; rw [List.getD_eq_getElem?_getD, List.getElem?_eq_getElem hj] at he; exact ⟨j, hj, he⟩
/-- a place that the rule may choose -/
def GK (s : List UInt8) (i : Nat) (M : List Int) (k : Nat) : Prop :=
  k < M.length ∧ ((ltr s i : Int) ∈ M → M.getD k 0 = (ltr s i : Int)) ∧ ((ltr s i : Int) ∉ M → M.getD k 0 = 0 ∨ ((0 : Int) ∉ M ∧ ∀ x v, occ s i x (M.getD k 0).toNat = true → St M v = true → occ s i x v = true))
/-- letters are not in the magazine twice -/
structure MOk (M : List Int) : Prop where
  el : ∀ m, m ∈ M → m = 0 ∨ (0 < m ∧ m < (NB : Int))
  nd : ∀ a b, a < M.length → b < M.length → M.getD a 0 = M.getD b 0 → M.getD a 0 ≠ 0 → a = b
theorem MOk.pair {M : List Int} (h : MOk M) (h0 : (0 : Int) ∉ M) : M.Pairwise (· ≠ ·) := by
  rw [List.pairwise_iff_getElem]
  intro a b ha hb hab he
  have e1 : M.getD a 0 = M[a] := by rw [List.getD_eq_getElem?_getD, List.getElem?_eq_getElem ha]; rfl
  have e2 : M.getD b 0 = M[b] := by rw [List.getD_eq_getElem?_getD, List.getElem?_eq_getElem hb]; rfl
  have := h.nd a b ha hb (by rw [e1, e2, he]) (by rw [e1]; intro hz; exact h0 (by rw [← hz]; exact List.getElem_mem ha))
  omega
section
variable {s : List UInt8} {i : Nat} {M : List Int} {k : Nat}
theorem MOk.set (h : MOk M) (hl : 0 < ltr s i) (hk : GK s i M k) : MOk (M.set k (ltr s i : Int)) := by
  obtain ⟨k1, k2, k3⟩ := hk
  have hL := ltr_lt s i
  refine ⟨fun m hm => ?_, fun a b ha hb he hz => ?_⟩
  · rcases (mem_set_iff k1).1 hm with rfl | ⟨j, hj, _, rfl⟩
    · right; omega
    · exact h.el _ (mem_getD.2 ⟨j, hj, rfl⟩)
  · rw [List.length_set] at ha hb
    have gs : ∀ j, j < M.length → (M.set k (ltr s i : Int)).getD j 0 = if k = j then (ltr s i : Int) else M.getD j 0 := fun j hj => by
      rw [List.getD_eq_getElem?_getD, List.getElem?_set]
      by_cases hkj : k = j
      · rw [if_pos hkj, if_pos hkj, if_pos k1]; rfl
      · rw [if_neg hkj, if_neg hkj, List.getD_eq_getElem?_getD]
    rw [gs a ha] at he hz
    rw [gs b hb] at he
    by_cases hin : (ltr s i : Int) ∈ M
    · -- nothing changes
      have hkv := k2 hin
      have ea : (if k = a then (ltr s i : Int) else M.getD a 0) = M.getD a 0 := by
        by_cases e : k = a
        · rw [if_pos e, ← e, hkv]
        · rw [if_neg e]
      have eb : (if k = b then (ltr s i : Int) else M.getD b 0) = M.getD b 0 := by
        by_cases e : k = b
        · rw [if_pos e, ← e, hkv]
        · rw [if_neg e]
      rw [ea, eb] at he
      rw [ea] at hz
      exact h.nd a b ha hb he hz
    · split at he
      · rename_i e1
        split at he
        · rename_i e2; omega
        · exact absurd (mem_getD.2 ⟨b, hb, he.symm⟩) hin
      · rename_i e1
        split at he
        · exact absurd (mem_getD.2 ⟨a, ha, he⟩) hin
        · rw [if_neg e1] at hz
          exact h.nd a b ha hb he hz
theorem gstep (h : MOk M) (hl : 0 < ltr s i) (hk : GK s i M k) : GStep s i M.length (St M) (St (M.set k (ltr s i : Int))) (decide (M.getD k 0 ≠ (ltr s i : Int))) := by
  obtain ⟨k1, k2, k3⟩ := hk
  have hL := ltr_lt s i
  by_cases hin : (ltr s i : Int) ∈ M
  · have hkv := k2 hin
    rw [decide_eq_false (by simp only [ne_eq, Decidable.not_not]; exact hkv)]
    refine .hit (St_iff.2 ⟨hl, hin⟩) fun v => ?_
    rw [Bool.eq_iff_iff, St_iff, St_iff, mem_set_iff k1]
    refine and_congr_right fun hv => ⟨?_, fun hm => ?_⟩
    · rintro (he | ⟨j, hj, _, he⟩)
      · rw [he]; exact hin
      · exact mem_getD.2 ⟨j, hj, he⟩
    · obtain ⟨j, hj, he⟩ := mem_getD.1 hm
      by_cases hjk : j = k
      · left; rw [← he, hjk, hkv]
      · exact .inr ⟨j, hj, hjk, he⟩
  · have hne : M.getD k 0 ≠ (ltr s i : Int) := fun he => hin (mem_getD.2 ⟨k, k1, he⟩)
    rw [decide_eq_true hne]
    have hno : St M (ltr s i) = false := by rw [Bool.eq_false_iff]; exact fun hq => hin (St_iff.1 hq).2
    by_cases hz : M.getD k 0 = 0
    · refine .room hno fun v => ?_
      rw [Bool.eq_iff_iff, Bool.or_eq_true, beq_iff_eq, St_iff, St_iff, mem_set_iff k1]
      constructor
      · rintro ⟨hv, he | ⟨j, hj, _, he⟩⟩
        · right; omega
        · exact .inl ⟨hv, mem_getD.2 ⟨j, hj, he⟩⟩
      · rintro (⟨hv, hm⟩ | rfl)
        · obtain ⟨j, hj, he⟩ := mem_getD.1 hm
          refine ⟨hv, .inr ⟨j, hj, fun hjk => ?_, he⟩⟩
          rw [hjk, hz] at he; omega
        · exact ⟨hl, .inl rfl⟩
    · obtain ⟨h0, hmax⟩ := (k3 hin).resolve_left hz
      have hmk : M.getD k 0 ∈ M := mem_getD.2 ⟨k, k1, rfl⟩
      have hb := (h.el _ hmk).resolve_left hz
      refine .out (M.getD k 0).toNat hno (St_iff.2 ⟨by omega, by rw [show (((M.getD k 0).toNat : Nat) : Int) = M.getD k 0 by omega]; exact hmk⟩) (by omega) (card_eq M (fun m hm => (h.el m hm).resolve_left fun e => h0 (by rw [← e]; exact hm)) (h.pair h0)) (fun v => ?_) hmax
      rw [Bool.eq_iff_iff, Bool.or_eq_true, Bool.and_eq_true, beq_iff_eq, bne_iff_ne, St_iff, St_iff, mem_set_iff k1]
      constructor
      · rintro ⟨hv, he | ⟨j, hj, hjk, he⟩⟩
        · right; omega
        · refine .inl ⟨⟨hv, mem_getD.2 ⟨j, hj, he⟩⟩, fun hvt => hjk (h.nd j k hj k1 (by omega) (by omega))⟩
      · rintro (⟨⟨hv, hm⟩, hvt⟩ | rfl)
        · obtain ⟨j, hj, he⟩ := mem_getD.1 hm
          exact ⟨hv, .inr ⟨j, hj, fun hjk => hvt (by rw [hjk] at he; omega), he⟩⟩
        · exact ⟨hl, .inl rfl⟩
end
/-- a plan by the rule -/
def GPlan (s : List UInt8) (p : Nat) (pl : List Int) : Prop := pl.length = s.length ∧ ∀ i, i < s.length → 0 ≤ pl.getD i 0 ∧ GK s i (run s p pl i) (pl.getD i 0).toNat
section
variable {s : List UInt8} (hs : ∀ i, i < s.length → 0 < ltr s i) {p : Nat} {pl : List Int} (hg : GPlan s p pl)
include hs hg
theorem run_ok : ∀ {i : Nat}, i ≤ s.length → MOk (run s p pl i)
  | 0, _ => ⟨fun m hm => by simp [run] at hm; exact .inl hm.2, fun a b ha hb he hz => by
      exfalso; refine hz ?_
      simp only [run] at ha ⊢
      rw [List.getD_eq_getElem?_getD, List.getElem?_eq_getElem ha]; simp⟩
  | i + 1, hi => (run_ok (i := i) (by omega)).set (hs i (by omega)) (hg.2 i (by omega)).2
end
end Go.Vs.G

namespace Go.Vs.G
open Go Go.Vs

theorem at_getJ {l : List Int} {k : Nat} (h : k < l.length) : at? l (k : Int) = some (l.getD k 0) := by
  rw [at_of h, List.getD_eq_getElem?_getD, List.getElem?_eq_getElem h]; rfl
theorem at_ltr {s : List UInt8} {i : Nat} (h : i < s.length) : ∃ c, at? s (i : Int) = some c ∧ c.toNat = ltr s i := by
  refine ⟨s[i], at_of h, ?_⟩
  unfold ltr; rw [List.getD_eq_getElem?_getD, List.getElem?_eq_getElem h]; rfl
theorem idxM {M : List Int} (hl : M.length ≤ 1000) (e : Int) : ∃ r, slices_Index_byte_byte_830 M e = some r ∧ ((r = -1 ∧ e ∉ M) ∨ ∃ k : Nat, r = (k : Int) ∧ k < M.length ∧ M.getD k 0 = e) := by
  have key : wp (slices_Index_byte_byte_830 M e) (fun r => (r = -1 ∧ e ∉ M) ∨ ∃ k : Nat, r = (k : Int) ∧ k < M.length ∧ M.getD k 0 = e) := by
    unfold slices_Index_byte_byte_830
    refine wp_loop (fun t : Int => ∃ k : Nat, t = (k : Int) ∧ k ≤ M.length ∧ ∀ j, j < k → M.getD j 0 ≠ e) (fun t => (M.length - t).toNat) ⟨0, rfl, by omega, fun j hj => by omega⟩ (by omega) ?_
    rintro t ⟨k, rfl, hk, hne⟩
    refine wp_ite (fun h => ?_) (fun h => wp_some (wp_some (.inl ⟨rfl, fun hm => ?_⟩)))
    · rw [at_getJ (by omega), Option.bind_some]
      refine wp_ite (fun h2 => wp_some (wp_some (.inr ⟨k, rfl, by omega, h2.symm⟩))) (fun h2 => ?_)
      rw [w64_id (by omega) (by omega)]
      refine wp_some ⟨⟨k + 1, rfl, by omega, fun j hj => ?_⟩, by omega⟩
      rcases Nat.lt_or_ge j k with h3 | h3
      · exact hne j h3
      · rw [show j = k by omega]; exact fun h4 => h2 h4.symm
    · obtain ⟨j, hj, he⟩ := mem_getD.1 hm
      exact hne j (by omega) he
  exact key
theorem ib_spec (c : UInt8) : ∀ l : List UInt8, (Lib.indexByte l c = -1 ∧ c ∉ l) ∨ ∃ j : Nat, Lib.indexByte l c = (j : Int) ∧ j < l.length ∧ l.getD j 0 = c ∧ ∀ a, a < j → l.getD a 0 ≠ c
  | [] => .inl ⟨rfl, by simp⟩
  | b :: l => by
    rw [Lib.indexByte]
    by_cases hb : b = c
    · subst hb
      exact .inr ⟨0, by simp, by simp, rfl, fun a ha => by omega⟩
    · have hb2 : (b == c) = false := beq_eq_false_iff_ne.2 hb
      rw [hb2]
      simp only [Bool.false_eq_true, if_false]
      rcases ib_spec c l with ⟨h1, h2⟩ | ⟨j, h1, h2, h3, h4⟩
      · rw [h1]
        exact .inl ⟨rfl, by simp [h2, Ne.symm hb]⟩
      · rw [h1]
        have : ((j : Int) == -1) = false := beq_eq_false_iff_ne.2 (by omega)
        rw [this]
        simp only [Bool.false_eq_true, if_false]
        refine .inr ⟨j + 1, by omega, by simp; omega, by simpa using h3, fun a ha => ?_⟩
        cases a with
        | zero => simpa using hb
        | succ a => simpa using h4 a (by omega)
/-- when a letter is shown next -/
def nxt (s : List UInt8) (i : Nat) (w : Int) : Int := Lib.indexByte (s.drop i) (UInt8.ofNat w.toNat)
theorem nxt_occ {s : List UInt8} {i v : Nat} (hv : v < NB) (x : Nat) : occ s i x v = true ↔ 0 ≤ nxt s i (v : Int) ∧ (i : Int) + nxt s i (v : Int) < (x : Int) := by
  rw [NB_eq] at hv
  have hc : (UInt8.ofNat ((v : Int).toNat)).toNat = v := by simp; omega
  have gd : ∀ j, (s.drop i).getD j 0 = s.getD (i + j) 0 := fun j => by rw [List.getD_eq_getElem?_getD, List.getD_eq_getElem?_getD, List.getElem?_drop]
  rw [occ_iff]
  unfold nxt
  rcases ib_spec (UInt8.ofNat ((v : Int).toNat)) (s.drop i) with ⟨h1, h2⟩ | ⟨j, h1, h2, h3, h4⟩
  · rw [h1]
    constructor
    · rintro ⟨j, j1, j2, j3, j4⟩
      refine absurd ?_ h2
      have : s.getD j 0 = UInt8.ofNat ((v : Int).toNat) := UInt8.toNat_inj.1 (by rw [hc]; exact j4)
      rw [← this, List.getD_eq_getElem?_getD, List.getElem?_eq_getElem j3]
      rw [List.mem_iff_getElem]
      exact ⟨j - i, by simp; omega, by simp [show i + (j - i) = j by omega]⟩
    · rintro ⟨h, _⟩; omega
  · rw [h1]
    rw [List.length_drop] at h2
    constructor
    · rintro ⟨a, a1, a2, a3, a4⟩
      have : ¬ a - i < j := fun hlt => h4 (a - i) hlt (by
        rw [gd, show i + (a - i) = a by omega]
        exact UInt8.toNat_inj.1 (by rw [hc]; exact a4))
      omega
    · rintro ⟨_, h5⟩
      refine ⟨i + j, by omega, by omega, by omega, ?_⟩
      rw [gd] at h3
      unfold ltr
      rw [h3, hc]
theorem far_ok {s : List UInt8} {i : Nat} (hi : i ≤ s.length) (hsl : s.length ≤ 1000) {M : List Int} (h1 : 1 ≤ M.length) (h2 : M.length ≤ 1000) (hM : ∀ m, m ∈ M → 0 < m ∧ m < (NB : Int)) {γ : Type} {kb : Int → Option γ} {kr : Empty → Option γ} {Q : γ → Prop}
    (hk : ∀ k : Nat, k < M.length → (∀ x v, occ s i x (M.getD k 0).toNat = true → St M v = true → occ s i x v = true) → wp (kb (k : Int)) Q) :
    wp (onL (loop (S := (Int × Int × Int)) (B := Int) (R := Empty) (fun ((k2, far1, x2) : Int × Int × Int) =>
 if x2 < (M.length : Int) then
 ((at? M x2).bind fun v1 =>
 (sub? s (i : Int) s.length).bind fun s2 =>
 (strings_IndexByte s2 v1).bind fun r3 =>
 if r3 < 0 then
 (some (.brk x2))
 else
 if r3 > far1 then
 (some (.next (x2, r3, w64 (x2 + 1))))
 else
 some (.next (k2, far1, w64 (x2 + 1))))
 else
 some (.brk k2)) loopLim (0, (-1), 0)) kb kr) Q := by
  have hg : ∀ a, a < M.length → 0 < M.getD a 0 ∧ M.getD a 0 < (NB : Int) := fun a ha => hM _ (mem_getD.2 ⟨a, ha, rfl⟩)
  have hcast : ∀ a, a < M.length → (((M.getD a 0).toNat : Nat) : Int) = M.getD a 0 := fun a ha => by have := hg a ha; omega
  refine wp_loop (fun t : Int × Int × Int => ∃ j : Nat, t.2.2 = (j : Int) ∧ j ≤ M.length ∧ (∀ a, a < j → 0 ≤ nxt s i (M.getD a 0) ∧ nxt s i (M.getD a 0) ≤ t.2.1) ∧ ((j = 0 ∧ t.2.1 = -1) ∨ ∃ k : Nat, t.1 = (k : Int) ∧ k < j ∧ t.2.1 = nxt s i (M.getD k 0))) (fun t => (M.length - t.2.2).toNat)
    ⟨0, rfl, by omega, fun a ha => by omega, .inl ⟨rfl, rfl⟩⟩ (by simp only; omega) ?_
  rintro ⟨k2, far, x2⟩ ⟨j, e1, e2, e3, e4⟩
  simp only at e1 e3 e4 ⊢
  subst e1
  refine wp_ite (fun h => ?_) (fun h => ?_)
  · rw [at_getJ (by omega), Option.bind_some, sub_ok (by omega) (by omega) (by omega), Option.bind_some]
    have hd : ((s.take ((s.length : Int)).toNat).drop ((i : Int)).toNat) = s.drop i := by simp
    rw [hd]
    show wp ((some (nxt s i (M.getD j 0))).bind _) _
    rw [Option.bind_some, w64_id (by omega) (by omega)]
    refine wp_ite (fun hneg => wp_some (hk j (by omega) fun x v ho _ => ?_)) (fun hneg => wp_ite (fun hgt => ?_) (fun hgt => ?_))
    · have := (nxt_occ (by have := hg j (by omega); omega) x).1 ho
      rw [hcast j (by omega)] at this
      omega
    · refine wp_some ⟨⟨j + 1, by simp only; omega, by omega, fun a ha => ?_, .inr ⟨j, rfl, by omega, rfl⟩⟩, by simp only; omega⟩
      simp only
      rcases Nat.lt_or_ge a j with h3 | h3
      · have := e3 a h3; omega
      · rw [show a = j by omega]; omega
    · refine wp_some ⟨⟨j + 1, by simp only; omega, by omega, fun a ha => ?_, ?_⟩, by simp only; omega⟩
      · simp only
        rcases Nat.lt_or_ge a j with h3 | h3
        · exact e3 a h3
        · rw [show a = j by omega]; omega
      · simp only
        rcases e4 with ⟨h3, h4⟩ | ⟨k, h3, h4, h5⟩
        · omega
        · exact .inr ⟨k, h3, by omega, h5⟩
  · rcases e4 with ⟨h3, h4⟩ | ⟨k, h3, h4, h5⟩
    · omega
    · subst h3
      refine wp_some (hk k (by omega) fun x v ho hv => ?_)
      obtain ⟨hv0, hvm⟩ := St_iff.1 hv
      obtain ⟨a, ha, he⟩ := mem_getD.1 hvm
      have hb := hM _ hvm
      have h6 := (nxt_occ (by have := hg k (by omega); omega) x).1 ho
      rw [hcast k (by omega)] at h6
      have h7 := e3 a (by omega)
      rw [he] at h7
      exact (nxt_occ (by omega) x).2 (by omega)
theorem run_app {s : List UInt8} {p : Nat} {out : List Int} {k : Int} : ∀ {j : Nat}, j ≤ out.length → run s p (out ++ [k]) j = run s p out j
  | 0, _ => rfl
  | j + 1, hj => by
    simp only [run]
    rw [run_app (j := j) (by omega)]
    congr 2
    rw [List.getD_eq_getElem?_getD, List.getElem?_append, if_pos (by omega), List.getD_eq_getElem?_getD]
theorem getD_last {out : List Int} {k : Int} : (out ++ [k]).getD out.length 0 = k := by
  rw [List.getD_eq_getElem?_getD, List.getElem?_append, if_neg (by omega), Nat.sub_self]; rfl
theorem getD_old {out : List Int} {k : Int} {j : Nat} (h : j < out.length) : (out ++ [k]).getD j 0 = out.getD j 0 := by
  rw [List.getD_eq_getElem?_getD, List.getElem?_append, if_pos h, List.getD_eq_getElem?_getD]
section
variable {s : List UInt8} (hs : ∀ i, i < s.length → 0 < ltr s i) (hsl : s.length ≤ 1000) {p : Nat} (hp : 1 ≤ p ∧ p ≤ 100)
include hs hsl hp
theorem bestLoading_ok : ∃ pl, impl_bestLoading s (p : Int) = some pl ∧ GPlan s p pl := by
  have key : wp (impl_bestLoading s (p : Int)) (fun pl => GPlan s p pl) := by
    unfold impl_bestLoading
    rw [mk_ok (by omega) (by omega), Option.bind_some]
    have hrep : List.replicate ((p : Int)).toNat (0 : Int) = List.replicate p 0 := by rw [Int.toNat_natCast]
    rw [hrep]
    refine wp_loop (fun t : List Int × List Int × Int => ∃ i : Nat, t.2.2 = (i : Int) ∧ i ≤ s.length ∧ t.1.length = i ∧ t.2.1 = run s p t.1 i ∧ MOk t.2.1 ∧ ∀ j, j < i → 0 ≤ t.1.getD j 0 ∧ GK s j (run s p t.1 j) (t.1.getD j 0).toNat) (fun t => (s.length - t.2.2).toNat)
      ⟨0, rfl, by omega, rfl, rfl, ⟨fun m hm => by simp at hm; exact .inl hm.2, fun a b ha hb he hz => by
        exfalso; refine hz ?_
        rw [List.getD_eq_getElem?_getD, List.getElem?_eq_getElem ha]; simp⟩, fun j hj => by omega⟩ (by simp only; omega) ?_
    rintro ⟨out, M, x⟩ ⟨i, rfl, hi, ho, hM, hok, hg⟩
    simp only at hi ho hM hok hg ⊢
    refine wp_ite (fun h => ?_) (fun h => ?_)
    · have hi' : i < s.length := by omega
      obtain ⟨c, hc, hcl⟩ := at_ltr hi'
      have hl := hs i hi'
      have hL := ltr_lt s i
      have hlen : M.length = p := by rw [hM, run_len]
      rw [hc]
      simp only [Option.bind_some, hcl]
      obtain ⟨r1, hr1, hr1'⟩ := idxM (M := M) (by omega) ((ltr s i : Nat) : Int)
      obtain ⟨r2, hr2, hr2'⟩ := idxM (M := M) (by omega) 0
      rw [hr1, Option.bind_some, hr2, Option.bind_some]
      refine wp_seq (P := fun k1 : Int => (k1 < 0 ∧ ((ltr s i : Nat) : Int) ∉ M ∧ (0 : Int) ∉ M) ∨ ∃ k : Nat, k1 = (k : Int) ∧ GK s i M k) ?_ fun k1 hk1 => wp_seq (P := fun k4 : Int => ∃ k : Nat, k4 = (k : Int) ∧ GK s i M k) ?_ fun k4 hk4 => ?_
      · rcases hr1' with ⟨rfl, hno⟩ | ⟨k, rfl, k1, k2⟩
        · rw [if_pos (by omega)]
          rcases hr2' with ⟨rfl, hz⟩ | ⟨k, rfl, k1, k2⟩
          · exact wp_some (.inl ⟨by omega, hno, hz⟩)
          · exact wp_some (.inr ⟨k, rfl, k1, fun hm => absurd hm hno, fun _ => .inl k2⟩)
        · rw [if_neg (by omega)]
          exact wp_some (.inr ⟨k, rfl, k1, fun _ => k2, fun hm => absurd (mem_getD.2 ⟨k, k1, k2⟩) hm⟩)
      · refine wp_ite (fun hneg => ?_) (fun hneg => ?_)
        · rcases hk1 with ⟨_, hno, hz⟩ | ⟨k, rfl, _⟩
          · exact far_ok (by omega) hsl (by omega) (by omega) (fun m hm => (hok.el m hm).resolve_left fun e => hz (by rw [← e]; exact hm)) fun k hk hmax => wp_some ⟨k, rfl, hk, fun hm => absurd hm hno, fun _ => .inr ⟨hz, hmax⟩⟩
          · omega
        · rcases hk1 with ⟨h1, _⟩ | hk1
          · omega
          · exact wp_some hk1
      · obtain ⟨k, rfl, hk⟩ := hk4
        rw [at_getJ hk.1, Option.bind_some, app_ok (by simp; omega), Option.bind_some, Int.toNat_natCast, w64_id (by omega) (by omega)]
        refine wp_some ⟨⟨i + 1, by simp only; omega, by omega, by simp; omega, ?_, hok.set hl hk, fun j hj => ?_⟩, by simp only; omega⟩
        · simp only [run]
          rw [run_app (by omega), ← hM]
          congr 1
          rw [← ho, getD_last]; rfl
        · simp only
          rcases Nat.lt_or_ge j i with h3 | h3
          · rw [getD_old (by omega), run_app (by omega)]; exact hg j h3
          · obtain rfl : j = i := by omega
            rw [run_app (by omega), ← hM]
            have : (out ++ [(k : Int)]).getD j 0 = (k : Int) := by rw [← ho, getD_last]
            rw [this]
            exact ⟨by omega, hk⟩
    · obtain rfl : i = s.length := by omega
      exact wp_some (wp_some ⟨ho, hg⟩)
  exact key
end
end Go.Vs.G

namespace Go.Vs.G
open Go Go.Vs

theorem ofNat8 (n : Nat) : (UInt8.ofNat n).toNat = n % 256 := by simp
def lett (l : List UInt8) : Prop := ∀ c ∈ l, 97 ≤ c.toNat ∧ c.toNat ≤ 122
theorem isLetters_ok {l : List UInt8} {n : Int} (h : lett l) (h1 : 1 ≤ l.length) (h2 : (l.length : Int) ≤ n) (h3 : l.length < 9223372036854775807) : impl_isLetters l n = some true := by
  refine eq_of_wp ?_
  unfold impl_isLetters
  refine wp_loop (fun t : Int => ∃ k : Nat, t = (k : Int) ∧ k ≤ l.length) (fun t => (l.length - t).toNat) ⟨0, rfl, by omega⟩ (by omega) ?_
  rintro i ⟨k, rfl, hk⟩
  refine wp_ite (fun h4 => ?_) (fun h4 => ?_)
  · have hk2 : k < l.length := by omega
    have hc := h _ (List.getElem_mem hk2)
    rw [at_of hk2]
    simp only [Option.bind_some]
    rw [if_neg (by omega)]
    simp only [Option.bind_some]
    rw [if_neg (by simp; omega), w64_succ hk2 h3]
    exact wp_some ⟨⟨k + 1, rfl, by omega⟩, by omega⟩
  · refine wp_some ?_
    rw [if_pos (by omega)]
    exact wp_some (by simp [h2])
theorem getD_mem {d : List UInt8} {i : Nat} (h : i < d.length) : d.getD i 0 ∈ d := by
  rw [List.getD_eq_getElem?_getD, List.getElem?_eq_getElem h]; exact List.getElem_mem h
theorem at_getD {d : List UInt8} {i : Nat} (h : i < d.length) : at? d (i : Int) = some (d.getD i 0) := by
  rw [at_of h, List.getD_eq_getElem?_getD, List.getElem?_eq_getElem h]; rfl
/- the reference's -/
end Go.Vs.G

namespace Go.Vs.G
open Go Go.Vs

/-- a showing as it is drawn -/
def shw (s : List UInt8) : Prop := lett s ∧ s.length ≤ 40
theorem shw.pos {s : List UInt8} (h : shw s) : ∀ i, i < s.length → 0 < ltr s i := fun i hi => by
  have := h.1 _ (getD_mem hi)
  unfold ltr; omega
def okp (n p : Nat) (pl : List Int) : Prop := pl.length = n ∧ ∀ i, i < n → 0 ≤ pl.getD i 0 ∧ pl.getD i 0 < (p : Int)
theorem GPlan.ok {s : List UInt8} {p : Nat} {pl : List Int} (h : GPlan s p pl) : okp s.length p pl := ⟨h.1, fun i hi => by
  have := h.2 i hi
  have := this.2.1
  rw [run_len] at this
  omega⟩
theorem ldc_bd (s : List UInt8) (p : Nat) (pl : List Int) : ∀ i, 0 ≤ ldc s p pl i ∧ ldc s p pl i ≤ (i : Int)
  | 0 => by simp [ldc]
  | i + 1 => by
    have := ldc_bd s p pl i
    simp only [ldc]
    split <;> omega
section
variable {s : List UInt8} (h : shw s) {p : Nat} (hp : 1 ≤ p ∧ p ≤ 6)
include h hp
theorem showingCode_eq : impl_showingCode s (p : Int) = some 0 := by
  have : impl_ValidShowing s = some true := by
    unfold impl_ValidShowing
    cases hs : s with
    | nil => rfl
    | cons c t =>
      have := isLetters_ok (l := s) (n := 40) h.1 (by rw [hs]; simp) (by have := h.2; omega) (by have := h.2; omega)
      rw [hs] at this
      rw [this]; rfl
  unfold impl_showingCode
  rw [this, Option.bind_some, if_pos rfl, within_eqR, decide_eq_true (by omega)]
  rfl
theorem l20Code_eq : spec_l20Code s (p : Int) = some 0 := by
  have h2 := h.2
  have : spec_l20Ok s = some true := by
    unfold spec_l20Ok
    refine eq_of_wp ?_
    refine wp_cnt (fun k => (k : Int)) s.length rfl (by omega) (fun k hk => ?_) (b := ()) ?_ ?_
    · have := h.1 _ (getD_mem hk)
      rw [if_pos (by omega), at_getD hk, Option.bind_some, if_neg (by omega), Option.bind_some, decide_eq_false (by omega), Option.bind_some, if_neg (by simp), w64_id (by omega) (by omega)]
      rfl
    · rw [if_neg (by omega)]
    · exact wp_some (decide_eq_true (by omega))
  unfold spec_l20Code
  rw [this, Option.bind_some, if_pos rfl, l00In_eqB, decide_eq_true (by omega)]
  rfl
theorem loadsOf_eq {pl : List Int} (hv : okp s.length p pl) : impl_loadsOf s (p : Int) pl = some (ldc s p pl s.length) := by
  have h2 := h.2
  obtain ⟨v1, v2⟩ := hv
  unfold impl_loadsOf
  rw [mk_ok (by omega) (by omega), Option.bind_some, show List.replicate ((p : Int)).toNat (0 : Int) = run s p pl 0 by rw [Int.toNat_natCast]; rfl]
  refine eq_of_wp ?_
  refine wp_cnt (fun k => (run s p pl k, ldc s p pl k, (k : Int))) s.length rfl (by omega) (fun k hk => ?_) (b := ldc s p pl s.length) ?_ (wp_some rfl)
  · have hb := v2 k hk
    have hl := run_len s p pl k
    have hd := ldc_bd s p pl k
    obtain ⟨c, hc, hcl⟩ := at_ltr hk
    have ha : at? (run s p pl k) (pl.getD k 0) = some ((run s p pl k).getD (pl.getD k 0).toNat 0) := by
      have := at_getJ (l := run s p pl k) (k := (pl.getD k 0).toNat) (by omega)
      rwa [show (((pl.getD k 0).toNat : Nat) : Int) = pl.getD k 0 by omega] at this
    simp only
    rw [if_pos (by omega), at_getJ (by omega), Option.bind_some, ha, hc]
    simp only [Option.bind_some, hcl]
    rw [w64_id (n := ldc s p pl k + 1) (by omega) (by omega), w64_id (n := (k : Int) + 1) (by omega) (by omega)]
    by_cases he : (run s p pl k).getD (pl.getD k 0).toNat 0 = (ltr s k : Int)
    · rw [if_pos he]
      simp only [run, ldc]
      rw [if_pos he, Int.add_zero]
      have : (run s p pl k).set (pl.getD k 0).toNat (ltr s k : Int) = run s p pl k := by
        have hlt : (pl.getD k 0).toNat < (run s p pl k).length := by omega
        generalize (pl.getD k 0).toNat = j at he hlt ⊢
        rw [← he, List.getD_eq_getElem?_getD, List.getElem?_eq_getElem hlt]
        exact List.set_getElem_self _
      rw [this]; rfl
    · rw [if_neg he]
      simp only [run, ldc]
      rw [if_neg he]; rfl
  · simp only; rw [if_neg (by omega)]
/-- the best plan, and what it loads -/
theorem best_ok : ∃ pl, GPlan s p pl ∧ impl_BestLoading s (p : Int) = some (pl, 0) ∧ impl_FewestLoads s (p : Int) = some (ldc s p pl s.length, 0) ∧ impl_bestLoading s (p : Int) = some pl := by
  have h2 := h.2
  obtain ⟨pl, h3, h4⟩ := bestLoading_ok h.pos (by omega) (p := p) (by omega)
  refine ⟨pl, h4, ?_, ?_, h3⟩
  · unfold impl_BestLoading
    rw [showingCode_eq h hp, Option.bind_some, if_pos rfl, h3]; rfl
  · unfold impl_FewestLoads
    rw [showingCode_eq h hp, Option.bind_some, if_pos rfl, h3, Option.bind_some, loadsOf_eq h hp h4.ok]; rfl
end
theorem A2Showing_ok {code : List Int} (hc : okL (okI .u8) code) (hl : code.length ≤ 1000000) : wp (spec_A2Showing code) (fun s => lett s ∧ s.length ≤ 19) := by
  unfold spec_A2Showing spec_l20Draw
  refine wp_from hc hl fun s hs => ?_
  rw [Option.bind_assoc]
  refine wp_pick hs (by omega) fun n s1 n0 n1 h1 => ?_
  simp only
  rw [Option.bind_assoc]
  refine wp_pick h1 (by omega) fun m s2 m0 m1 h2 => ?_
  simp only
  rw [w64_id (n := 2 + n) (by omega) (by omega)]
  refine wp_seq (P := fun r : List UInt8 × GL00Src => lett r.1 ∧ r.1.length ≤ 19) ?_ fun r hr => wp_some hr
  refine wp_loop (fun t : GL00Src × List Int × Int => SrcOk (10 + 2 * (m - t.2.2)) t.1 ∧ 0 ≤ t.2.2 ∧ (t.2.1.length : Int) = m - t.2.2 ∧ ∀ x, x ∈ t.2.1 → 97 ≤ x ∧ x ≤ 122) (fun t => t.2.2.toNat)
    ⟨h2.mono (by simp only; omega), m0, by simp, fun x hx => by simp at hx⟩ (by simp only; omega) ?_
  rintro ⟨s3, out, k⟩ ⟨q1, q2, q3, q4⟩
  simp only at q1 q2 q3 q4 ⊢
  refine wp_ite (fun hk => wp_pick q1 (by omega) fun v s4 v0 v1 h4 => ?_) (fun hk => wp_some (wp_some ⟨?_, ?_⟩))
  · simp only
    rw [w64_id (n := 97 + v) (by omega) (by omega), w64_id (n := k - 1) (by omega) (by omega), wu8_small (by omega) (by omega)]
    refine wp_app (by simp; omega) (wp_some ⟨⟨h4.mono (by simp only; omega), by simp only; omega, by simp; omega, fun x hx => ?_⟩, by simp only; omega⟩)
    rcases List.mem_append.1 hx with hx | hx
    · exact q4 x hx
    · rw [List.mem_singleton.1 hx]; omega
  · intro c hc
    unfold b2s at hc
    obtain ⟨x, hx, rfl⟩ := List.mem_map.1 hc
    have := q4 x hx
    rw [ofNat8]; omega
  · simp only [b2s, List.length_map]; omega
  where
  wu8_small {n : Int} (h0 : 0 ≤ n) (h1 : n < 256) : IntKind.wrap .u8 n = n := by rw [w8_def]; omega
end Go.Vs.G

namespace Go.Vs.G
open Go Go.Vs

/-- how often something happened -/
def cnt (la : Nat → Bool) : Nat → Int
  | 0 => 0
  | i + 1 => cnt la i + b2i (la i)
theorem cnt_le {a b : Nat → Bool} : ∀ {n : Nat}, (∀ i, i < n → a i = true → b i = true) → cnt a n ≤ cnt b n
  | 0, _ => by simp [cnt]
  | n + 1, h => by
    have ih := cnt_le (a := a) (b := b) (n := n) fun i hi => h i (by omega)
    have h1 := h n (by omega)
    simp only [cnt, b2i]
    cases ha : a n with
    | true => rw [h1 ha]; simp only [if_true]; omega
    | false => simp only [Bool.false_eq_true, if_false]; split <;> omega
theorem cnt_congr {a b : Nat → Bool} : ∀ {n : Nat}, (∀ i, i < n → a i = b i) → cnt a n = cnt b n
  | 0, _ => rfl
  | n + 1, h => by simp only [cnt]; rw [cnt_congr (a := a) (b := b) (n := n) fun i hi => h i (by omega), h n (by omega)]
theorem cnt_bd (a : Nat → Bool) : ∀ n, 0 ≤ cnt a n ∧ cnt a n ≤ (n : Int)
  | 0 => by simp [cnt]
  | n + 1 => by
    have := cnt_bd a n
    simp only [cnt, b2i]
    split <;> omega
section
variable {s : List UInt8} (hs : ∀ i, i < s.length → 0 < ltr s i) {p : Nat} {pl : List Int} (hg : GPlan s p pl)
include hs hg
theorem adv_dom {A : Nat → Nat → Bool} {la : Nat → Bool} (h0 : ∀ v, A 0 v = false)
    (h1 : ∀ i, i < s.length → (∀ v, A (i + 1) v = true → A i v = true ∨ v = ltr s i) ∧ A (i + 1) (ltr s i) = true ∧ cn (A (i + 1)) NB ≤ p ∧ (la i = false → A i (ltr s i) = true)) :
    ∀ {i : Nat}, i ≤ s.length → ∀ x, (cc s (A i) i x : Int) ≤ cc s (St (run s p pl i)) i x + (cnt la i - ldc s p pl i)
  | 0, _, x => by
    have : cc s (A 0) 0 x = 0 := cn_zero fun v _ => by rw [h0 v]; rfl
    rw [this]
    simp only [ldc, cnt]; omega
  | i + 1, hi, x => by
    have hi' : i < s.length := by omega
    have ih := adv_dom h0 h1 (i := i) (by omega)
    have hM := run_ok hs hg (i := i) (by omega)
    have hl := hs i hi'
    obtain ⟨a1, a2, a3, a4⟩ := h1 i hi'
    have gs := gstep hM hl (hg.2 i hi').2
    rw [run_len] at gs
    have := dom_step (A' := A (i + 1)) (la := la i) hi' ih a1 a2 a3 a4 gs x
    have e1 : ldc s p pl (i + 1) = ldc s p pl i + b2i (decide ((run s p pl i).getD (pl.getD i 0).toNat 0 ≠ (ltr s i : Int))) := by
      simp only [ldc, b2i]
      by_cases he : (run s p pl i).getD (pl.getD i 0).toNat 0 = (ltr s i : Int)
      · rw [if_pos he, decide_eq_false (by simp only [ne_eq, Decidable.not_not]; exact he)]; rfl
      · rw [if_neg he, decide_eq_true he]; rfl
    rw [e1]
    simp only [run, cnt] at this ⊢
    omega
theorem adv_le {A : Nat → Nat → Bool} {la : Nat → Bool} (h0 : ∀ v, A 0 v = false)
    (h1 : ∀ i, i < s.length → (∀ v, A (i + 1) v = true → A i v = true ∨ v = ltr s i) ∧ A (i + 1) (ltr s i) = true ∧ cn (A (i + 1)) NB ≤ p ∧ (la i = false → A i (ltr s i) = true)) :
    ldc s p pl s.length ≤ cnt la s.length := by
  have := adv_dom hs hg h0 h1 (Nat.le_refl _) 0
  rw [show ∀ A, cc s A s.length 0 = 0 from fun A => cn_zero fun v _ => by rw [occ_le (by omega)]; simp, show ∀ A, cc s A s.length 0 = 0 from fun A => cn_zero fun v _ => by rw [occ_le (by omega)]; simp] at this
  omega
end

/-- the order behind i showings -/
def ost (s : List UInt8) (p : Nat) (ag : Bool) : Nat → List Int
  | 0 => []
  | i + 1 => if (ltr s i : Int) ∈ ost s p ag i then (if ag = true then (ost s p ag i).filter (fun m => decide (m ≠ (ltr s i : Int))) ++ [(ltr s i : Int)] else ost s p ag i)
      else (if (ost s p ag i).length + 1 > p then (ost s p ag i ++ [(ltr s i : Int)]).tail else ost s p ag i ++ [(ltr s i : Int)])
/-- is a slide loaded? -/
def oml (s : List UInt8) (p : Nat) (ag : Bool) (i : Nat) : Bool := decide ((ltr s i : Int) ∉ ost s p ag i)
theorem ost_nodup (s : List UInt8) (p : Nat) (ag : Bool) : ∀ i, (ost s p ag i).Nodup
  | 0 => List.nodup_nil
  | i + 1 => by
    have ih := ost_nodup s p ag i
    simp only [ost]
    split
    · split
      · refine List.nodup_append.2 ⟨ih.filter _, by simp, fun a ha b hb => ?_⟩
        simp only [List.mem_filter, decide_eq_true_eq] at ha
        simp only [List.mem_singleton] at hb
        rw [hb]; exact ha.2
      · exact ih
    · rename_i hn
      have h2 : (ost s p ag i ++ [(ltr s i : Int)]).Nodup := List.nodup_append.2 ⟨ih, by simp, fun a ha b hb => by
        simp only [List.mem_singleton] at hb
        rw [hb]; rintro rfl; exact hn ha⟩
      split
      · exact h2.sublist (List.tail_sublist _)
      · exact h2
theorem ost_len {s : List UInt8} {p : Nat} (hp : 1 ≤ p) {ag : Bool} : ∀ i, (ost s p ag i).length ≤ p
  | 0 => by simp [ost]
  | i + 1 => by
    have ih := ost_len hp (s := s) (ag := ag) i
    simp only [ost]
    split
    · rename_i hm
      split
      · have h1 : ((ost s p ag i).filter (fun m => decide (m ≠ (ltr s i : Int)))).length < (ost s p ag i).length := by
          refine List.length_filter_lt_length_iff_exists.2 ⟨_, hm, by simp⟩
        simp only [List.length_append, List.length_singleton]; omega
      · exact ih
    · split
      · simp only [List.length_tail, List.length_append, List.length_singleton]; omega
      · simp only [List.length_append, List.length_singleton]; omega
theorem ost_mem {s : List UInt8} {p : Nat} {ag : Bool} {i : Nat} {m : Int} (h : m ∈ ost s p ag (i + 1)) : m ∈ ost s p ag i ∨ m = (ltr s i : Int) := by
  simp only [ost] at h
  split at h
  · split at h
    · rcases List.mem_append.1 h with h | h
      · exact .inl (List.mem_filter.1 h).1
      · exact .inr (by simpa using h)
    · exact .inl h
  · have h2 : m ∈ ost s p ag i ++ [(ltr s i : Int)] := by
      split at h
      · exact List.mem_of_mem_tail h
      · exact h
    rcases List.mem_append.1 h2 with h | h
    · exact .inl h
    · exact .inr (by simpa using h)
theorem ost_self {s : List UInt8} {p : Nat} (hp : 1 ≤ p) {ag : Bool} {i : Nat} : (ltr s i : Int) ∈ ost s p ag (i + 1) := by
  simp only [ost]
  split
  · rename_i hm
    split
    · simp
    · exact hm
  · split
    · rename_i hlen
      have : ost s p ag i ≠ [] := by rintro h; rw [h] at hlen; simp at hlen; omega
      obtain ⟨a, l, hl⟩ := List.exists_cons_of_ne_nil this
      rw [hl]; simp
    · simp
section
variable {s : List UInt8} (h : shw s) {p : Nat} (hp : 1 ≤ p ∧ p ≤ 6)
include h hp
theorem rule_ge {pl : List Int} (hg : GPlan s p pl) (ag : Bool) : ldc s p pl s.length ≤ cnt (oml s p ag) s.length := by
  refine adv_le h.pos hg (A := fun i => St (ost s p ag i)) (fun v => by simp [St, ost]) fun i hi => ⟨fun v hv => ?_, ?_, ?_, fun hf => ?_⟩
  · rw [St_iff] at hv ⊢
    rcases ost_mem hv.2 with h1 | h1
    · exact .inl ⟨hv.1, h1⟩
    · right; omega
  · exact St_iff.2 ⟨h.pos i hi, ost_self hp.1⟩
  · have := card_le (ost s p ag (i + 1))
    have := ost_len hp.1 (s := s) (ag := ag) (i + 1)
    omega
  · refine St_iff.2 ⟨h.pos i hi, ?_⟩
    simpa [oml] using hf
/-- the program's loop -/
theorem ordered_eq (ag : Bool) : impl_loadsOrdered s (p : Int) ag = some (cnt (oml s p ag) s.length) := by
  refine eq_of_wp ?_
  unfold impl_loadsOrdered
  have h2 := h.2
  refine wp_cnt (fun k => (ost s p ag k, cnt (oml s p ag) k, (k : Int))) s.length rfl (by omega) (fun i hi => ?_) (b := cnt (oml s p ag) s.length) ?_ (wp_some rfl)
  · obtain ⟨c, hc, hcl⟩ := at_ltr hi
    have hlen := ost_len hp.1 (s := s) (ag := ag) i
    obtain ⟨r, hr, hr2⟩ := idxM (M := ost s p ag i) (by omega) (ltr s i : Int)
    have hcb := cnt_bd (oml s p ag) i
    simp only
    rw [if_pos (by omega), hc, Option.bind_some, hcl, hr, Option.bind_some]
    rcases hr2 with ⟨rfl, hn⟩ | ⟨k, rfl, hk, hke⟩
    · rw [if_pos (by omega), Option.bind_some, hcl, app_ok (by simp; omega), Option.bind_some]
      have hoc : cnt (oml s p ag) (i + 1) = cnt (oml s p ag) i + 1 := by
        have e : oml s p ag i = true := decide_eq_true hn
        simp only [cnt, b2i, e, if_true]
      by_cases hgt : (ost s p ag i).length + 1 > p
      · rw [if_pos (by simp; omega)]
        have : tail? (ost s p ag i ++ [(ltr s i : Int)]) 1 = some ((ost s p ag i ++ [(ltr s i : Int)]).drop 1) := by
          unfold tail?
          rw [if_pos (by simp; omega)]; rfl
        rw [this, Option.bind_some, w64_id (by omega) (by omega), w64_id (by omega) (by omega), hoc]
        simp only [ost]
        rw [if_neg hn, if_pos hgt]
        simp
      · rw [if_neg (by simp; omega), w64_id (by omega) (by omega), w64_id (by omega) (by omega), hoc]
        simp only [ost]
        rw [if_neg hn, if_neg hgt]
        simp
    · rw [if_neg (by omega)]
      have hm : (ltr s i : Int) ∈ ost s p ag i := mem_getD.2 ⟨k, hk, hke⟩
      have hoc : cnt (oml s p ag) (i + 1) = cnt (oml s p ag) i := by
        have e : oml s p ag i = false := decide_eq_false (by simpa using hm)
        simp [cnt, b2i, e]
      cases hag : ag with
      | false =>
        subst hag
        simp only [Bool.false_eq_true, if_false]
        rw [w64_id (by omega) (by omega), hoc]
        simp only [ost]
        rw [if_pos hm]
        simp
      | true =>
        subst hag
        simp only [if_true]
        have hdel : slices_Delete_byte (ost s p true i) (k : Int) (w64 ((k : Int) + 1)) = some ((ost s p true i).filter (fun m => decide (m ≠ (ltr s i : Int)))) := by
          unfold slices_Delete_byte
          rw [w64_id (by omega) (by omega), if_pos (by omega)]
          congr 1
          have hnd := ost_nodup s p true i
          rw [show ((k : Int)).toNat = k by omega, show ((k : Int) + 1).toNat = k + 1 by omega]
          have e1 : ost s p true i = (ost s p true i).take k ++ (ltr s i : Int) :: (ost s p true i).drop (k + 1) := by
            rw [List.getD_eq_getElem?_getD, List.getElem?_eq_getElem hk] at hke
            simp only [Option.getD_some] at hke
            rw [← hke, ← List.drop_eq_getElem_cons hk, List.take_append_drop]
          have hnd2 := hnd
          rw [e1] at hnd2
          obtain ⟨n1, n2, n3⟩ := List.nodup_append.1 hnd2
          obtain ⟨n4, n5⟩ := List.nodup_cons.1 n2
          conv => rhs; rw [e1]
          rw [List.filter_append, List.filter_cons]
          simp only [ne_eq, not_true, decide_false, Bool.false_eq_true, if_false]
          rw [List.filter_eq_self.2 fun a ha => by simp; rintro rfl; exact n3 _ ha _ (by simp) rfl, List.filter_eq_self.2 fun a ha => by simp; rintro rfl; exact n4 ha]
        rw [hdel, Option.bind_some, Option.bind_some, hcl, app_ok (by
          have := List.length_filter_le (fun m => decide (m ≠ (ltr s i : Int))) (ost s p true i)
          simp only [List.length_singleton]; omega), Option.bind_some, w64_id (by omega) (by omega), hoc]
        simp only [ost]
        rw [if_pos hm]
        simp
  · simp only
    rw [if_neg (by omega)]
end
/-- has a letter been shown before i? -/
def seen (s : List UInt8) (i : Nat) (v : Nat) : Bool := (List.range i).any fun a => ltr s a == v
theorem seen_iff {s : List UInt8} {i v : Nat} : seen s i v = true ↔ ∃ a, a < i ∧ ltr s a = v := by unfold seen; simp
/-- the different letters among the first i -/
def kinds (s : List UInt8) : Nat → Int := cnt fun i => !seen s i (ltr s i)
/-- with a place for each -/
theorem ost_all {s : List UInt8} {p : Nat} {ag : Bool} : ∀ {i : Nat}, kinds s i ≤ (p : Int) → (∀ m, m ∈ ost s p ag i ↔ ∃ a, a < i ∧ m = (ltr s a : Int)) ∧ ((ost s p ag i).length : Int) = kinds s i ∧ cnt (oml s p ag) i = kinds s i
  | 0, _ => by simp [ost, kinds, cnt]
  | i + 1, hk => by
    have hmono : kinds s i ≤ kinds s (i + 1) := by
      unfold kinds; simp only [cnt, b2i]; split <;> omega
    obtain ⟨g1, g2, g3⟩ := ost_all (s := s) (p := p) (ag := ag) (i := i) (by omega)
    have hin : (ltr s i : Int) ∈ ost s p ag i ↔ seen s i (ltr s i) = true := by
      rw [g1, seen_iff]
      constructor
      · rintro ⟨a, h1, h2⟩; exact ⟨a, h1, by omega⟩
      · rintro ⟨a, h1, h2⟩; exact ⟨a, h1, by rw [h2]⟩
    have hsn : ∀ (l : List Int), (∀ m, m ∈ l ↔ m ∈ ost s p ag i ∨ m = (ltr s i : Int)) → ∀ m, m ∈ l ↔ ∃ a, a < i + 1 ∧ m = (ltr s a : Int) := by
      intro l hl m
      rw [hl, g1]
      constructor
      · rintro (⟨a, h1, h2⟩ | h)
        · exact ⟨a, by omega, h2⟩
        · exact ⟨i, by omega, h⟩
      · rintro ⟨a, h1, h2⟩
        by_cases h : a = i
        · subst h; exact .inr h2
        · exact .inl ⟨a, by omega, h2⟩
    by_cases hm : (ltr s i : Int) ∈ ost s p ag i
    · have hse := hin.1 hm
      have ek : kinds s (i + 1) = kinds s i := by
        have : kinds s (i + 1) = kinds s i + b2i (!seen s i (ltr s i)) := rfl
        rw [this, hse]; simp [b2i]
      have eo : oml s p ag i = false := decide_eq_false (by simpa using hm)
      have ec : cnt (oml s p ag) (i + 1) = cnt (oml s p ag) i := by simp [cnt, b2i, eo]
      rw [ek, ec]
      simp only [ost]
      rw [if_pos hm]
      split
      · have hnd := ost_nodup s p ag i
        refine ⟨hsn _ fun m => ?_, ?_, g3⟩
        · simp only [List.mem_append, List.mem_filter, decide_eq_true_eq, List.mem_singleton]
          constructor
          · rintro (h | h)
            · exact .inl h.1
            · exact .inr h
          · rintro (h | h)
            · by_cases h2 : m = (ltr s i : Int)
              · exact .inr h2
              · exact .inl ⟨h, h2⟩
            · exact .inr h
        · have e1 : ((ost s p ag i).filter (fun m => decide (m ≠ (ltr s i : Int)))).length + 1 = (ost s p ag i).length := by
            obtain ⟨k, hk, hke⟩ := List.mem_iff_getElem.1 hm
            have e2 : ost s p ag i = (ost s p ag i).take k ++ (ltr s i : Int) :: (ost s p ag i).drop (k + 1) := by
              conv => lhs; rw [← List.take_append_drop k (ost s p ag i), List.drop_eq_getElem_cons hk, hke]
            have hnd2 := hnd
            rw [e2] at hnd2
            obtain ⟨n1, n2, n3⟩ := List.nodup_append.1 hnd2
            obtain ⟨n4, n5⟩ := List.nodup_cons.1 n2
            have e3 : (ost s p ag i).filter (fun m => decide (m ≠ (ltr s i : Int))) = (ost s p ag i).take k ++ (ost s p ag i).drop (k + 1) := by
              conv => lhs; rw [e2]
              rw [List.filter_append, List.filter_cons]
              simp only [ne_eq, not_true, decide_false, Bool.false_eq_true, if_false]
              rw [List.filter_eq_self.2 fun a ha => by simp; rintro rfl; exact n3 _ ha _ (by simp) rfl, List.filter_eq_self.2 fun a ha => by simp; rintro rfl; exact n4 ha]
            rw [e3]
            simp only [List.length_append, List.length_take, List.length_drop]; omega
          simp only [List.length_append, List.length_singleton]; omega
      · exact ⟨hsn _ fun m => ⟨.inl, fun h => h.elim id (fun h => by rw [h]; exact hm)⟩, g2, g3⟩
    · have hse : seen s i (ltr s i) = false := by rw [Bool.eq_false_iff]; exact fun h => hm (hin.2 h)
      have ek : kinds s (i + 1) = kinds s i + 1 := by
        have : kinds s (i + 1) = kinds s i + b2i (!seen s i (ltr s i)) := rfl
        rw [this, hse]; simp [b2i]
      have eo : oml s p ag i = true := decide_eq_true hm
      have ec : cnt (oml s p ag) (i + 1) = cnt (oml s p ag) i + 1 := by simp [cnt, b2i, eo]
      rw [ec]
      simp only [ost]
      rw [if_neg hm, if_neg (by omega)]
      refine ⟨hsn _ fun m => by simp, ?_, by omega⟩
      simp only [List.length_append, List.length_singleton]; omega
/-- the letters by when they were shown last -/
def rec (s : List UInt8) : Nat → List Int
  | 0 => []
  | i + 1 => (rec s i).filter (fun m => decide (m ≠ (ltr s i : Int))) ++ [(ltr s i : Int)]
theorem rec_nodup (s : List UInt8) : ∀ i, (rec s i).Nodup
  | 0 => List.nodup_nil
  | i + 1 => by
    refine List.nodup_append.2 ⟨(rec_nodup s i).filter _, by simp, fun a ha b hb => ?_⟩
    simp only [List.mem_filter, decide_eq_true_eq] at ha
    simp only [List.mem_singleton] at hb
    rw [hb]; exact ha.2
def lastN (p : Nat) (l : List Int) : List Int := l.drop (l.length - p)
theorem lru_eq {s : List UInt8} {p : Nat} (hp : 1 ≤ p) : ∀ i, ost s p true i = lastN p (rec s i)
  | 0 => by simp [ost, rec, lastN]
  | i + 1 => by
    have ih := lru_eq hp (s := s) i
    have hnd := rec_nodup s i
    simp only [ost, rec]
    rw [ih]
    obtain ⟨A, B, hAB, hB, hcase⟩ : ∃ A B, rec s i = A ++ B ∧ lastN p (rec s i) = B ∧ (B.length = p ∨ (A = [] ∧ B.length < p)) := by
      refine ⟨(rec s i).take ((rec s i).length - p), lastN p (rec s i), (List.take_append_drop _ _).symm, rfl, ?_⟩
      unfold lastN
      rw [List.length_drop]
      by_cases h : p ≤ (rec s i).length
      · left; omega
      · right; refine ⟨?_, by omega⟩
        rw [show (rec s i).length - p = 0 by omega]; rfl
    rw [hB, hAB]
    rw [hAB] at hnd
    obtain ⟨n1, n2, n3⟩ := List.nodup_append.1 hnd
    rw [List.filter_append]
    by_cases hm : (ltr s i : Int) ∈ B
    · rw [if_pos hm, if_pos trivial]
      have hA : A.filter (fun m => decide (m ≠ (ltr s i : Int))) = A := List.filter_eq_self.2 fun a ha => by simp; rintro rfl; exact n3 _ ha _ hm rfl
      rw [hA]
      have hlen : (B.filter (fun m => decide (m ≠ (ltr s i : Int)))).length + 1 = B.length := by
        obtain ⟨k, hk, hke⟩ := List.mem_iff_getElem.1 hm
        have e2 : B = B.take k ++ (ltr s i : Int) :: B.drop (k + 1) := by
          conv => lhs; rw [← List.take_append_drop k B, List.drop_eq_getElem_cons hk, hke]
        have hnd2 := n2
        rw [e2] at hnd2
        obtain ⟨m1, m2, m3⟩ := List.nodup_append.1 hnd2
        obtain ⟨m4, m5⟩ := List.nodup_cons.1 m2
        have e3 : B.filter (fun m => decide (m ≠ (ltr s i : Int))) = B.take k ++ B.drop (k + 1) := by
          conv => lhs; rw [e2]
          rw [List.filter_append, List.filter_cons]
          simp only [ne_eq, not_true, decide_false, Bool.false_eq_true, if_false]
          rw [List.filter_eq_self.2 fun a ha => by simp; rintro rfl; exact m3 _ ha _ (by simp) rfl, List.filter_eq_self.2 fun a ha => by simp; rintro rfl; exact m4 ha]
        rw [e3]
        simp only [List.length_append, List.length_take, List.length_drop]; omega
      unfold lastN
      rcases hcase with hc | ⟨rfl, hc⟩
      · rw [List.append_assoc, List.drop_append, List.drop_of_length_le (by simp only [List.length_append, List.length_singleton]; omega)]
        rw [show (A ++ (B.filter (fun m => decide (m ≠ (ltr s i : Int))) ++ [(ltr s i : Int)])).length - p - A.length = 0 by simp only [List.length_append, List.length_singleton]; omega]
        rfl
      · rw [show (([] : List Int) ++ B.filter (fun m => decide (m ≠ (ltr s i : Int))) ++ [(ltr s i : Int)]).length - p = 0 by simp only [List.length_append, List.length_singleton, List.length_nil]; omega]
        rfl
    · rw [if_neg hm]
      have hBf : B.filter (fun m => decide (m ≠ (ltr s i : Int))) = B := List.filter_eq_self.2 fun a ha => by simp; rintro rfl; exact hm ha
      rw [hBf]
      unfold lastN
      rcases hcase with hc | ⟨rfl, hc⟩
      · rw [if_pos (by omega)]
        generalize A.filter (fun m => decide (m ≠ (ltr s i : Int))) = A'
        rw [List.append_assoc, List.drop_append, List.drop_of_length_le (by simp only [List.length_append, List.length_singleton]; omega)]
        rw [show (A' ++ (B ++ [(ltr s i : Int)])).length - p - A'.length = 1 by simp only [List.length_append, List.length_singleton]; omega]
        rw [List.nil_append, List.drop_one]
      · rw [if_neg (by omega)]
        simp only [List.filter_nil, List.nil_append]
        rw [show (B ++ [(ltr s i : Int)]).length - p = 0 by simp only [List.length_append, List.length_singleton]; omega]
        rfl
theorem lru_le {s : List UInt8} {p q : Nat} (hp : 1 ≤ p) (hpq : p ≤ q) (n : Nat) : cnt (oml s q true) n ≤ cnt (oml s p true) n := by
  refine cnt_le fun i _ h => ?_
  simp only [oml, decide_eq_true_eq] at h ⊢
  intro hm
  apply h
  rw [lru_eq (by omega)]
  rw [lru_eq hp] at hm
  unfold lastN at hm ⊢
  have : (rec s i).drop ((rec s i).length - p) = ((rec s i).drop ((rec s i).length - q)).drop (((rec s i).length - p) - ((rec s i).length - q)) := by
    rw [List.drop_drop]; congr 1; omega
  rw [this] at hm
  exact List.mem_of_mem_drop hm
/-- with one place each change is a load -/
def chg1 (s : List UInt8) (i : Nat) : Bool := decide (i = 0) || decide (ltr s i ≠ ltr s (i - 1))
theorem one_place (s : List UInt8) (hs : ∀ i, i < s.length → 0 < ltr s i) : ∀ {i : Nat}, i ≤ s.length → ost s 1 false i = if i = 0 then [] else [(ltr s (i - 1) : Int)]
  | 0, _ => rfl
  | i + 1, hi => by
    have ih := one_place s hs (i := i) (by omega)
    simp only [ost]
    rw [ih, if_neg (by omega : ¬ i + 1 = 0), show i + 1 - 1 = i by omega]
    by_cases h0 : i = 0
    · subst h0; simp
    · rw [if_neg h0]
      by_cases he : (ltr s i : Int) = (ltr s (i - 1) : Int)
      · rw [if_pos (by rw [he]; simp), ← he]; rfl
      · rw [if_neg (by simpa using he)]; simp
theorem one_cnt {s : List UInt8} (hs : ∀ i, i < s.length → 0 < ltr s i) : cnt (oml s 1 false) s.length = cnt (chg1 s) s.length := by
  refine cnt_congr fun i hi => ?_
  unfold oml chg1
  rw [one_place s hs (by omega)]
  by_cases h0 : i = 0
  · subst h0; simp
  · rw [if_neg h0, Bool.eq_iff_iff]
    simp [h0]
    omega
end Go.Vs.G

namespace Go.Vs.G
open Go Go.Vs

section
variable {s : List UInt8} (h : shw s)
include h
theorem l20Ok_t : spec_l20Ok s = some true := by
  have := l20Code_eq h (p := 1) (by omega)
  unfold spec_l20Code at this
  cases hq : spec_l20Ok s with
  | none => rw [hq] at this; cases this
  | some b =>
    cases b with
    | true => rfl
    | false => rw [hq] at this; simp at this
theorem l20Next_eq {i : Nat} (hi : i < s.length) : ∃ r, spec_l20Next s (ltr s i : Int) 0 = some r ∧ (r = (i : Int) ↔ seen s i (ltr s i) = false) := by
  have h2 := h.2
  have key : wp (spec_l20Next s (ltr s i : Int) 0) (fun r => ∃ k : Nat, r = (k : Int) ∧ k < s.length ∧ ltr s k = ltr s i ∧ ∀ a, a < k → ltr s a ≠ ltr s i) := by
    unfold spec_l20Next
    refine wp_loop (fun t : Int => ∃ k : Nat, t = (k : Int) ∧ k ≤ i ∧ ∀ a, a < k → ltr s a ≠ ltr s i) (fun t => (s.length - t).toNat) ⟨0, rfl, by omega, fun a ha => by omega⟩ (by omega) ?_
    rintro t ⟨k, rfl, hk, hne⟩
    obtain ⟨c, hc, hcl⟩ := at_ltr (s := s) (i := k) (by omega)
    rw [if_pos (by omega), hc, Option.bind_some, hcl, Option.bind_some]
    by_cases he : (ltr s k : Int) = (ltr s i : Int)
    · rw [decide_eq_true he, if_neg (by simp)]
      exact wp_some (wp_some ⟨k, rfl, by omega, by omega, hne⟩)
    · rw [decide_eq_false he, if_pos (by simp), w64_id (by omega) (by omega)]
      have hki : k < i := by
        rcases Nat.lt_or_ge k i with h3 | h3
        · exact h3
        · have : k = i := by omega
          subst this; exact absurd rfl he
      refine wp_some ⟨⟨k + 1, rfl, by omega, fun a ha => ?_⟩, by omega⟩
      rcases Nat.lt_or_ge a k with h3 | h3
      · exact hne a h3
      · have : a = k := by omega
        subst this; omega
  obtain ⟨r, hr, k, rfl, k1, k2, k3⟩ := key
  refine ⟨_, hr, ?_⟩
  rw [Bool.eq_false_iff, ne_eq, seen_iff]
  constructor
  · intro e
    have : k = i := by omega
    subst this
    rintro ⟨a, h3, h4⟩
    exact k3 a h3 h4
  · intro hn
    rcases Nat.lt_trichotomy k i with h3 | h3 | h3
    · exact absurd ⟨k, h3, k2⟩ hn
    · rw [h3]
    · exact absurd rfl (k3 i h3)
theorem specSlidesIn_eq : spec_SlidesIn s = some (kinds s s.length, 0) := by
  have h2 := h.2
  refine eq_of_wp ?_
  unfold spec_SlidesIn
  rw [l20Ok_t h, Option.bind_some, if_pos rfl]
  refine wp_cnt (fun k => (kinds s k, (k : Int))) s.length rfl (by omega) (fun i hi => ?_) (b := kinds s s.length) ?_ (wp_some rfl)
  · obtain ⟨c, hc, hcl⟩ := at_ltr hi
    obtain ⟨r, hr, hr2⟩ := l20Next_eq h hi
    have hb := cnt_bd (fun i => !seen s i (ltr s i)) i
    have hb' : 0 ≤ kinds s i ∧ kinds s i ≤ (i : Int) := hb
    have es : kinds s (i + 1) = kinds s i + b2i (!seen s i (ltr s i)) := rfl
    simp only
    rw [if_pos (by omega), hc, Option.bind_some, hcl, hr, Option.bind_some, w64_id (by omega) (by omega), es]
    by_cases he : r = (i : Int)
    · rw [if_pos he, w64_id (by omega) (by omega), hr2.1 he]
      simp [b2i]
    · have : seen s i (ltr s i) = true := by
        cases hq : seen s i (ltr s i) with
        | true => rfl
        | false => exact absurd (hr2.2 hq) he
      rw [if_neg he, this, w64_id (by omega) (by omega)]
      simp [b2i]
  · simp only
    rw [if_neg (by omega)]
theorem Oldest_eq {p : Nat} (hp : 1 ≤ p ∧ p ≤ 6) : impl_LoadsOldest s (p : Int) = some (cnt (oml s p false) s.length, 0) := by
  unfold impl_LoadsOldest
  rw [showingCode_eq h hp, Option.bind_some, if_pos rfl, ordered_eq h hp]; rfl
theorem Longest_eq {p : Nat} (hp : 1 ≤ p ∧ p ≤ 6) : impl_LoadsLongest s (p : Int) = some (cnt (oml s p true) s.length, 0) := by
  unfold impl_LoadsLongest
  rw [showingCode_eq h hp, Option.bind_some, if_pos rfl, ordered_eq h hp]; rfl
end
theorem laws_FnLoadRules_true {code more : List Int} (hc : okL (okI .u8) code) (hm : okL (okI .u8) more) : laws_FnLoadRules code more = some true := by
  refine eq_of_wp ?_
  unfold laws_FnLoadRules
  obtain ⟨r, hr, hr2⟩ := a2Long_eq code more
  rw [hr, Option.bind_some]
  refine wp_ite (fun h => wp_some rfl) (fun hf => ?_)
  obtain ⟨l1, l2⟩ := hr2 (by simpa using hf)
  refine wp_seq (A2Showing_ok hc (by omega)) fun s hs => ?_
  have h : shw s := ⟨hs.1, by omega⟩
  have h2 := h.2
  obtain ⟨n, hn, n0, n1⟩ := a2At_ok hm l2 (i := 0) (n := 6) (by omega) (by omega)
  obtain ⟨p, hp⟩ : ∃ p : Nat, 1 + n = (p : Int) := ⟨(1 + n).toNat, by omega⟩
  have hp6 : 1 ≤ p ∧ p ≤ 6 := by omega
  obtain ⟨pl, g1, g2, g3, g4⟩ := best_ok h hp6
  obtain ⟨q, hq, hpq, hq6⟩ : ∃ q : Nat, imin 6 ((p : Int) + 1) = (q : Int) ∧ p ≤ q ∧ q ≤ 6 := ⟨(min 6 ((p : Int) + 1)).toNat, by rw [imin_def]; omega, by omega, by omega⟩
  have e1 : impl_LoadsOldest s 1 = some (cnt (oml s 1 false) s.length, 0) := Oldest_eq h (p := 1) (by omega)
  have b1 := rule_ge h hp6 g1 false
  have b2 := rule_ge h hp6 g1 true
  have b3 := lru_le (s := s) hp6.1 hpq s.length
  have c1 := cnt_bd (oml s p false) s.length
  have c2 := cnt_bd (oml s p true) s.length
  have k1 := fun hk : kinds s s.length ≤ (p : Int) => (ost_all (s := s) (p := p) (ag := false) hk).2.2
  have k2 := fun hk : kinds s s.length ≤ (p : Int) => (ost_all (s := s) (p := p) (ag := true) hk).2.2
  rw [hn, Option.bind_some, hp, w64_id (by omega) (by omega), g3, Option.bind_some, Oldest_eq h hp6, Option.bind_some, Longest_eq h hp6, Option.bind_some, specSlidesIn_eq h, Option.bind_some, e1, Option.bind_some,
    w64_id (by omega) (by omega), hq, Longest_eq h ⟨by omega, hq6⟩, Option.bind_some]
  simp only [if_true]
  rw [if_neg (by omega), if_neg (by omega), decide_eq_false (by omega), Option.bind_some, if_neg (by simp)]
  have e2 : ((if (p : Int) ≥ kinds s s.length then (if cnt (oml s p false) s.length = kinds s s.length then (some (!(decide (cnt (oml s p true) s.length = kinds s s.length)))) else some true) else some false) : Option Bool) = some false := by
    by_cases hk : (p : Int) ≥ kinds s s.length
    · rw [if_pos hk, if_pos (k1 hk), decide_eq_true (k2 hk)]; rfl
    · rw [if_neg hk]
  rw [e2, Option.bind_some, if_neg (by simp)]
  refine wp_cnt (fun k => (cnt (chg1 s) k, (k : Int))) s.length rfl (by omega) (fun i hi => ?_) (b := cnt (chg1 s) s.length) ?_ ?_
  · obtain ⟨c, hc2, hcl⟩ := at_ltr hi
    have hb := cnt_bd (chg1 s) i
    simp only
    rw [if_pos (by omega)]
    have e3 : ((if (i : Int) = 0 then (some true) else (at? s (i : Int)).bind fun c1 => (at? s (w64 ((i : Int) - 1))).bind fun c2 => some (!(decide ((c1.toNat : Int) = (c2.toNat : Int))))) : Option Bool) = some (chg1 s i) := by
      unfold chg1
      by_cases h0 : i = 0
      · subst h0; rfl
      · obtain ⟨d, hd, hdl⟩ := at_ltr (s := s) (i := i - 1) (by omega)
        rw [if_neg (by omega), hc2, Option.bind_some, w64_id (by omega) (by omega), show (i : Int) - 1 = ((i - 1 : Nat) : Int) by omega, hd, Option.bind_some, hcl, hdl, decide_eq_false h0, Bool.false_or]
        congr 1
        by_cases he : ltr s i = ltr s (i - 1)
        · rw [decide_eq_true (by omega), decide_eq_false (by simpa using he)]; rfl
        · rw [decide_eq_false (by omega), decide_eq_true (by simpa using he)]; rfl
    rw [e3, Option.bind_some]
    have ec : cnt (chg1 s) (i + 1) = cnt (chg1 s) i + b2i (chg1 s i) := rfl
    cases hq2 : chg1 s i with
    | true => rw [if_pos rfl, w64_id (by omega) (by omega), w64_id (by omega) (by omega), ec, hq2]; simp [b2i]
    | false => rw [if_neg (by simp), w64_id (by omega) (by omega), ec, hq2]; simp [b2i]
  · simp only
    rw [if_neg (by omega)]
  · rw [if_pos (one_cnt h.pos), if_pos (by omega)]
    exact wp_some (decide_eq_true (by omega))
end Go.Vs.G

