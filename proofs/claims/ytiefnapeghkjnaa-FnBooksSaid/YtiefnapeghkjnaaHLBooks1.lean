/- Plain facts about the typed functions, up to the law: no program in sight. No conditions. -/
import Derived.Test.YtiefnapeghkjnaaV5
import Derived.Test.YtiefnapeghkjnaaDLBooks
namespace Go.Vs
open Go

section
variable {α β S B R : Type}

theorem w64_succ {i n : Nat} (h : i < n) (hn : n < 9223372036854775807) : w64 ((i : Int) + 1) = (i : Int) + 1 := w64_id (by omega) (by omega)
theorem at_of {l : List α} {i : Nat} (h : i < l.length) : at? l (i : Int) = some l[i] := at_nat h
end
end Go.Vs

namespace Go.Vs.G
open Go Go.Vs

/-- a source that can still be asked; B bounds the place that it has come to -/
structure SrcOk (B : Int) (s : GL00Src) : Prop where
  bytes : ∀ x, x ∈ s.code → 0 ≤ x ∧ x ≤ 255
  len : s.code.length ≤ 1000000
  at0 : 0 ≤ s.at_
  atB : s.at_ ≤ B
theorem SrcOk.mono {B B' : Int} {s : GL00Src} (h : SrcOk B s) (hB : B ≤ B') : SrcOk B' s := ⟨h.bytes, h.len, h.at0, Int.le_trans h.atB hB⟩
theorem srcOk_from {code : List Int} (h : okL (okI .u8) code) (hl : code.length ≤ 1000000) : SrcOk 0 (GL00Src.mk code 0 0) :=
  ⟨fun x hx => okU8 (h.2 x hx), hl, by simp, by simp⟩
theorem shr40 (n : Int) : shr? .u64 n 40 = some (n.fdiv (2 ^ 40)) := by
  simp [shr?, IntKind.bits]
theorem and255 (n : Int) : 0 ≤ bit_and .u64 n 255 ∧ bit_and .u64 n 255 ≤ 255 := by
  unfold bit_and
  rw [wu64_def]
  have h : (BitVec.ofInt IntKind.u64.bits n &&& BitVec.ofInt IntKind.u64.bits 255).toNat ≤ 255 := by
    rw [BitVec.toNat_and]
    exact Nat.le_trans Nat.and_le_right (by decide)
  omega
theorem next_ok {B : Int} {s : GL00Src} (h : SrcOk B s) (hB : B ≤ 4611686018427387904) : ∃ v s', spec_l00Src_next s = some (v, s') ∧ 0 ≤ v ∧ v ≤ 255 ∧ SrcOk (B + 1) s' := by
  have h1 := h.at0
  have h2 := h.atB
  have h3 := h.len
  have hat : w64 (s.at_ + 1) = s.at_ + 1 := w64_id (by omega) (by omega)
  have hb : ∃ b, (if s.at_ < (s.code.length : Int) then ((at? s.code s.at_).bind fun v1 => some (w64 v1)) else some 0) = some b ∧ 0 ≤ b ∧ b ≤ 255 := by
    split
    · rename_i hlt
      rw [at_ok h1 (by omega), Option.bind_some]
      obtain ⟨g1, g2⟩ := h.bytes s.code[s.at_.toNat] (List.getElem_mem (by omega))
      exact ⟨_, rfl, by rw [w64_id (by omega) (by omega)]; omega, by rw [w64_id (by omega) (by omega)]; omega⟩
    · exact ⟨0, rfl, by omega, by omega⟩
  obtain ⟨b, hb, b0, b1⟩ := hb
  unfold spec_l00Src_next
  rw [hb, Option.bind_some, hat]
  split
  · exact ⟨_, _, rfl, b0, b1, ⟨h.bytes, h.len, by simp only; omega, by simp only; omega⟩⟩
  · rw [shr40, Option.bind_some]
    have := and255 ((IntKind.wrap .u64 ((IntKind.wrap .u64 ((IntKind.wrap .u64 (s.seed * 6364136223846793005)) + (IntKind.wrap .u64 b))) + 1442695040888963407)).fdiv (2 ^ 40))
    exact ⟨_, _, rfl, by rw [w64_id (by omega) (by omega)]; omega, by rw [w64_id (by omega) (by omega)]; omega, ⟨h.bytes, h.len, by simp only; omega, by simp only; omega⟩⟩
theorem pick_ok {B : Int} {s : GL00Src} (h : SrcOk B s) (hB : B ≤ 4611686018427387000) (n : Int) : ∃ v s', spec_l00Src_pick s n = some (v, s') ∧ 0 ≤ v ∧ (v = 0 ∨ v < n) ∧ SrcOk (B + 2) s' := by
  unfold spec_l00Src_pick
  by_cases hn : n ≤ 1
  · rw [if_pos hn]; exact ⟨0, s, rfl, by omega, .inl rfl, h.mono (by omega)⟩
  · rw [if_neg hn]
    obtain ⟨v, s1, e1, v0, v1, k1⟩ := next_ok h (by omega)
    rw [e1, Option.bind_some]
    by_cases h2 : n > 200
    · rw [if_pos h2]
      obtain ⟨u, s2, e2, u0, u1, k2⟩ := next_ok k1 (by omega)
      simp only
      rw [e2, Option.bind_some, mod_ok (by omega), Option.bind_some, w64_id (n := v * 256) (by omega) (by omega), w64_id (by simp only; omega) (by simp only; omega)]
      have e : (v * 256 + u).tmod n = (v * 256 + u) % n := Int.tmod_eq_emod_of_nonneg (by omega)
      refine ⟨_, _, rfl, ?_, ?_, by rw [show B + 2 = B + 1 + 1 by omega]; exact k2⟩
      · simp only [e]; exact Int.emod_nonneg _ (by omega)
      · simp only [e]; right; exact Int.emod_lt_of_pos _ (by omega)
    · rw [if_neg h2, mod_ok (by omega), Option.bind_some]
      simp only
      have e : v.tmod n = v % n := Int.tmod_eq_emod_of_nonneg (by omega)
      refine ⟨_, _, rfl, ?_, ?_, k1.mono (by omega)⟩
      · rw [e]; exact Int.emod_nonneg _ (by omega)
      · rw [e]; right; exact Int.emod_lt_of_pos _ (by omega)
theorem a2Long_eq (a b : List Int) : ∃ r, laws_a2Long a b = some r ∧ (r = false → a.length ≤ 3000 ∧ b.length ≤ 3000) := by
  unfold laws_a2Long
  split
  · exact ⟨true, rfl, by simp⟩
  · exact ⟨_, rfl, by simp; omega⟩
/-- a number off a byte -/
theorem a2At_ok {code : List Int} (h : okL (okI .u8) code) (hl : code.length ≤ 3000) {i n : Int} (hi : 0 ≤ i) (hn : 1 ≤ n) : ∃ v, laws_a2At code i n = some v ∧ 0 ≤ v ∧ v < n := by
  unfold laws_a2At
  by_cases h1 : i ≥ (code.length : Int)
  · rw [if_pos h1]; exact ⟨0, rfl, by omega, by omega⟩
  · rw [if_neg h1, Option.bind_some]
    have h2 : ¬ n < 1 := by omega
    simp only [h2, decide_false, Bool.false_eq_true, if_false]
    rw [at_ok hi (by omega), Option.bind_some, mod_ok (by omega), Option.bind_some]
    obtain ⟨g1, g2⟩ := okU8 (h.2 code[i.toNat] (List.getElem_mem (by omega)))
    rw [w64_id (by omega) (by omega)]
    have e : (code[i.toNat]'(by omega)).tmod n = (code[i.toNat]'(by omega)) % n := Int.tmod_eq_emod_of_nonneg g1
    exact ⟨_, rfl, by rw [e]; exact Int.emod_nonneg _ (by omega), by rw [e]; exact Int.emod_lt_of_pos _ (by omega)⟩
end Go.Vs.G

namespace Go.Vs.G
open Go Go.Vs

/-- f is n / d in lowest terms -/
structure Red (n d : Int) (f : GFraction) : Prop where
  pos : 0 < f.Den
  cop : Int.gcd f.Num f.Den = 1
  eq : f.Num * d = n * f.Den
theorem dvd_of_cop {a b c : Int} (h : Int.gcd a b = 1) (hd : b ∣ a * c) : b ∣ c := by
  rw [← Int.natAbs_dvd_natAbs] at hd ⊢
  rw [Int.natAbs_mul] at hd
  have : Nat.Coprime b.natAbs a.natAbs := by rw [Nat.coprime_comm]; exact h
  exact this.dvd_of_dvd_mul_left hd
theorem Red.unique {f g : GFraction} (hf : 0 < f.Den) (hg : 0 < g.Den) (cf : Int.gcd f.Num f.Den = 1) (cg : Int.gcd g.Num g.Den = 1) (h : f.Num * g.Den = g.Num * f.Den) : f = g := by
  have h1 : f.Den ∣ g.Den := dvd_of_cop cf ⟨g.Num, by rw [h, Int.mul_comm]⟩
  have h2 : g.Den ∣ f.Den := dvd_of_cop cg ⟨f.Num, by rw [← h, Int.mul_comm]⟩
  have hd : f.Den = g.Den := Int.le_antisymm (Int.le_of_dvd hg h1) (Int.le_of_dvd hf h2)
  have hn : f.Num = g.Num := by
    rw [hd] at h
    exact Int.eq_of_mul_eq_mul_right (by omega) h
  cases f; cases g
  simp_all
end Go.Vs.G

namespace Go.Vs.G
open Go Go.Vs

theorem Red.same {n d : Int} {f g : GFraction} (hf : Red n d f) (hg : Red n d g) (hd : d ≠ 0) : f = g := by
  refine Red.unique hf.pos hg.pos hf.cop hg.cop ?_
  have e1 := hf.eq
  have e2 := hg.eq
  refine Int.eq_of_mul_eq_mul_left (a := d) hd ?_
  calc d * (f.Num * g.Den) = (f.Num * d) * g.Den := by simp only [Int.mul_assoc, Int.mul_comm, Int.mul_left_comm]
    _ = (g.Num * d) * f.Den := by rw [e1, e2]; simp only [Int.mul_assoc, Int.mul_comm, Int.mul_left_comm]
    _ = d * (g.Num * f.Den) := by simp only [Int.mul_assoc, Int.mul_comm, Int.mul_left_comm]
/- counting -/
/- the same on both sides -/
/- draws -/
theorem one_ok {B : Int} {s : GL00Src} (h : SrcOk B s) (hB : B ≤ 4611686018427387000) (n : Int) : ∃ v s', spec_l00Src_one s n = some (v, s') ∧ SrcOk (B + 2) s' := by
  unfold spec_l00Src_one
  obtain ⟨v, s1, e1, _, _, k1⟩ := pick_ok h hB n
  rw [e1]; exact ⟨_, _, rfl, k1⟩
end Go.Vs.G

namespace Go.Vs
open Go

section
variable {α β γ R : Type}

theorem take_succ_map {g : α → β} {l : List α} {j : Nat} (hj : j < l.length) : (l.take j).map g ++ [g l[j]] = (l.take (j + 1)).map g := by
  rw [List.take_add_one, List.getElem?_eq_getElem hj, List.map_append]; rfl
/-- the same, with a start -/
theorem mapS' {f : Int → Option β} (g : Nat → β) (n : Nat) (hf : ∀ i : Nat, i < n → f (i : Int) = some (g i)) (hl : n ≤ 4294967296)
    {body : List β × Int → Option (Step (List β × Int) (List β) R)} {kb : List β → Option γ} {kr : R → Option γ}
    (hb : ∀ (out : List β) (i : Int), body (out, i) = if i < (n : Int) then ((f i).bind fun r => (app? out ([r] : List β)).bind fun l1 => some (.next (l1, w64 (i + 1)))) else some (.brk out)) :
    onL (loop body loopLim ([], 0)) kb kr = kb (tab g n) := by
  have := loop_brk (body := body) (fun j : Nat => (tab g j, (j : Int))) (b := tab g n) n (by omega) (fun j hj => by
    rw [hb, if_pos (by omega), hf j hj, Option.bind_some, app_ok (by simp; omega), Option.bind_some, w64_id (by omega) (by omega), tab_succ]
    congr 3) (by rw [hb, if_neg (by omega)])
  simp only [tab_zero, Int.natCast_zero] at this
  rw [this]; rfl
/-- the library's IndexFunc -/
theorem idxFS {f : α → Option Bool} (c : α → Bool) (l : List α) (hf : ∀ x, x ∈ l → f x = some (c x)) (hl : l.length < 9223372036854775807)
    {body : Int → Option (Step Int Unit Int)}
    (hb : ∀ (i : Int), body i = if i < (l.length : Int) then ((at? l i).bind fun v => (f v).bind fun r => if r = true then some (.ret i) else some (.next (w64 (i + 1)))) else some (.brk ())) :
    wp (onL (loop body loopLim 0) (fun (_ : Unit) => some (-1 : Int)) (fun r => some r)) fun r => (r = -1 ∧ l.any c = false) ∨ (∃ k : Nat, r = (k : Int) ∧ ∃ h : k < l.length, c l[k] = true ∧ (∀ j (h2 : j < k), c (l[j]'(by omega)) = false) ∧ l.any c = true) := by
  refine wp_loop (fun t : Int => ∃ k : Nat, t = (k : Int) ∧ k ≤ l.length ∧ ∀ j (h2 : j < k) (h3 : j < l.length), c l[j] = false) (fun t => (l.length - t).toNat) ⟨0, rfl, by omega, fun j hj => by omega⟩ (by omega) ?_
  rintro i ⟨k, rfl, hk, hall⟩
  rw [hb]
  refine wp_ite (fun h => ?_) (fun h => ?_)
  · have hk2 : k < l.length := by omega
    rw [at_of hk2, Option.bind_some, hf _ (List.getElem_mem hk2), Option.bind_some]
    refine wp_ite (fun h3 => ?_) (fun h3 => ?_)
    · exact wp_some (wp_some (.inr ⟨k, rfl, hk2, h3, fun j hj => hall j hj (by omega), List.any_eq_true.2 ⟨_, List.getElem_mem hk2, h3⟩⟩))
    · rw [w64_succ hk2 (by omega)]
      refine wp_some ⟨⟨k + 1, rfl, by omega, fun j hj hj2 => ?_⟩, by omega⟩
      rcases Nat.lt_or_ge j k with h4 | h4
      · exact hall j h4 hj2
      · obtain rfl : j = k := by omega
        simpa using h3
  · obtain rfl : k = l.length := by omega
    refine wp_some (wp_some (.inl ⟨rfl, ?_⟩))
    refine Bool.eq_false_iff.2 fun hc => ?_
    obtain ⟨x, hx, hx2⟩ := List.any_eq_true.1 hc
    obtain ⟨j, hj, rfl⟩ := List.getElem_of_mem hx
    rw [hall j hj hj] at hx2
    cases hx2
/-- the library's ContainsFunc -/
theorem contS {f : α → Option Bool} (c : α → Bool) (l : List α) (hf : ∀ x, x ∈ l → f x = some (c x)) (hl : l.length < 9223372036854775807)
    {body : Int → Option (Step Int Unit Int)}
    (hb : ∀ (i : Int), body i = if i < (l.length : Int) then ((at? l i).bind fun v => (f v).bind fun r => if r = true then some (.ret i) else some (.next (w64 (i + 1)))) else some (.brk ())) :
    ((onL (loop body loopLim 0) (fun (_ : Unit) => some (-1 : Int)) (fun r => some r)).bind fun r => some (decide (r ≥ 0))) = some (l.any c) := by
  obtain ⟨r, h1, h2⟩ := idxFS c l hf hl hb
  rw [h1, Option.bind_some]
  rcases h2 with ⟨rfl, h⟩ | ⟨k, rfl, _, _, _, h⟩
  · rw [h]; rfl
  · rw [h, decide_eq_true (by omega)]
/-- a loop whose state at each round is told -/
theorem wp_cnt {S B : Type} {Q : γ → Prop} {body : S → Option (Step S B R)} {kb : B → Option γ} {kr : R → Option γ} {s0 : S} (st : Nat → S) (n : Nat) (h0 : s0 = st 0) (hn : n < 18446744073709551616)
    (hs : ∀ k, k < n → body (st k) = some (.next (st (k + 1)))) {b : B} (he : body (st n) = some (.brk b)) (hq : wp (kb b) Q) : wp (onL (loop body loopLim s0) kb kr) Q := by
  rw [h0, loop_brk st n hn hs he]; exact hq
end
end Go.Vs

namespace Go.Vs
theorem wp_seq {α β : Type} {A : Option β} {k : β → Option α} {P : β → Prop} {Q : α → Prop} (h : wp A P) (hk : ∀ x, P x → wp (k x) Q) : wp (A.bind k) Q := by
  obtain ⟨x, rfl, hx⟩ := h; exact hk x hx
end Go.Vs
namespace Go.Vs.G
open Go Go.Vs

section
variable {α : Type} {Q : α → Prop} {B : Int} {s : GL00Src}
theorem wp_pick {n : Int} {k : Int × GL00Src → Option α} (h : SrcOk B s) (hB : B ≤ 4611686018427387000) (hk : ∀ v s', 0 ≤ v → (v = 0 ∨ v < n) → SrcOk (B + 2) s' → wp (k (v, s')) Q) : wp ((spec_l00Src_pick s n).bind k) Q := by
  obtain ⟨v, s', e, h0, h1, h2⟩ := pick_ok h hB n
  rw [e]; exact hk v s' h0 h1 h2
theorem wp_one {n : Int} {k : Bool × GL00Src → Option α} (h : SrcOk B s) (hB : B ≤ 4611686018427387000) (hk : ∀ v s', SrcOk (B + 2) s' → wp (k (v, s')) Q) : wp ((spec_l00Src_one s n).bind k) Q := by
  obtain ⟨v, s', e, h2⟩ := one_ok h hB n
  rw [e]; exact hk v s' h2
theorem wp_from {code : List Int} {k : GL00Src → Option α} (h : okL (okI .u8) code) (hl : code.length ≤ 1000000) (hk : ∀ s, SrcOk 0 s → wp (k s) Q) : wp ((spec_l00From code).bind k) Q := hk _ (srcOk_from h hl)
theorem wp_app {β : Type} {l m : List β} {k : List β → Option α} (h : l.length + m.length ≤ 4294967296) (hk : wp (k (l ++ m)) Q) : wp ((app? l m).bind k) Q := by
  rw [app_ok h]; exact hk
theorem wp_bif {b : Bool} {A A' : Option α} (h1 : b = true → wp A Q) (h2 : b = false → wp A' Q) : wp (if b = true then A else A') Q := by
  cases b
  · exact h2 rfl
  · exact h1 rfl
end
end Go.Vs.G

namespace Go.Vs
open Go
section
variable {α : Type} [Inhabited α]
def gd (l : List α) (i : Nat) : α := l.getD i default
theorem gd_of {l : List α} {i : Nat} (h : i < l.length) : gd l i = l[i] := by unfold gd; simp [h]
theorem at_gd {l : List α} {i : Nat} (h : i < l.length) : at? l (i : Int) = some (gd l i) := by rw [at_of h, gd_of h]
theorem gd_mem {l : List α} {i : Nat} (h : i < l.length) : gd l i ∈ l := by rw [gd_of h]; exact List.getElem_mem h
theorem mem_gd {l : List α} {x : α} (h : x ∈ l) : ∃ i, i < l.length ∧ x = gd l i := by
  obtain ⟨i, hi, rfl⟩ := List.getElem_of_mem h; exact ⟨i, hi, (gd_of hi).symm⟩
theorem gd_append {l m : List α} {i : Nat} : gd (l ++ m) i = if i < l.length then gd l i else gd m (i - l.length) := by
  unfold gd; rw [List.getD_eq_getElem?_getD, List.getElem?_append]; split <;> rfl
end
end Go.Vs
namespace Go.Vs.G
open Go Go.Vs
def vpt (p : GPoint) : Bool := decide (0 ≤ p.X ∧ p.X ≤ 1000) && decide (0 ≤ p.Y ∧ p.Y ≤ 1000)
def vps (j : List GPoint) : Bool := decide (1 ≤ j.length ∧ j.length ≤ 8) && j.all vpt
theorem within_d (n a b : Int) : impl_within n a b = some (decide (a ≤ n ∧ n ≤ b)) := by
  unfold impl_within
  by_cases h : n ≥ a
  · rw [if_pos h]; exact congrArg some (decide_eq_decide.2 (by omega))
  · rw [if_neg h, decide_eq_false (by omega)]
/- what lies between -/
def rnd (u d : Int) : Int := (2 * u + d) / (2 * d)
theorem rounded_eq {u d : Int} (h0 : 0 ≤ u) (h1 : u ≤ 1000000000) (d0 : 1 ≤ d) (d1 : d ≤ 1000000) : impl_rounded u d = some (rnd u d) := by
  unfold impl_rounded rnd
  rw [w64_id (n := 2 * u) (by omega) (by omega), w64_id (n := 2 * u + d) (by omega) (by omega), w64_id (n := 2 * d) (by omega) (by omega), div_ok (by omega), mod_ok (by omega), Option.bind_some, Option.bind_some]
  have e1 : (2 * u + d).tdiv (2 * d) = (2 * u + d) / (2 * d) := Int.tdiv_eq_ediv_of_nonneg (by omega)
  have e2 : (2 * u + d).tmod (2 * d) = (2 * u + d) % (2 * d) := Int.tmod_eq_emod_of_nonneg (by omega)
  have g1 : 0 ≤ (2 * u + d) / (2 * d) := Int.ediv_nonneg (by omega) (by omega)
  have g2 : (2 * u + d) / (2 * d) ≤ 2 * u + d := Int.ediv_le_self _ (by omega)
  have g3 : 0 ≤ (2 * u + d) % (2 * d) := Int.emod_nonneg _ (by omega)
  rw [e1, e2, if_neg (by omega)]
  exact congrArg some (w64_id (by omega) (by omega))
section
variable {a b : List GPoint} (ha : vps a = true) (hb : vps b = true) (hl : a.length = b.length) {p n : Int} (hp : 0 ≤ p ∧ p ≤ n) (hn : 1 ≤ n ∧ n ≤ 10000)
include ha hb hl hp hn
end
end Go.Vs.G

namespace Go.Vs.G
open Go Go.Vs
def pch (l : List GScene) (i : Nat) : UInt8 := (gd l i).Pose.headD 0
/-- scenes that are drawn -/
structure VSc (l : List GScene) : Prop where
  n1 : 1 ≤ l.length
  n2 : l.length ≤ 12
  pose : ∀ i, i < l.length → (gd l i).Pose = [pch l i]
  let' : ∀ i, i < l.length → 97 ≤ (pch l i).toNat ∧ (pch l i).toNat ≤ 122
  ticks : ∀ i, i < l.length → 1 ≤ (gd l i).Ticks ∧ (gd l i).Ticks ≤ 100
  next : ∀ i, 0 < i → i < l.length → pch l (i - 1) ≠ pch l i
/-- letters -/
theorem isLetters_true {s : List UInt8} {m : Int} (h1 : 1 ≤ s.length) (h2 : (s.length : Int) ≤ m) (h3 : s.length ≤ 1000000) (h : ∀ c, c ∈ s → 97 ≤ c.toNat ∧ c.toNat ≤ 122) : impl_isLetters s m = some true := by
  unfold impl_isLetters
  refine eq_of_wp ?_
  refine wp_cnt (fun k => (k : Int)) s.length rfl (by omega) (fun k hk => ?_) (b := ()) ?_ ?_
  · have := h _ (gd_mem hk)
    rw [if_pos (by omega), at_gd hk, Option.bind_some, if_neg (by omega), Option.bind_some, decide_eq_false (by omega), Option.bind_some, if_neg (by simp), w64_id (by omega) (by omega)]; rfl
  · rw [if_neg (by omega)]
  · rw [if_pos (by omega), decide_eq_true h2]; exact wp_some rfl
theorem ValidScenes_true {l : List GScene} (h : VSc l) : impl_ValidScenes l = some true := by
  have n1 := h.n1
  have n2 := h.n2
  unfold impl_ValidScenes
  refine eq_of_wp ?_
  refine wp_cnt (fun k => (k : Int)) l.length rfl (by omega) (fun k hk => ?_) (b := ()) ?_ ?_
  · have ht := h.ticks k hk
    have hl := h.let' k hk
    have hil : impl_isLetters (gd l k).Pose 1 = some true := by
      rw [h.pose k hk]
      exact isLetters_true (by simp) (by simp) (by simp) (fun c hc => by rw [List.mem_singleton.1 hc]; exact hl)
    rw [if_pos (by omega), at_gd hk, Option.bind_some, hil, Option.bind_some, if_pos rfl, within_d, Option.bind_some, decide_eq_true (by omega), if_pos rfl]
    by_cases h0 : k = 0
    · rw [if_neg (by omega), Option.bind_some, if_neg (by simp), w64_id (by omega) (by omega)]; rfl
    · have hne := h.next k (by omega) hk
      have : ((gd l (k - 1)).Pose == (gd l k).Pose) = false := by
        rw [h.pose _ (by omega), h.pose k hk]
        simpa using hne
      rw [if_pos (by omega), w64_id (n := (k : Int) - 1) (by omega) (by omega), show (k : Int) - 1 = ((k - 1 : Nat) : Int) by omega, at_gd (by omega), Option.bind_some, this, Option.bind_some, if_neg (by simp), w64_id (by omega) (by omega)]; rfl
  · rw [if_neg (by omega)]
  · rw [if_pos (by omega), decide_eq_true (by omega)]; exact wp_some rfl
/-- pages of a scene -/
def qp (l : List GScene) (e : Int) (i : Nat) : Nat := (max (rnd (gd l i).Ticks e) 1).toNat
def psum (l : List GScene) (e : Int) : Nat → Nat
  | 0 => 0
  | k + 1 => psum l e k + qp l e k
def esum (l : List GScene) (e : Int) : Nat → Int
  | 0 => 0
  | k + 1 => esum l e k + max ((qp l e k : Int) * e - (gd l k).Ticks) ((gd l k).Ticks - (qp l e k : Int) * e)
def book (l : List GScene) (e : Int) : Nat → List UInt8
  | 0 => []
  | k + 1 => book l e k ++ List.replicate (qp l e k) (pch l k)
theorem book_len (l : List GScene) (e : Int) : ∀ k, (book l e k).length = psum l e k
  | 0 => rfl
  | k + 1 => by rw [book, List.length_append, List.length_replicate, book_len l e k]; rfl
theorem psum_ge (l : List GScene) (e : Int) : ∀ k, k ≤ psum l e k
  | 0 => by simp
  | k + 1 => by have := psum_ge l e k; rw [psum]; unfold qp; omega
theorem psum_mono (l : List GScene) (e : Int) {j : Nat} : ∀ {k : Nat}, j ≤ k → psum l e j ≤ psum l e k
  | 0, h => by rw [show j = 0 by omega]; exact Nat.le_refl _
  | k + 1, h => by
    rcases Nat.lt_or_ge j (k + 1) with h1 | h1
    · have := psum_mono l e (j := j) (k := k) (by omega); rw [psum]; omega
    · rw [show j = k + 1 by omega]; exact Nat.le_refl _
theorem repeatL_one' (c : UInt8) : ∀ n, Lib.repeatL [c] n = List.replicate n c
  | 0 => rfl
  | n + 1 => by rw [Lib.repeatL, repeatL_one' c n, List.replicate_succ]; rfl
section
variable {l : List GScene} (h : VSc l) {e : Int} (he : 1 ≤ e ∧ e ≤ 100)
include h he
theorem qp_bd {i : Nat} (hi : i < l.length) : 1 ≤ qp l e i ∧ qp l e i ≤ 101 := by
  have ht := h.ticks i hi
  unfold qp rnd
  have : (2 * (gd l i).Ticks + e) / (2 * e) ≤ 101 := Int.le_of_lt_add_one ((Int.ediv_lt_iff_lt_mul (by omega)).2 (by omega))
  omega
theorem psum_le {k : Nat} (hk : k ≤ l.length) : psum l e k ≤ 101 * k := by
  induction k with
  | zero => simp [psum]
  | succ k ih =>
    have := ih (by omega)
    have := qp_bd h he (i := k) (by omega)
    rw [psum]; omega
theorem esum_bd {k : Nat} (hk : k ≤ l.length) : 0 ≤ esum l e k ∧ esum l e k ≤ 20000 * k := by
  induction k with
  | zero => simp [esum]
  | succ k ih =>
    have := ih (by omega)
    have h1 := qp_bd h he (i := k) (by omega)
    have h2 := h.ticks k (by omega)
    have h3 : 0 ≤ (qp l e k : Int) * e := Int.mul_nonneg (by omega) (by omega)
    have h4 : (qp l e k : Int) * e ≤ 101 * 100 := Int.mul_le_mul (by omega) he.2 (by omega) (by omega)
    rw [esum]; omega
theorem pagesOf_eq : impl_pagesOf l e = some (tab (fun i => (qp l e i : Int)) l.length) := by
  have n2 := h.n2
  unfold impl_pagesOf
  refine (mapS' (R := Empty) (f := fun x1 => (at? l x1).bind fun v1 => (impl_rounded v1.Ticks e).bind fun r1 => some (imax r1 1)) (fun i => (qp l e i : Int)) l.length (fun i hi => ?_) (by omega) (fun out i => ?_)).trans rfl
  · have ht := h.ticks i hi
    rw [at_gd hi, Option.bind_some, rounded_eq (by omega) (by omega) (by omega) (by omega), Option.bind_some, imax_def]
    refine congrArg some ?_
    unfold qp; omega
  · by_cases hi : i < (l.length : Int)
    · simp only [if_pos hi, Option.bind_assoc, Option.bind_some]
    · simp only [if_neg hi]
theorem sumOf_eq : impl_sumOf (tab (fun i => (qp l e i : Int)) l.length) = some (psum l e l.length : Int) := by
  have n2 := h.n2
  unfold impl_sumOf
  refine eq_of_wp ?_
  refine wp_cnt (fun k => ((psum l e k : Int), (k : Int))) l.length rfl (by omega) (fun k hk => ?_) (b := (psum l e l.length : Int)) ?_ (wp_some rfl)
  · have h1 := psum_le h he (k := k) (by omega)
    have h2 := qp_bd h he hk
    simp only [tab_length]
    rw [if_pos (by omega), tab_at (by omega) (by omega), Option.bind_some, Int.toNat_natCast, w64_id (n := (k : Int) + 1) (by omega) (by omega), w64_id (by omega) (by omega), psum]
    rfl
  · simp only [tab_length]; rw [if_neg (by omega)]
theorem bookCode_eq : impl_bookCode l e = some (if psum l e l.length > 60 then 5 else 0) := by
  unfold impl_bookCode
  rw [ValidScenes_true h, Option.bind_some, if_pos rfl, within_d, Option.bind_some, decide_eq_true he, if_pos rfl, pagesOf_eq h he, Option.bind_some, sumOf_eq h he, Option.bind_some]
  by_cases h1 : psum l e l.length > 60
  · rw [if_pos (by omega), if_pos h1]
  · rw [if_neg (by omega), if_neg h1]
theorem BookFor_eq : impl_BookFor l e = some (if psum l e l.length > 60 then ([], 5) else (book l e l.length, 0)) := by
  have n2 := h.n2
  unfold impl_BookFor
  rw [bookCode_eq h he, Option.bind_some]
  by_cases h1 : psum l e l.length > 60
  · rw [if_pos h1, if_pos h1, if_neg (by omega)]
  · rw [if_neg h1, if_neg h1, if_pos rfl, pagesOf_eq h he, Option.bind_some]
    refine eq_of_wp ?_
    refine wp_cnt (fun k => (book l e k, (k : Int))) l.length rfl (by omega) (fun k hk => ?_) (b := book l e l.length) ?_ (wp_some rfl)
    · have h2 := qp_bd h he hk
      have h3 := psum_mono l e (j := k) (k := l.length) (by omega)
      simp only [tab_length]
      rw [if_pos (by omega), tab_at (by omega) (by omega), Option.bind_some, at_gd hk, Option.bind_some, Int.toNat_natCast]
      unfold strings_Repeat
      rw [h.pose k hk, if_pos ⟨by omega, by omega, by simp; omega⟩, Option.bind_some, Int.toNat_natCast, repeatL_one', app_ok (by rw [book_len, List.length_replicate]; omega), Option.bind_some, w64_id (by omega) (by omega)]
      rfl
    · simp only [tab_length]; rw [if_neg (by omega)]
theorem errorOf_eq : impl_errorOf l e = some (esum l e l.length) := by
  have n2 := h.n2
  unfold impl_errorOf
  rw [pagesOf_eq h he, Option.bind_some]
  refine eq_of_wp ?_
  refine wp_cnt (fun k => (esum l e k, (k : Int))) l.length rfl (by omega) (fun k hk => ?_) (b := esum l e l.length) ?_ (wp_some rfl)
  · have h1 := esum_bd h he (k := k) (by omega)
    have h2 := qp_bd h he hk
    have h5 := h.ticks k hk
    have h3 : 0 ≤ (qp l e k : Int) * e := Int.mul_nonneg (by omega) (by omega)
    have h4 : (qp l e k : Int) * e ≤ 101 * 100 := Int.mul_le_mul (by omega) he.2 (by omega) (by omega)
    simp only [tab_length]
    rw [if_pos (by omega), tab_at (by omega) (by omega), Option.bind_some, at_gd hk, Option.bind_some, Int.toNat_natCast]
    unfold impl_apart
    rw [w64_id (n := (qp l e k : Int) * e) (by omega) (by omega), Option.bind_some, imax_def, w64_id (n := (k : Int) + 1) (by omega) (by omega), w64_id (n := (qp l e k : Int) * e - (gd l k).Ticks) (by omega) (by omega), w64_id (n := (gd l k).Ticks - (qp l e k : Int) * e) (by omega) (by omega), w64_id (by omega) (by omega), esum]
    rfl
  · simp only [tab_length]; rw [if_neg (by omega)]
theorem ErrorOfBook_eq : impl_ErrorOfBook l e = some (if psum l e l.length > 60 then (0, 5) else (esum l e l.length, 0)) := by
  unfold impl_ErrorOfBook
  rw [bookCode_eq h he, Option.bind_some]
  by_cases h1 : psum l e l.length > 60
  · rw [if_pos h1, if_pos h1, if_neg (by omega)]
  · rw [if_neg h1, if_neg h1, if_pos rfl, errorOf_eq h he]; rfl
end
theorem wp_textB {α : Type} {B : Int} {s : GL00Src} {l : List (List UInt8)} {k : List UInt8 × GL00Src → Option α} {Q : α → Prop} (h : SrcOk B s) (hB : B ≤ 4611686018427387000) (hl : 1 ≤ l.length) (hl2 : l.length ≤ 1000) (hk : ∀ v s', v ∈ l → SrcOk (B + 2) s' → wp (k (v, s')) Q) : wp ((spec_l00Src_text s l).bind k) Q := by
  unfold spec_l00Src_text
  rw [Option.bind_assoc]
  refine wp_pick h hB fun v s' v0 v1 h2 => ?_
  have hv : v.toNat < l.length := by omega
  rw [at_ok v0 hv, Option.bind_some, Option.bind_some]
  exact hk _ _ (List.getElem_mem hv) h2
theorem pch_append {l : List GScene} {x : GScene} {i : Nat} : pch (l ++ [x]) i = if i < l.length then pch l i else if i = l.length then x.Pose.headD 0 else 0 := by
  unfold pch
  rw [gd_append]
  by_cases h : i < l.length
  · rw [if_pos h, if_pos h]
  · rw [if_neg h, if_neg h]
    by_cases h2 : i = l.length
    · rw [if_pos h2, h2, Nat.sub_self]; rfl
    · rw [if_neg h2]
      have : gd [x] (i - l.length) = default := by unfold gd; rw [List.getD_eq_getElem?_getD, List.getElem?_eq_none (by simp; omega)]; rfl
      rw [this]; rfl
theorem A2Scenes_ok {code : List Int} (hc : okL (okI .u8) code) (hl : code.length ≤ 1000000) : wp (spec_A2Scenes code) VSc := by
  unfold spec_A2Scenes
  refine wp_from hc hl fun s hs => wp_seq (P := fun r => VSc r.1) ?_ fun r hr => wp_some hr
  unfold spec_l08Draw
  refine wp_pick hs (by omega) fun u s1 u0 u1 h1 => wp_pick h1 (by omega) fun n s2 n0 n1 h2 => ?_
  simp only
  rw [w64_id (n := 1 + u) (by omega) (by omega), w64_id (n := 1 + n) (by omega) (by omega)]
  refine wp_loop (fun q : GL00Src × List GScene × List UInt8 × Int => SrcOk (4 + 10 * (1 + n - q.2.2.2)) q.1 ∧ 0 ≤ q.2.2.2 ∧ q.2.2.2 ≤ 1 + n ∧ (q.2.1.length : Int) = 1 + n - q.2.2.2 ∧ (0 < q.2.1.length → q.2.2.1 = [pch q.2.1 (q.2.1.length - 1)]) ∧
    (∀ i, i < q.2.1.length → (gd q.2.1 i).Pose = [pch q.2.1 i] ∧ (97 ≤ (pch q.2.1 i).toNat ∧ (pch q.2.1 i).toNat ≤ 122) ∧ (1 ≤ (gd q.2.1 i).Ticks ∧ (gd q.2.1 i).Ticks ≤ 100)) ∧ ∀ i, 0 < i → i < q.2.1.length → pch q.2.1 (i - 1) ≠ pch q.2.1 i) (fun q => q.2.2.2.toNat)
    ⟨h2.mono (by simp only; omega), by simp only; omega, by simp only; omega, by simp, by simp, by simp, by simp⟩ (by simp only; omega) ?_
  rintro ⟨s, out, last, k⟩ ⟨g1, g2, g3, g4, g5, g6, g7⟩
  simp only at g1 g2 g3 g4 g5 g6 g7 ⊢
  refine wp_ite (fun h => ?_) (fun h => ?_)
  · refine wp_textB g1 (by omega) (by simp) (by simp) fun w s3 hw k1 => ?_
    refine wp_seq (P := fun x => ∃ c : UInt8, x = [c] ∧ (97 ≤ c.toNat ∧ c.toNat ≤ 122) ∧ x ≠ last) ?_ fun x hx => ?_
    · simp only [List.mem_cons, List.not_mem_nil, or_false] at hw
      refine wp_ite (fun he => wp_some ?_) (fun hne => wp_some ?_)
      · refine ⟨101, rfl, by decide, ?_⟩
        have := beq_iff_eq.1 he
        simp only at this
        rw [← this]
        rcases hw with h | h | h | h <;> rw [h] <;> decide
      · have hne2 : w ≠ last := fun h => hne (beq_iff_eq.2 h)
        rcases hw with h | h | h | h
        · exact ⟨97, h, by decide, hne2⟩
        · exact ⟨98, h, by decide, hne2⟩
        · exact ⟨99, h, by decide, hne2⟩
        · exact ⟨100, h, by decide, hne2⟩
    obtain ⟨c, rfl, hc2, hcl⟩ := hx
    refine wp_pick k1 (by omega) fun v s4 v0 v1 k2 => wp_one k2 (by omega) fun b s5 k3 => ?_
    have hm0 : 1 ≤ (1 + u) * (1 + v) := by
      have : (1 : Int) * 1 ≤ (1 + u) * (1 + v) := Int.mul_le_mul (by omega) (by omega) (by omega) (by omega)
      omega
    have hm1 : (1 + u) * (1 + v) ≤ 6 * 12 := Int.mul_le_mul (by omega) (by omega) (by omega) (by omega)
    refine wp_seq (P := fun t => 1 ≤ t ∧ t ≤ 100) ?_ fun t ht => ?_
    · simp only
      rw [w64_id (n := 1 + v) (by omega) (by omega), w64_id (n := (1 + u) * (1 + v)) (by omega) (by omega), w64_id (n := (1 + u) * (1 + v) + 1) (by omega) (by omega)]
      exact wp_ite (fun _ => wp_some (by omega)) (fun _ => wp_some (by omega))
    refine wp_app (by simp; omega) ?_
    rw [w64_id (n := k - 1) (by omega) (by omega)]
    have hlen : (out ++ [GScene.mk [c] t]).length = out.length + 1 := by simp
    refine wp_some ⟨⟨k3.mono (by simp only; omega), by simp only; omega, by simp only; omega, by simp only [hlen]; omega, fun _ => ?_, fun i hi => ?_, fun i h0 hi => ?_⟩, by simp only; omega⟩
    · simp only [hlen]
      rw [pch_append, if_neg (by omega), if_pos (by omega)]; rfl
    · simp only [hlen] at hi ⊢
      rw [pch_append, gd_append]
      by_cases h8 : i < out.length
      · rw [if_pos h8, if_pos h8]; exact g6 i h8
      · obtain rfl : i = out.length := by omega
        rw [if_neg h8, if_neg h8, if_pos rfl, Nat.sub_self]; exact ⟨rfl, hc2, ht⟩
    · simp only [hlen] at hi ⊢
      rw [pch_append, pch_append]
      by_cases h8 : i < out.length
      · rw [if_pos h8, if_pos (by omega)]; exact g7 i h0 h8
      · obtain rfl : i = out.length := by omega
        rw [if_neg h8, if_pos rfl, if_pos (by omega)]
        intro hcc
        refine hcl ?_
        rw [g5 (by omega), hcc]; rfl
  · exact wp_some (wp_some ⟨by simp only; omega, by simp only; omega, fun i hi => (g6 i hi).1, fun i hi => (g6 i hi).2.1, fun i hi => (g6 i hi).2.2, g7⟩)
end Go.Vs.G

namespace Go.Vs.G
open Go Go.Vs
def tsum (l : List GScene) : Nat → Int
  | 0 => 0
  | k + 1 => tsum l k + (gd l k).Ticks
/-- all ticks are whole pages -/
def Whole (l : List GScene) (e : Int) : Prop := ∀ i, i < l.length → (gd l i).Ticks % e = 0
theorem rnd_whole {q e : Int} (he : 1 ≤ e) : rnd (q * e) e = q := by
  unfold rnd
  rw [show 2 * (q * e) + e = e + q * (2 * e) by rw [Int.mul_left_comm]; omega, Int.add_mul_ediv_right _ _ (by omega), Int.ediv_eq_zero_of_lt (by omega) (by omega)]; omega
section
variable {l : List GScene} (h : VSc l)
include h
theorem tsum_bd {k : Nat} (hk : k ≤ l.length) : (k : Int) ≤ tsum l k ∧ tsum l k ≤ 100 * k := by
  induction k with
  | zero => simp [tsum]
  | succ k ih =>
    have := ih (by omega)
    have := h.ticks k (by omega)
    rw [tsum]; omega
theorem ExactTick_ok : wp (impl_ExactTick l) fun r => r.2 = 0 ∧ (1 ≤ r.1 ∧ r.1 ≤ 100) ∧ Whole l r.1 := by
  have n2 := h.n2
  unfold impl_ExactTick
  rw [ValidScenes_true h, Option.bind_some, if_pos rfl]
  refine wp_loop (fun n : Int => 1 ≤ n ∧ n ≤ 100) (fun n => n.toNat) ⟨by omega, by omega⟩ (by omega) ?_
  rintro n ⟨n0, n1⟩
  have hcf : slices_ContainsFunc_impl_Scene_impl_Scene_805 l (fun a0 => impl_ExactTick_1 a0 n) = some (l.any fun s => !decide (s.Ticks % n = 0)) := by
    unfold slices_ContainsFunc_impl_Scene_impl_Scene_805 slices_IndexFunc_impl_Scene_impl_Scene_827
    refine contS (fun s => !decide (s.Ticks % n = 0)) l (fun s hs => ?_) (by omega) (fun _ => rfl)
    obtain ⟨i, hi, rfl⟩ := mem_gd hs
    have := h.ticks i hi
    unfold impl_ExactTick_1
    rw [mod_ok (by omega), Option.bind_some, Int.tmod_eq_emod_of_nonneg (by omega)]
  rw [hcf, Option.bind_some]
  refine wp_bif (fun hb => ?_) (fun hb => wp_some (wp_some ⟨rfl, ⟨n0, n1⟩, fun i hi => ?_⟩))
  · obtain ⟨s, hs, hs2⟩ := List.any_eq_true.1 hb
    have hne : n ≠ 1 := by
      rintro rfl
      simp only [Int.emod_one, decide_true, Bool.not_true] at hs2
      cases hs2
    rw [w64_id (by omega) (by omega)]
    exact wp_some ⟨⟨by omega, by omega⟩, by omega⟩
  · have := List.any_eq_false.1 hb _ (gd_mem hi)
    simpa using this
theorem Length_eq : impl_LengthOfScenes l = some (tsum l l.length, 0) := by
  have n2 := h.n2
  unfold impl_LengthOfScenes
  rw [ValidScenes_true h, Option.bind_some, if_pos rfl]
  refine eq_of_wp ?_
  refine wp_cnt (fun k => (tsum l k, (k : Int))) l.length rfl (by omega) (fun k hk => ?_) (b := tsum l l.length) ?_ (wp_some rfl)
  · have h1 := tsum_bd h (k := k) (by omega)
    have h2 := h.ticks k hk
    simp only
    rw [if_pos (by omega), at_gd hk, Option.bind_some, w64_id (n := (k : Int) + 1) (by omega) (by omega), w64_id (by omega) (by omega), tsum]; rfl
  · simp only; rw [if_neg (by omega)]
variable {e : Int} (he : 1 ≤ e ∧ e ≤ 100) (hw : Whole l e)
include he hw
theorem qp_whole {i : Nat} (hi : i < l.length) : (qp l e i : Int) * e = (gd l i).Ticks := by
  have ht := h.ticks i hi
  have hd : e ∣ (gd l i).Ticks := Int.dvd_of_emod_eq_zero (hw i hi)
  obtain ⟨q, hq⟩ := hd
  have hq2 : (gd l i).Ticks = q * e := by rw [hq, Int.mul_comm]
  have hq1 : 1 ≤ q := by
    rcases Int.lt_or_le q 1 with h1 | h1
    · have : q * e ≤ 0 := Int.mul_nonpos_of_nonpos_of_nonneg (by omega) (by omega)
      omega
    · exact h1
  unfold qp
  rw [hq2, rnd_whole he.1, show ((max q 1).toNat : Int) = q by omega]
theorem psum_whole {k : Nat} (hk : k ≤ l.length) : (psum l e k : Int) * e = tsum l k := by
  induction k with
  | zero => simp [psum, tsum]
  | succ k ih =>
    rw [psum, tsum, ← ih (by omega), ← qp_whole h he hw (by omega), Int.natCast_add, Int.add_mul]
theorem esum_whole {k : Nat} (hk : k ≤ l.length) : esum l e k = 0 := by
  induction k with
  | zero => rfl
  | succ k ih =>
    rw [esum, ih (by omega), qp_whole h he hw (by omega)]; omega
end
theorem book_get (l : List GScene) (e : Int) {k j : Nat} : ∀ {n : Nat}, k < n → j < qp l e k → (book l e n)[psum l e k + j]? = some (pch l k)
  | n + 1, hk, hj => by
    rw [book]
    rcases Nat.lt_or_ge k n with h1 | h1
    · have := psum_mono l e (j := k + 1) (k := n) (by omega)
      rw [psum] at this
      rw [List.getElem?_append_left (by rw [book_len]; omega)]
      exact book_get l e h1 hj
    · obtain rfl : k = n := by omega
      rw [List.getElem?_append_right (by rw [book_len]; omega), book_len, Nat.add_sub_cancel_left, List.getElem?_replicate, if_pos hj]
theorem book_mem (l : List GScene) (e : Int) : ∀ {n : Nat} {c : UInt8}, c ∈ book l e n → ∃ i, i < n ∧ c = pch l i
  | n + 1, c, hc => by
    rw [book] at hc
    rcases List.mem_append.1 hc with hc | hc
    · obtain ⟨i, h1, h2⟩ := book_mem l e hc; exact ⟨i, by omega, h2⟩
    · exact ⟨n, by omega, (List.mem_replicate.1 hc).2⟩
/-- where a page lies -/
theorem page_at (l : List GScene) (e : Int) {x : Nat} : ∀ {n : Nat}, x < psum l e n → ∃ k j, k < n ∧ j < qp l e k ∧ x = psum l e k + j
  | n + 1, hx => by
    rcases Nat.lt_or_ge x (psum l e n) with h1 | h1
    · obtain ⟨k, j, h2, h3, h4⟩ := page_at l e h1; exact ⟨k, j, by omega, h3, h4⟩
    · rw [psum] at hx; exact ⟨n, x - psum l e n, by omega, by omega, by omega⟩
section
variable {l : List GScene} (h : VSc l) {e : Int} (he : 1 ≤ e ∧ e ≤ 100) (hp : psum l e l.length ≤ 60)
include h he hp
theorem pagesCode_eq : impl_pagesCode (book l e l.length) e = some 0 := by
  have hg := psum_ge l e l.length
  have n1 := h.n1
  unfold impl_pagesCode
  rw [isLetters_true (by rw [book_len]; omega) (by rw [book_len]; omega) (by rw [book_len]; omega) (fun c hc => by obtain ⟨i, hi, rfl⟩ := book_mem l e hc; exact h.let' i hi), Option.bind_some, if_pos rfl, within_d, Option.bind_some, decide_eq_true he, if_pos rfl]
theorem PageAt_eq {t : Int} (t0 : 0 ≤ t) (t1 : t ≤ 6000) : impl_PageAt (book l e l.length) e t = some (if t / e ≥ (psum l e l.length : Int) then ([], 3) else ([(book l e l.length).getD (t / e).toNat 0], 0)) := by
  unfold impl_PageAt
  have q0 : 0 ≤ t / e := Int.ediv_nonneg t0 (by omega)
  have q1 : t / e ≤ t := Int.ediv_le_self _ t0
  have hw : IntKind.wrap .i64 (t / e) = t / e := w64_id (by omega) (by omega)
  rw [pagesCode_eq h he hp, Option.bind_some, if_pos rfl, within_d, Option.bind_some, decide_eq_true ⟨t0, t1⟩, if_pos rfl, div_ok (by omega), Option.bind_some, Int.tdiv_eq_ediv_of_nonneg t0, hw, book_len]
  by_cases hge : t / e ≥ (psum l e l.length : Int)
  · rw [if_pos hge, if_pos hge]
  · rw [if_neg hge, if_neg hge, Option.bind_some, w64_id (n := t / e + 1) (by omega) (by omega), sub_ok q0 (by omega) (by rw [book_len]; omega), Option.bind_some]
    refine congrArg some (Prod.ext ?_ rfl)
    have hlt : (t / e).toNat < (book l e l.length).length := by rw [book_len]; omega
    simp only
    rw [show (t / e + 1).toNat = (t / e).toNat + 1 by omega, List.take_add_one, List.getElem?_eq_getElem hlt, List.drop_append_of_le_length (by simp; omega), List.drop_of_length_le (by simp; omega), List.getD_eq_getElem?_getD, List.getElem?_eq_getElem hlt]
    rfl
variable (hw : Whole l e)
include hw
theorem ScenesOf_ok : impl_ScenesOf (book l e l.length) e = some (l, 0) := by
  have n1 := h.n1
  have n2 := h.n2
  have hg := psum_ge l e l.length
  unfold impl_ScenesOf
  rw [pagesCode_eq h he hp, Option.bind_some, if_pos rfl]
  have hfin : wp ((impl_ValidScenes l).bind fun r2 => if r2 = true then some (l, (0 : Int)) else some ([], 5)) fun r => r = (l, 0) := by
    rw [ValidScenes_true h]; exact wp_some rfl
  refine eq_of_wp ?_
  refine wp_loop (fun q : List GScene × Int => ∃ x : Nat, q.2 = (x : Int) ∧ x ≤ psum l e l.length ∧ ((x = 0 ∧ q.1 = []) ∨ ∃ k j, k < l.length ∧ 1 ≤ j ∧ j ≤ qp l e k ∧ x = psum l e k + j ∧ q.1 = l.take k ++ [GScene.mk (gd l k).Pose ((j : Int) * e)])) (fun q => (psum l e l.length - q.2).toNat) ⟨0, rfl, by omega, .inl ⟨rfl, rfl⟩⟩ (by simp only; omega) ?_
  rintro ⟨out, _⟩ ⟨x, rfl, hx, hst⟩
  simp only at hx hst ⊢
  rw [book_len]
  refine wp_ite (fun hlt => ?_) (fun hge => ?_)
  · have hxl : x < psum l e l.length := by omega
    obtain ⟨k', j', hk', hj', hxe⟩ := page_at l e hxl
    have hcur : at? (book l e l.length) (x : Int) = some (pch l k') := by
      rw [at_get? (by omega), Int.toNat_natCast, hxe]; exact book_get l e hk' hj'
    -- the state behind the test
    have key : ∀ (out2 : List GScene) (a : Int), out2 = l.take k' ++ [GScene.mk (gd l k').Pose a] → (a = (j' : Int) * e) →
        ∃ s' : List GScene × Int, ((at? out2 (w64 ((out2.length : Int) - 1))).bind fun v1 => (at? out2 (w64 ((out2.length : Int) - 1))).bind fun v2 =>
          some (Step.next (B := List GScene) (R := Empty) (out2.set ((w64 ((out2.length : Int) - 1)).toNat) (GScene.mk v2.Pose (w64 (v1.Ticks + e))), w64 ((x : Int) + 1)))) = some (.next s') ∧
          (∃ x : Nat, s'.2 = (x : Int) ∧ x ≤ psum l e l.length ∧ ((x = 0 ∧ s'.1 = []) ∨ ∃ k j, k < l.length ∧ 1 ≤ j ∧ j ≤ qp l e k ∧ x = psum l e k + j ∧ s'.1 = l.take k ++ [GScene.mk (gd l k).Pose ((j : Int) * e)])) ∧ ((psum l e l.length : Int) - s'.2).toNat < ((psum l e l.length : Int) - (x : Int)).toNat := by
      rintro out2 a rfl rfl
      have hbq := qp_bd h he hk'
      have hj0 : 0 ≤ (j' : Int) * e := Int.mul_nonneg (by omega) (by omega)
      have hj1 : (j' : Int) * e ≤ 101 * 100 := Int.mul_le_mul (by omega) he.2 (by omega) (by omega)
      have hlen : (l.take k' ++ [GScene.mk (gd l k').Pose ((j' : Int) * e)]).length = k' + 1 := by simp; omega
      have hgk : gd (l.take k' ++ [GScene.mk (gd l k').Pose ((j' : Int) * e)]) k' = GScene.mk (gd l k').Pose ((j' : Int) * e) := by
        rw [gd_append, if_neg (by simp; omega), show k' - (l.take k').length = 0 by simp; omega]; rfl
      rw [hlen, w64_id (n := ((k' + 1 : Nat) : Int) - 1) (by omega) (by omega), show ((k' + 1 : Nat) : Int) - 1 = (k' : Int) by omega, at_gd (by rw [hlen]; omega), Option.bind_some, Option.bind_some, hgk, Int.toNat_natCast]
      simp only
      rw [w64_id (n := (j' : Int) * e + e) (by omega) (by omega), w64_id (n := (x : Int) + 1) (by omega) (by omega)]
      refine ⟨_, rfl, ⟨x + 1, by simp, by omega, .inr ⟨k', j' + 1, hk', by omega, by omega, by omega, ?_⟩⟩, by simp only; omega⟩
      simp only
      rw [List.set_append_right _ _ (by simp; omega), show k' - (l.take k').length = 0 by simp; omega]
      have : (j' : Int) * e + e = ((j' + 1 : Nat) : Int) * e := by rw [Int.natCast_add, Int.add_mul]; omega
      rw [this]; rfl
    rcases hst with ⟨hx0, rfl⟩ | ⟨k, j, hk, hj1, hj2, hxk, rfl⟩
    · -- the first page
      have hk0 : k' = 0 := by
        refine Classical.byContradiction fun hne => ?_
        have := psum_ge l e k'
        omega
      subst hk0
      have hps0 : psum l e 0 = 0 := rfl
      have hj0 : j' = 0 := by omega
      subst hj0
      have hbb : (book l e l.length).length = psum l e l.length := book_len l e _
      rw [if_pos (by omega), Option.bind_some, if_pos rfl, w64_id (n := (x : Int) + 1) (by omega) (by omega), sub_ok (by omega) (by omega) (by rw [book_len]; omega), Option.bind_some]
      have hs0 : ((book l e l.length).take (((x : Int) + 1).toNat)).drop ((x : Int).toNat) = (gd l 0).Pose := by
        have hb0 : (book l e l.length)[0]? = some (pch l 0) := by
          have := book_get l e (k := 0) (j := 0) (n := l.length) hk' hj'
          simpa [psum] using this
        rw [h.pose 0 hk', hx0]
        cases hbk : book l e l.length with
        | nil => rw [hbk] at hb0; cases hb0
        | cons c cs => rw [hbk] at hb0; simp at hb0; subst hb0; rfl
      rw [hs0, app_ok (by simp), Option.bind_some, Option.bind_some]
      have kk := key ([] ++ [GScene.mk (gd l 0).Pose 0]) 0 (by simp) (by simp)
      rw [w64_id (n := (x : Int) + 1) (by omega) (by omega)] at kk
      obtain ⟨s', q1, q2⟩ := kk
      exact ⟨_, q1, q2⟩
    · have hx0 : 0 < x := by omega
      -- the page before
      have hprev : at? (book l e l.length) (w64 ((x : Int) - 1)) = some (pch l k) := by
        rw [w64_id (by omega) (by omega), show (x : Int) - 1 = ((x - 1 : Nat) : Int) by omega, at_get? (by omega), Int.toNat_natCast, show x - 1 = psum l e k + (j - 1) by omega]
        exact book_get l e hk (by omega)
      rw [if_neg (by omega), hprev, Option.bind_some, hcur, Option.bind_some, Option.bind_some]
      by_cases hkk : k' = k
      · subst hkk
        have hjj : j' = j := by omega
        subst hjj
        rw [decide_eq_true rfl, Bool.not_true, if_neg (by simp), Option.bind_some]
        obtain ⟨s', q1, q2⟩ := key _ _ rfl rfl
        exact ⟨_, q1, q2⟩
      · -- the next scene begins
        have hk1 : k' = k + 1 ∧ j' = 0 := by
          rcases Nat.lt_or_ge k' k with h1 | h1
          · have := psum_mono l e (j := k' + 1) (k := k) (by omega)
            rw [psum] at this; omega
          · have h2 := psum_mono l e (j := k + 1) (k := k') (by omega)
            rw [psum] at h2
            rcases Nat.lt_or_ge (k + 1) k' with h3 | h3
            · have h4 := psum_mono l e (j := k + 2) (k := k') (by omega)
              rw [psum, psum] at h4
              have := (qp_bd h he (i := k + 1) (by omega)).1
              omega
            · have h5 : k' = k + 1 := by omega
              subst h5
              rw [psum] at hxe
              exact ⟨rfl, by omega⟩
        obtain ⟨rfl, rfl⟩ := hk1
        have hne := h.next (k + 1) (by omega) hk'
        simp only [Nat.add_sub_cancel] at hne
        have hne2 : ¬ ((pch l k).toNat : Int) = ((pch l (k + 1)).toNat : Int) := fun hc => hne (UInt8.toNat_inj.1 (by omega))
        rw [decide_eq_false hne2, Bool.not_false, if_pos rfl, w64_id (n := (x : Int) + 1) (by omega) (by omega), sub_ok (by omega) (by omega) (by rw [book_len]; omega), Option.bind_some]
        have hsx : ((book l e l.length).take (((x : Int) + 1).toNat)).drop ((x : Int).toNat) = (gd l (k + 1)).Pose := by
          have hxlt : x < (book l e l.length).length := by rw [book_len]; omega
          have hcx : (book l e l.length)[x] = pch l (k + 1) := by
            rw [at_of hxlt] at hcur; exact Option.some.inj hcur
          rw [show ((x : Int) + 1).toNat = x + 1 by omega, Int.toNat_natCast, List.take_add_one, List.getElem?_eq_getElem hxlt, List.drop_append_of_le_length (by simp; omega), List.drop_of_length_le (by simp; omega), hcx, h.pose _ hk']
          rfl
        have htk : l.take k ++ [GScene.mk (gd l k).Pose ((j : Int) * e)] = l.take (k + 1) := by
          have hjq : j = qp l e k := by rw [psum] at hxe; omega
          rw [hjq, qp_whole h he hw hk]
          have : GScene.mk (gd l k).Pose (gd l k).Ticks = gd l k := rfl
          rw [this, List.take_add_one, List.getElem?_eq_getElem hk, gd_of hk]; rfl
        rw [hsx, htk, app_ok (by simp; omega), Option.bind_some, Option.bind_some]
        have kk := key _ 0 rfl (by simp)
        rw [w64_id (n := (x : Int) + 1) (by omega) (by omega)] at kk
        obtain ⟨s', q1, q2⟩ := kk
        exact ⟨_, q1, q2⟩
  · have hxx : x = psum l e l.length := by omega
    refine wp_some ?_
    rcases hst with ⟨rfl, _⟩ | ⟨k, j, hk, hj1, hj2, hxk, rfl⟩
    · omega
    · have hkl : k + 1 = l.length := by
        refine Classical.byContradiction fun hne => ?_
        have h4 := psum_mono l e (j := k + 2) (k := l.length) (by omega)
        rw [psum, psum] at h4
        have := (qp_bd h he (i := k + 1) (by omega)).1
        omega
      have hjq : j = qp l e k := by
        have h4 := psum_mono l e (j := k + 1) (k := l.length) (by omega)
        rw [psum] at h4; omega
      have htk : l.take k ++ [GScene.mk (gd l k).Pose ((j : Int) * e)] = l := by
        rw [hjq, qp_whole h he hw hk]
        have : GScene.mk (gd l k).Pose (gd l k).Ticks = gd l k := rfl
        rw [this, gd_of hk]
        have := take_succ_map (g := id) hk
        simp only [List.map_id, id] at this
        rw [this, hkl, List.take_length]
      rw [htk]; exact hfin
end
theorem SameScenes_self {l : List GScene} (hl : l.length ≤ 1000000) : spec_SameScenes l l = some true := by
  unfold spec_SameScenes
  rw [if_pos rfl]
  refine eq_of_wp ?_
  refine wp_cnt (fun k => (k : Int)) l.length rfl (by omega) (fun k hk => ?_) (b := ()) ?_ (wp_some rfl)
  · rw [if_pos (by omega), at_gd hk, Option.bind_some, Option.bind_some, if_pos (by simp), w64_id (by omega) (by omega)]; rfl
  · rw [if_neg (by omega)]
theorem laws_FnBooks_true {code more : List Int} (hc : okL (okI .u8) code) (hm : okL (okI .u8) more) : laws_FnBooks code more = some true := by
  unfold laws_FnBooks
  obtain ⟨r, hr, hr2⟩ := a2Long_eq code more
  rw [hr, Option.bind_some]
  cases r with
  | true => rfl
  | false =>
  obtain ⟨hc2, hm2⟩ := hr2 rfl
  simp only [Bool.false_eq_true, if_false]
  obtain ⟨l, hl, h⟩ := A2Scenes_ok hc (by omega)
  have n1 := h.n1
  have n2 := h.n2
  obtain ⟨⟨e, c3⟩, e3, rfl, he, hw⟩ := ExactTick_ok h
  simp only at he hw
  have htb := tsum_bd h (Nat.le_refl l.length)
  rw [hl, Option.bind_some, e3, Option.bind_some, Length_eq h, Option.bind_some]
  simp only [if_true, decide_true, Bool.not_true]
  rw [if_neg (by omega), if_neg (by omega), Option.bind_some, if_neg (by simp)]
  refine eq_of_wp ?_
  refine wp_cnt (fun k => (tsum l k, (k : Int))) l.length rfl (by omega) (fun k hk => ?_) (b := tsum l l.length) ?_ ?_
  · have h1 := tsum_bd h (k := k) (by omega)
    have h2 := h.ticks k hk
    simp only
    rw [if_pos (by omega), at_gd hk, Option.bind_some, mod_ok (by omega), Option.bind_some, Int.tmod_eq_emod_of_nonneg (by omega), if_pos (hw k hk), Option.bind_some, w64_id (n := (k : Int) + 1) (by omega) (by omega), w64_id (by omega) (by omega), tsum]; rfl
  · simp only; rw [if_neg (by omega)]
  have hps := psum_whole h he hw (Nat.le_refl l.length)
  have hes := esum_whole h he hw (Nat.le_refl l.length)
  rw [BookFor_eq h he, Option.bind_some, ErrorOfBook_eq h he, Option.bind_some, w64_id (n := 60 * e) (by omega) (by omega), if_pos rfl]
  by_cases hp : psum l e l.length > 60
  · have hgt : ¬ tsum l l.length ≤ 60 * e := by
      have : (61 : Int) * e ≤ (psum l e l.length : Int) * e := Int.mul_le_mul_of_nonneg_right (by omega) (by omega)
      omega
    rw [if_pos hp, if_pos hp, if_pos rfl, decide_eq_false (by simp), decide_eq_false hgt]
    exact wp_some rfl
  · have hle : tsum l l.length ≤ 60 * e := by
      have : (psum l e l.length : Int) * e ≤ 60 * e := Int.mul_le_mul_of_nonneg_right (by omega) (by omega)
      omega
    have hp' : psum l e l.length ≤ 60 := by omega
    rw [if_neg hp, if_neg hp, if_pos rfl, decide_eq_true (show ((0 : Int) = 0) from rfl), decide_eq_true hle]
    simp only [beq_self_eq_true, if_true, Option.bind_some, Bool.false_eq_true, if_false]
    rw [ScenesOf_ok h he hp' hw, Option.bind_some, book_len, hps, w64_id (by omega) (by omega), if_pos rfl, if_pos hes]
    simp only [if_true]
    rw [SameScenes_self (by omega), Option.bind_some, Bool.not_true, Option.bind_some, if_neg (by simp)]
    obtain ⟨t, ht, t0, t1⟩ := a2At_ok hm hm2 (i := 0) (n := tsum l l.length) (by omega) (by omega)
    rw [ht, Option.bind_some, PageAt_eq h he hp' t0 (by omega), Option.bind_some, PageAt_eq h he hp' (t := tsum l l.length) (by omega) (by omega), Option.bind_some]
    have hd1 : t / e < (psum l e l.length : Int) := (Int.ediv_lt_iff_lt_mul (by omega)).2 (by omega)
    have hd0 : 0 ≤ t / e := Int.ediv_nonneg t0 (by omega)
    have hd2 : tsum l l.length / e ≥ (psum l e l.length : Int) := (Int.le_ediv_iff_mul_le (by omega)).2 (by omega)
    have hlt : ¬ t / e ≥ (psum l e l.length : Int) := by omega
    rw [if_neg hlt, if_pos hd2]
    obtain ⟨k, j, hk, hj, hx⟩ := page_at l e (x := (t / e).toNat) (n := l.length) (by omega)
    have hpg : (book l e l.length).getD (t / e).toNat 0 = pch l k := by
      rw [List.getD_eq_getElem?_getD, hx, book_get l e hk hj]; rfl
    rw [hpg]
    -- the scene at the tick
    have hk1 : tsum l k ≤ t := by
      rw [← psum_whole h he hw (Nat.le_of_lt hk)]
      have h1 : (psum l e k : Int) ≤ t / e := by omega
      exact (Int.le_ediv_iff_mul_le (by omega)).1 h1
    have hk2 : t < tsum l (k + 1) := by
      rw [← psum_whole h he hw (k := k + 1) (by omega)]
      have h1 : t / e < (psum l e (k + 1) : Int) := by rw [psum]; omega
      exact (Int.ediv_lt_iff_lt_mul (by omega)).1 h1
    have hmono : ∀ {a b : Nat}, a ≤ b → b ≤ l.length → tsum l a ≤ tsum l b := by
      intro a b hab
      induction b with
      | zero => intro _; rw [show a = 0 by omega]; omega
      | succ b ih =>
        intro hb
        rcases Nat.lt_or_ge a (b + 1) with h1 | h1
        · have h2 := ih (by omega) (by omega)
          have h3 := h.ticks b (by omega)
          rw [tsum]; omega
        · rw [show a = b + 1 by omega]; omega
    refine wp_cnt (fun i => (tsum l i, (i : Int))) k rfl (by omega) (fun i hi => ?_) (b := (k : Int)) ?_ ?_
    · have h1 := tsum_bd h (k := i) (by omega)
      have h2 := h.ticks i (by omega)
      have h3 := hmono (a := i + 1) (b := k) (by omega) (by omega)
      rw [tsum] at h3
      simp only
      rw [if_pos (by omega), at_gd (show i < l.length by omega), Option.bind_some, w64_id (n := tsum l i + (gd l i).Ticks) (by omega) (by omega), decide_eq_true (by omega), Option.bind_some, if_pos rfl, Option.bind_some, w64_id (n := (i : Int) + 1) (by omega) (by omega), w64_id (n := tsum l i + (gd l i).Ticks) (by omega) (by omega), tsum]; rfl
    · have h1 := tsum_bd h (k := k) (by omega)
      have h2 := h.ticks k hk
      rw [tsum] at hk2
      simp only
      rw [if_pos (by omega), at_gd hk, Option.bind_some, w64_id (by omega) (by omega), decide_eq_false (by omega), Option.bind_some, if_neg (by simp)]
    · simp only [if_true]
      rw [if_pos (by omega), at_gd hk, Option.bind_some, h.pose k hk, if_pos (by simp)]
      exact wp_some rfl
end Go.Vs.G

