/- Plain facts about the typed functions, up to the law: no program in sight. No conditions. -/
import Derived.Test.YtiefnapeghkjnaaV5
import Derived.Test.YtiefnapeghkjnaaDLTicks
namespace Go.Vs
open Go

section
variable {α β S B R : Type}

theorem at_of {l : List α} {i : Nat} (h : i < l.length) : at? l (i : Int) = some l[i] := at_nat h
end
end Go.Vs

namespace Go.Vs.G
open Go Go.Vs

/-- a source that can still be asked; B bounds the place that it has come to -/
structure SrcOk (B : Int) (s : GL00Src) : Prop where
  bytes : ∀ x, x ∈ s.code → 0 ≤ x ∧ x ≤ 255
  len : s.code.length ≤ 1000000
  at0 : 0 ≤ s.at_
  atB : s.at_ ≤ B
theorem SrcOk.mono {B B' : Int} {s : GL00Src} (h : SrcOk B s) (hB : B ≤ B') : SrcOk B' s := ⟨h.bytes, h.len, h.at0, Int.le_trans h.atB hB⟩
theorem srcOk_from {code : List Int} (h : okL (okI .u8) code) (hl : code.length ≤ 1000000) : SrcOk 0 (GL00Src.mk code 0 0) :=
  ⟨fun x hx => okU8 (h.2 x hx), hl, by simp, by simp⟩
theorem shr40 (n : Int) : shr? .u64 n 40 = some (n.fdiv (2 ^ 40)) := by
  simp [shr?, IntKind.bits]
theorem and255 (n : Int) : 0 ≤ bit_and .u64 n 255 ∧ bit_and .u64 n 255 ≤ 255 := by
  unfold bit_and
  rw [wu64_def]
  have h : (BitVec.ofInt IntKind.u64.bits n &&& BitVec.ofInt IntKind.u64.bits 255).toNat ≤ 255 := by
    rw [BitVec.toNat_and]
    exact Nat.le_trans Nat.and_le_right (by decide)
  omega
theorem next_ok {B : Int} {s : GL00Src} (h : SrcOk B s) (hB : B ≤ 4611686018427387904) : ∃ v s', spec_l00Src_next s = some (v, s') ∧ 0 ≤ v ∧ v ≤ 255 ∧ SrcOk (B + 1) s' := by
  have h1 := h.at0
  have h2 := h.atB
  have h3 := h.len
  have hat : w64 (s.at_ + 1) = s.at_ + 1 := w64_id (by omega) (by omega)
  have hb : ∃ b, (if s.at_ < (s.code.length : Int) then ((at? s.code s.at_).bind fun v1 => some (w64 v1)) else some 0) = some b ∧ 0 ≤ b ∧ b ≤ 255 := by
    split
    · rename_i hlt
      rw [at_ok h1 (by omega), Option.bind_some]
      obtain ⟨g1, g2⟩ := h.bytes s.code[s.at_.toNat] (List.getElem_mem (by omega))
      exact ⟨_, rfl, by rw [w64_id (by omega) (by omega)]; omega, by rw [w64_id (by omega) (by omega)]; omega⟩
    · exact ⟨0, rfl, by omega, by omega⟩
  obtain ⟨b, hb, b0, b1⟩ := hb
  unfold spec_l00Src_next
  rw [hb, Option.bind_some, hat]
  split
  · exact ⟨_, _, rfl, b0, b1, ⟨h.bytes, h.len, by simp only; omega, by simp only; omega⟩⟩
  · rw [shr40, Option.bind_some]
    have := and255 ((IntKind.wrap .u64 ((IntKind.wrap .u64 ((IntKind.wrap .u64 (s.seed * 6364136223846793005)) + (IntKind.wrap .u64 b))) + 1442695040888963407)).fdiv (2 ^ 40))
    exact ⟨_, _, rfl, by rw [w64_id (by omega) (by omega)]; omega, by rw [w64_id (by omega) (by omega)]; omega, ⟨h.bytes, h.len, by simp only; omega, by simp only; omega⟩⟩
theorem pick_ok {B : Int} {s : GL00Src} (h : SrcOk B s) (hB : B ≤ 4611686018427387000) (n : Int) : ∃ v s', spec_l00Src_pick s n = some (v, s') ∧ 0 ≤ v ∧ (v = 0 ∨ v < n) ∧ SrcOk (B + 2) s' := by
  unfold spec_l00Src_pick
  by_cases hn : n ≤ 1
  · rw [if_pos hn]; exact ⟨0, s, rfl, by omega, .inl rfl, h.mono (by omega)⟩
  · rw [if_neg hn]
    obtain ⟨v, s1, e1, v0, v1, k1⟩ := next_ok h (by omega)
    rw [e1, Option.bind_some]
    by_cases h2 : n > 200
    · rw [if_pos h2]
      obtain ⟨u, s2, e2, u0, u1, k2⟩ := next_ok k1 (by omega)
      simp only
      rw [e2, Option.bind_some, mod_ok (by omega), Option.bind_some, w64_id (n := v * 256) (by omega) (by omega), w64_id (by simp only; omega) (by simp only; omega)]
      have e : (v * 256 + u).tmod n = (v * 256 + u) % n := Int.tmod_eq_emod_of_nonneg (by omega)
      refine ⟨_, _, rfl, ?_, ?_, by rw [show B + 2 = B + 1 + 1 by omega]; exact k2⟩
      · simp only [e]; exact Int.emod_nonneg _ (by omega)
      · simp only [e]; right; exact Int.emod_lt_of_pos _ (by omega)
    · rw [if_neg h2, mod_ok (by omega), Option.bind_some]
      simp only
      have e : v.tmod n = v % n := Int.tmod_eq_emod_of_nonneg (by omega)
      refine ⟨_, _, rfl, ?_, ?_, k1.mono (by omega)⟩
      · rw [e]; exact Int.emod_nonneg _ (by omega)
      · rw [e]; right; exact Int.emod_lt_of_pos _ (by omega)
theorem a2Long_eq (a b : List Int) : ∃ r, laws_a2Long a b = some r ∧ (r = false → a.length ≤ 3000 ∧ b.length ≤ 3000) := by
  unfold laws_a2Long
  split
  · exact ⟨true, rfl, by simp⟩
  · exact ⟨_, rfl, by simp; omega⟩
/-- a number off a byte -/
theorem a2At_ok {code : List Int} (h : okL (okI .u8) code) (hl : code.length ≤ 3000) {i n : Int} (hi : 0 ≤ i) (hn : 1 ≤ n) : ∃ v, laws_a2At code i n = some v ∧ 0 ≤ v ∧ v < n := by
  unfold laws_a2At
  by_cases h1 : i ≥ (code.length : Int)
  · rw [if_pos h1]; exact ⟨0, rfl, by omega, by omega⟩
  · rw [if_neg h1, Option.bind_some]
    have h2 : ¬ n < 1 := by omega
    simp only [h2, decide_false, Bool.false_eq_true, if_false]
    rw [at_ok hi (by omega), Option.bind_some, mod_ok (by omega), Option.bind_some]
    obtain ⟨g1, g2⟩ := okU8 (h.2 code[i.toNat] (List.getElem_mem (by omega)))
    rw [w64_id (by omega) (by omega)]
    have e : (code[i.toNat]'(by omega)).tmod n = (code[i.toNat]'(by omega)) % n := Int.tmod_eq_emod_of_nonneg g1
    exact ⟨_, rfl, by rw [e]; exact Int.emod_nonneg _ (by omega), by rw [e]; exact Int.emod_lt_of_pos _ (by omega)⟩
end Go.Vs.G

namespace Go.Vs.G
open Go Go.Vs

/-- f is n / d in lowest terms -/
structure Red (n d : Int) (f : GFraction) : Prop where
  pos : 0 < f.Den
  cop : Int.gcd f.Num f.Den = 1
  eq : f.Num * d = n * f.Den
theorem dvd_of_cop {a b c : Int} (h : Int.gcd a b = 1) (hd : b ∣ a * c) : b ∣ c := by
  rw [← Int.natAbs_dvd_natAbs] at hd ⊢
  rw [Int.natAbs_mul] at hd
  have : Nat.Coprime b.natAbs a.natAbs := by rw [Nat.coprime_comm]; exact h
  exact this.dvd_of_dvd_mul_left hd
theorem Red.unique {f g : GFraction} (hf : 0 < f.Den) (hg : 0 < g.Den) (cf : Int.gcd f.Num f.Den = 1) (cg : Int.gcd g.Num g.Den = 1) (h : f.Num * g.Den = g.Num * f.Den) : f = g := by
  have h1 : f.Den ∣ g.Den := dvd_of_cop cf ⟨g.Num, by rw [h, Int.mul_comm]⟩
  have h2 : g.Den ∣ f.Den := dvd_of_cop cg ⟨f.Num, by rw [← h, Int.mul_comm]⟩
  have hd : f.Den = g.Den := Int.le_antisymm (Int.le_of_dvd hg h1) (Int.le_of_dvd hf h2)
  have hn : f.Num = g.Num := by
    rw [hd] at h
    exact Int.eq_of_mul_eq_mul_right (by omega) h
  cases f; cases g
  simp_all
end Go.Vs.G

namespace Go.Vs.G
open Go Go.Vs

theorem Red.same {n d : Int} {f g : GFraction} (hf : Red n d f) (hg : Red n d g) (hd : d ≠ 0) : f = g := by
  refine Red.unique hf.pos hg.pos hf.cop hg.cop ?_
  have e1 := hf.eq
  have e2 := hg.eq
  refine Int.eq_of_mul_eq_mul_left (a := d) hd ?_
  calc d * (f.Num * g.Den) = (f.Num * d) * g.Den := by simp only [Int.mul_assoc, Int.mul_comm, Int.mul_left_comm]
    _ = (g.Num * d) * f.Den := by rw [e1, e2]; simp only [Int.mul_assoc, Int.mul_comm, Int.mul_left_comm]
    _ = d * (g.Num * f.Den) := by simp only [Int.mul_assoc, Int.mul_comm, Int.mul_left_comm]
/- counting -/
/- the same on both sides -/
/- draws -/
theorem one_ok {B : Int} {s : GL00Src} (h : SrcOk B s) (hB : B ≤ 4611686018427387000) (n : Int) : ∃ v s', spec_l00Src_one s n = some (v, s') ∧ SrcOk (B + 2) s' := by
  unfold spec_l00Src_one
  obtain ⟨v, s1, e1, _, _, k1⟩ := pick_ok h hB n
  rw [e1]; exact ⟨_, _, rfl, k1⟩
end Go.Vs.G

namespace Go.Vs
open Go

section
variable {α β γ R : Type}

/-- the same, with a start -/
theorem mapS' {f : Int → Option β} (g : Nat → β) (n : Nat) (hf : ∀ i : Nat, i < n → f (i : Int) = some (g i)) (hl : n ≤ 4294967296)
    {body : List β × Int → Option (Step (List β × Int) (List β) R)} {kb : List β → Option γ} {kr : R → Option γ}
    (hb : ∀ (out : List β) (i : Int), body (out, i) = if i < (n : Int) then ((f i).bind fun r => (app? out ([r] : List β)).bind fun l1 => some (.next (l1, w64 (i + 1)))) else some (.brk out)) :
    onL (loop body loopLim ([], 0)) kb kr = kb (tab g n) := by
  have := loop_brk (body := body) (fun j : Nat => (tab g j, (j : Int))) (b := tab g n) n (by omega) (fun j hj => by
    rw [hb, if_pos (by omega), hf j hj, Option.bind_some, app_ok (by simp; omega), Option.bind_some, w64_id (by omega) (by omega), tab_succ]
    congr 3) (by rw [hb, if_neg (by omega)])
  simp only [tab_zero, Int.natCast_zero] at this
  rw [this]; rfl
/-- a loop whose state at each round is told -/
theorem wp_cnt {S B : Type} {Q : γ → Prop} {body : S → Option (Step S B R)} {kb : B → Option γ} {kr : R → Option γ} {s0 : S} (st : Nat → S) (n : Nat) (h0 : s0 = st 0) (hn : n < 18446744073709551616)
    (hs : ∀ k, k < n → body (st k) = some (.next (st (k + 1)))) {b : B} (he : body (st n) = some (.brk b)) (hq : wp (kb b) Q) : wp (onL (loop body loopLim s0) kb kr) Q := by
  rw [h0, loop_brk st n hn hs he]; exact hq
end
end Go.Vs

namespace Go.Vs
theorem wp_seq {α β : Type} {A : Option β} {k : β → Option α} {P : β → Prop} {Q : α → Prop} (h : wp A P) (hk : ∀ x, P x → wp (k x) Q) : wp (A.bind k) Q := by
  obtain ⟨x, rfl, hx⟩ := h; exact hk x hx
end Go.Vs
namespace Go.Vs.G
open Go Go.Vs

section
variable {α : Type} {Q : α → Prop} {B : Int} {s : GL00Src}
theorem wp_pick {n : Int} {k : Int × GL00Src → Option α} (h : SrcOk B s) (hB : B ≤ 4611686018427387000) (hk : ∀ v s', 0 ≤ v → (v = 0 ∨ v < n) → SrcOk (B + 2) s' → wp (k (v, s')) Q) : wp ((spec_l00Src_pick s n).bind k) Q := by
  obtain ⟨v, s', e, h0, h1, h2⟩ := pick_ok h hB n
  rw [e]; exact hk v s' h0 h1 h2
theorem wp_one {n : Int} {k : Bool × GL00Src → Option α} (h : SrcOk B s) (hB : B ≤ 4611686018427387000) (hk : ∀ v s', SrcOk (B + 2) s' → wp (k (v, s')) Q) : wp ((spec_l00Src_one s n).bind k) Q := by
  obtain ⟨v, s', e, h2⟩ := one_ok h hB n
  rw [e]; exact hk v s' h2
theorem wp_from {code : List Int} {k : GL00Src → Option α} (h : okL (okI .u8) code) (hl : code.length ≤ 1000000) (hk : ∀ s, SrcOk 0 s → wp (k s) Q) : wp ((spec_l00From code).bind k) Q := hk _ (srcOk_from h hl)
theorem wp_app {β : Type} {l m : List β} {k : List β → Option α} (h : l.length + m.length ≤ 4294967296) (hk : wp (k (l ++ m)) Q) : wp ((app? l m).bind k) Q := by
  rw [app_ok h]; exact hk
end
end Go.Vs.G

namespace Go.Vs
open Go
section
variable {α : Type} [Inhabited α]
def gd (l : List α) (i : Nat) : α := l.getD i default
theorem gd_of {l : List α} {i : Nat} (h : i < l.length) : gd l i = l[i] := by unfold gd; simp [h]
theorem at_gd {l : List α} {i : Nat} (h : i < l.length) : at? l (i : Int) = some (gd l i) := by rw [at_of h, gd_of h]
theorem gd_mem {l : List α} {i : Nat} (h : i < l.length) : gd l i ∈ l := by rw [gd_of h]; exact List.getElem_mem h
theorem gd_append {l m : List α} {i : Nat} : gd (l ++ m) i = if i < l.length then gd l i else gd m (i - l.length) := by
  unfold gd; rw [List.getD_eq_getElem?_getD, List.getElem?_append]; split <;> rfl
end
end Go.Vs
namespace Go.Vs.G
open Go Go.Vs
def vpt (p : GPoint) : Bool := decide (0 ≤ p.X ∧ p.X ≤ 1000) && decide (0 ≤ p.Y ∧ p.Y ≤ 1000)
def vps (j : List GPoint) : Bool := decide (1 ≤ j.length ∧ j.length ≤ 8) && j.all vpt
theorem within_d (n a b : Int) : impl_within n a b = some (decide (a ≤ n ∧ n ≤ b)) := by
  unfold impl_within
  by_cases h : n ≥ a
  · rw [if_pos h]; exact congrArg some (decide_eq_decide.2 (by omega))
  · rw [if_neg h, decide_eq_false (by omega)]
/- what lies between -/
def rnd (u d : Int) : Int := (2 * u + d) / (2 * d)
theorem rounded_eq {u d : Int} (h0 : 0 ≤ u) (h1 : u ≤ 1000000000) (d0 : 1 ≤ d) (d1 : d ≤ 1000000) : impl_rounded u d = some (rnd u d) := by
  unfold impl_rounded rnd
  rw [w64_id (n := 2 * u) (by omega) (by omega), w64_id (n := 2 * u + d) (by omega) (by omega), w64_id (n := 2 * d) (by omega) (by omega), div_ok (by omega), mod_ok (by omega), Option.bind_some, Option.bind_some]
  have e1 : (2 * u + d).tdiv (2 * d) = (2 * u + d) / (2 * d) := Int.tdiv_eq_ediv_of_nonneg (by omega)
  have e2 : (2 * u + d).tmod (2 * d) = (2 * u + d) % (2 * d) := Int.tmod_eq_emod_of_nonneg (by omega)
  have g1 : 0 ≤ (2 * u + d) / (2 * d) := Int.ediv_nonneg (by omega) (by omega)
  have g2 : (2 * u + d) / (2 * d) ≤ 2 * u + d := Int.ediv_le_self _ (by omega)
  have g3 : 0 ≤ (2 * u + d) % (2 * d) := Int.emod_nonneg _ (by omega)
  rw [e1, e2, if_neg (by omega)]
  exact congrArg some (w64_id (by omega) (by omega))
section
variable {a b : List GPoint} (ha : vps a = true) (hb : vps b = true) (hl : a.length = b.length) {p n : Int} (hp : 0 ≤ p ∧ p ≤ n) (hn : 1 ≤ n ∧ n ≤ 10000)
include ha hb hl hp hn
end
end Go.Vs.G

namespace Go.Vs.G
open Go Go.Vs
def pch (l : List GScene) (i : Nat) : UInt8 := (gd l i).Pose.headD 0
/-- scenes that are drawn -/
structure VSc (l : List GScene) : Prop where
  n1 : 1 ≤ l.length
  n2 : l.length ≤ 12
  pose : ∀ i, i < l.length → (gd l i).Pose = [pch l i]
  let' : ∀ i, i < l.length → 97 ≤ (pch l i).toNat ∧ (pch l i).toNat ≤ 122
  ticks : ∀ i, i < l.length → 1 ≤ (gd l i).Ticks ∧ (gd l i).Ticks ≤ 100
  next : ∀ i, 0 < i → i < l.length → pch l (i - 1) ≠ pch l i
/-- letters -/
theorem isLetters_true {s : List UInt8} {m : Int} (h1 : 1 ≤ s.length) (h2 : (s.length : Int) ≤ m) (h3 : s.length ≤ 1000000) (h : ∀ c, c ∈ s → 97 ≤ c.toNat ∧ c.toNat ≤ 122) : impl_isLetters s m = some true := by
  unfold impl_isLetters
  refine eq_of_wp ?_
  refine wp_cnt (fun k => (k : Int)) s.length rfl (by omega) (fun k hk => ?_) (b := ()) ?_ ?_
  · have := h _ (gd_mem hk)
    rw [if_pos (by omega), at_gd hk, Option.bind_some, if_neg (by omega), Option.bind_some, decide_eq_false (by omega), Option.bind_some, if_neg (by simp), w64_id (by omega) (by omega)]; rfl
  · rw [if_neg (by omega)]
  · rw [if_pos (by omega), decide_eq_true h2]; exact wp_some rfl
theorem ValidScenes_true {l : List GScene} (h : VSc l) : impl_ValidScenes l = some true := by
  have n1 := h.n1
  have n2 := h.n2
  unfold impl_ValidScenes
  refine eq_of_wp ?_
  refine wp_cnt (fun k => (k : Int)) l.length rfl (by omega) (fun k hk => ?_) (b := ()) ?_ ?_
  · have ht := h.ticks k hk
    have hl := h.let' k hk
    have hil : impl_isLetters (gd l k).Pose 1 = some true := by
      rw [h.pose k hk]
      exact isLetters_true (by simp) (by simp) (by simp) (fun c hc => by rw [List.mem_singleton.1 hc]; exact hl)
    rw [if_pos (by omega), at_gd hk, Option.bind_some, hil, Option.bind_some, if_pos rfl, within_d, Option.bind_some, decide_eq_true (by omega), if_pos rfl]
    by_cases h0 : k = 0
    · rw [if_neg (by omega), Option.bind_some, if_neg (by simp), w64_id (by omega) (by omega)]; rfl
    · have hne := h.next k (by omega) hk
      have : ((gd l (k - 1)).Pose == (gd l k).Pose) = false := by
        rw [h.pose _ (by omega), h.pose k hk]
        simpa using hne
      rw [if_pos (by omega), w64_id (n := (k : Int) - 1) (by omega) (by omega), show (k : Int) - 1 = ((k - 1 : Nat) : Int) by omega, at_gd (by omega), Option.bind_some, this, Option.bind_some, if_neg (by simp), w64_id (by omega) (by omega)]; rfl
  · rw [if_neg (by omega)]
  · rw [if_pos (by omega), decide_eq_true (by omega)]; exact wp_some rfl
/-- pages of a scene -/
def qp (l : List GScene) (e : Int) (i : Nat) : Nat := (max (rnd (gd l i).Ticks e) 1).toNat
def psum (l : List GScene) (e : Int) : Nat → Nat
  | 0 => 0
  | k + 1 => psum l e k + qp l e k
def esum (l : List GScene) (e : Int) : Nat → Int
  | 0 => 0
  | k + 1 => esum l e k + max ((qp l e k : Int) * e - (gd l k).Ticks) ((gd l k).Ticks - (qp l e k : Int) * e)
def book (l : List GScene) (e : Int) : Nat → List UInt8
  | 0 => []
  | k + 1 => book l e k ++ List.replicate (qp l e k) (pch l k)
theorem book_len (l : List GScene) (e : Int) : ∀ k, (book l e k).length = psum l e k
  | 0 => rfl
  | k + 1 => by rw [book, List.length_append, List.length_replicate, book_len l e k]; rfl
theorem psum_ge (l : List GScene) (e : Int) : ∀ k, k ≤ psum l e k
  | 0 => by simp
  | k + 1 => by have := psum_ge l e k; rw [psum]; unfold qp; omega
theorem psum_mono (l : List GScene) (e : Int) {j : Nat} : ∀ {k : Nat}, j ≤ k → psum l e j ≤ psum l e k
  | 0, h => by rw [show j = 0 by omega]; exact Nat.le_refl _
  | k + 1, h => by
    rcases Nat.lt_or_ge j (k + 1) with h1 | h1
    · have := psum_mono l e (j := j) (k := k) (by omega); rw [psum]; omega
    · rw [show j = k + 1 by omega]; exact Nat.le_refl _
theorem repeatL_one' (c : UInt8) : ∀ n, Lib.repeatL [c] n = List.replicate n c
  | 0 => rfl
  | n + 1 => by rw [Lib.repeatL, repeatL_one' c n, List.replicate_succ]; rfl
section
variable {l : List GScene} (h : VSc l) {e : Int} (he : 1 ≤ e ∧ e ≤ 100)
include h he
theorem qp_bd {i : Nat} (hi : i < l.length) : 1 ≤ qp l e i ∧ qp l e i ≤ 101 := by
  have ht := h.ticks i hi
  unfold qp rnd
  have : (2 * (gd l i).Ticks + e) / (2 * e) ≤ 101 := Int.le_of_lt_add_one ((Int.ediv_lt_iff_lt_mul (by omega)).2 (by omega))
  omega
theorem psum_le {k : Nat} (hk : k ≤ l.length) : psum l e k ≤ 101 * k := by
  induction k with
  | zero => simp [psum]
  | succ k ih =>
    have := ih (by omega)
    have := qp_bd h he (i := k) (by omega)
    rw [psum]; omega
theorem esum_bd {k : Nat} (hk : k ≤ l.length) : 0 ≤ esum l e k ∧ esum l e k ≤ 20000 * k := by
  induction k with
  | zero => simp [esum]
  | succ k ih =>
    have := ih (by omega)
    have h1 := qp_bd h he (i := k) (by omega)
    have h2 := h.ticks k (by omega)
    have h3 : 0 ≤ (qp l e k : Int) * e := Int.mul_nonneg (by omega) (by omega)
    have h4 : (qp l e k : Int) * e ≤ 101 * 100 := Int.mul_le_mul (by omega) he.2 (by omega) (by omega)
    rw [esum]; omega
theorem pagesOf_eq : impl_pagesOf l e = some (tab (fun i => (qp l e i : Int)) l.length) := by
  have n2 := h.n2
  unfold impl_pagesOf
  refine (mapS' (R := Empty) (f := fun x1 => (at? l x1).bind fun v1 => (impl_rounded v1.Ticks e).bind fun r1 => some (imax r1 1)) (fun i => (qp l e i : Int)) l.length (fun i hi => ?_) (by omega) (fun out i => ?_)).trans rfl
  · have ht := h.ticks i hi
    rw [at_gd hi, Option.bind_some, rounded_eq (by omega) (by omega) (by omega) (by omega), Option.bind_some, imax_def]
    refine congrArg some ?_
    unfold qp; omega
  · by_cases hi : i < (l.length : Int)
    · simp only [if_pos hi, Option.bind_assoc, Option.bind_some]
    · simp only [if_neg hi]
theorem sumOf_eq : impl_sumOf (tab (fun i => (qp l e i : Int)) l.length) = some (psum l e l.length : Int) := by
  have n2 := h.n2
  unfold impl_sumOf
  refine eq_of_wp ?_
  refine wp_cnt (fun k => ((psum l e k : Int), (k : Int))) l.length rfl (by omega) (fun k hk => ?_) (b := (psum l e l.length : Int)) ?_ (wp_some rfl)
  · have h1 := psum_le h he (k := k) (by omega)
    have h2 := qp_bd h he hk
    simp only [tab_length]
    rw [if_pos (by omega), tab_at (by omega) (by omega), Option.bind_some, Int.toNat_natCast, w64_id (n := (k : Int) + 1) (by omega) (by omega), w64_id (by omega) (by omega), psum]
    rfl
  · simp only [tab_length]; rw [if_neg (by omega)]
theorem bookCode_eq : impl_bookCode l e = some (if psum l e l.length > 60 then 5 else 0) := by
  unfold impl_bookCode
  rw [ValidScenes_true h, Option.bind_some, if_pos rfl, within_d, Option.bind_some, decide_eq_true he, if_pos rfl, pagesOf_eq h he, Option.bind_some, sumOf_eq h he, Option.bind_some]
  by_cases h1 : psum l e l.length > 60
  · rw [if_pos (by omega), if_pos h1]
  · rw [if_neg (by omega), if_neg h1]
theorem BookFor_eq : impl_BookFor l e = some (if psum l e l.length > 60 then ([], 5) else (book l e l.length, 0)) := by
  have n2 := h.n2
  unfold impl_BookFor
  rw [bookCode_eq h he, Option.bind_some]
  by_cases h1 : psum l e l.length > 60
  · rw [if_pos h1, if_pos h1, if_neg (by omega)]
  · rw [if_neg h1, if_neg h1, if_pos rfl, pagesOf_eq h he, Option.bind_some]
    refine eq_of_wp ?_
    refine wp_cnt (fun k => (book l e k, (k : Int))) l.length rfl (by omega) (fun k hk => ?_) (b := book l e l.length) ?_ (wp_some rfl)
    · have h2 := qp_bd h he hk
      have h3 := psum_mono l e (j := k) (k := l.length) (by omega)
      simp only [tab_length]
      rw [if_pos (by omega), tab_at (by omega) (by omega), Option.bind_some, at_gd hk, Option.bind_some, Int.toNat_natCast]
      unfold strings_Repeat
      rw [h.pose k hk, if_pos ⟨by omega, by omega, by simp; omega⟩, Option.bind_some, Int.toNat_natCast, repeatL_one', app_ok (by rw [book_len, List.length_replicate]; omega), Option.bind_some, w64_id (by omega) (by omega)]
      rfl
    · simp only [tab_length]; rw [if_neg (by omega)]
theorem errorOf_eq : impl_errorOf l e = some (esum l e l.length) := by
  have n2 := h.n2
  unfold impl_errorOf
  rw [pagesOf_eq h he, Option.bind_some]
  refine eq_of_wp ?_
  refine wp_cnt (fun k => (esum l e k, (k : Int))) l.length rfl (by omega) (fun k hk => ?_) (b := esum l e l.length) ?_ (wp_some rfl)
  · have h1 := esum_bd h he (k := k) (by omega)
    have h2 := qp_bd h he hk
    have h5 := h.ticks k hk
    have h3 : 0 ≤ (qp l e k : Int) * e := Int.mul_nonneg (by omega) (by omega)
    have h4 : (qp l e k : Int) * e ≤ 101 * 100 := Int.mul_le_mul (by omega) he.2 (by omega) (by omega)
    simp only [tab_length]
    rw [if_pos (by omega), tab_at (by omega) (by omega), Option.bind_some, at_gd hk, Option.bind_some, Int.toNat_natCast]
    unfold impl_apart
    rw [w64_id (n := (qp l e k : Int) * e) (by omega) (by omega), Option.bind_some, imax_def, w64_id (n := (k : Int) + 1) (by omega) (by omega), w64_id (n := (qp l e k : Int) * e - (gd l k).Ticks) (by omega) (by omega), w64_id (n := (gd l k).Ticks - (qp l e k : Int) * e) (by omega) (by omega), w64_id (by omega) (by omega), esum]
    rfl
  · simp only [tab_length]; rw [if_neg (by omega)]
theorem ErrorOfBook_eq : impl_ErrorOfBook l e = some (if psum l e l.length > 60 then (0, 5) else (esum l e l.length, 0)) := by
  unfold impl_ErrorOfBook
  rw [bookCode_eq h he, Option.bind_some]
  by_cases h1 : psum l e l.length > 60
  · rw [if_pos h1, if_pos h1, if_neg (by omega)]
  · rw [if_neg h1, if_neg h1, if_pos rfl, errorOf_eq h he]; rfl
end
theorem wp_textB {α : Type} {B : Int} {s : GL00Src} {l : List (List UInt8)} {k : List UInt8 × GL00Src → Option α} {Q : α → Prop} (h : SrcOk B s) (hB : B ≤ 4611686018427387000) (hl : 1 ≤ l.length) (hl2 : l.length ≤ 1000) (hk : ∀ v s', v ∈ l → SrcOk (B + 2) s' → wp (k (v, s')) Q) : wp ((spec_l00Src_text s l).bind k) Q := by
  unfold spec_l00Src_text
  rw [Option.bind_assoc]
  refine wp_pick h hB fun v s' v0 v1 h2 => ?_
  have hv : v.toNat < l.length := by omega
  rw [at_ok v0 hv, Option.bind_some, Option.bind_some]
  exact hk _ _ (List.getElem_mem hv) h2
theorem pch_append {l : List GScene} {x : GScene} {i : Nat} : pch (l ++ [x]) i = if i < l.length then pch l i else if i = l.length then x.Pose.headD 0 else 0 := by
  unfold pch
  rw [gd_append]
  by_cases h : i < l.length
  · rw [if_pos h, if_pos h]
  · rw [if_neg h, if_neg h]
    by_cases h2 : i = l.length
    · rw [if_pos h2, h2, Nat.sub_self]; rfl
    · rw [if_neg h2]
      have : gd [x] (i - l.length) = default := by unfold gd; rw [List.getD_eq_getElem?_getD, List.getElem?_eq_none (by simp; omega)]; rfl
      rw [this]; rfl
theorem A2Scenes_ok {code : List Int} (hc : okL (okI .u8) code) (hl : code.length ≤ 1000000) : wp (spec_A2Scenes code) VSc := by
  unfold spec_A2Scenes
  refine wp_from hc hl fun s hs => wp_seq (P := fun r => VSc r.1) ?_ fun r hr => wp_some hr
  unfold spec_l08Draw
  refine wp_pick hs (by omega) fun u s1 u0 u1 h1 => wp_pick h1 (by omega) fun n s2 n0 n1 h2 => ?_
  simp only
  rw [w64_id (n := 1 + u) (by omega) (by omega), w64_id (n := 1 + n) (by omega) (by omega)]
  refine wp_loop (fun q : GL00Src × List GScene × List UInt8 × Int => SrcOk (4 + 10 * (1 + n - q.2.2.2)) q.1 ∧ 0 ≤ q.2.2.2 ∧ q.2.2.2 ≤ 1 + n ∧ (q.2.1.length : Int) = 1 + n - q.2.2.2 ∧ (0 < q.2.1.length → q.2.2.1 = [pch q.2.1 (q.2.1.length - 1)]) ∧
    (∀ i, i < q.2.1.length → (gd q.2.1 i).Pose = [pch q.2.1 i] ∧ (97 ≤ (pch q.2.1 i).toNat ∧ (pch q.2.1 i).toNat ≤ 122) ∧ (1 ≤ (gd q.2.1 i).Ticks ∧ (gd q.2.1 i).Ticks ≤ 100)) ∧ ∀ i, 0 < i → i < q.2.1.length → pch q.2.1 (i - 1) ≠ pch q.2.1 i) (fun q => q.2.2.2.toNat)
    ⟨h2.mono (by simp only; omega), by simp only; omega, by simp only; omega, by simp, by simp, by simp, by simp⟩ (by simp only; omega) ?_
  rintro ⟨s, out, last, k⟩ ⟨g1, g2, g3, g4, g5, g6, g7⟩
  simp only at g1 g2 g3 g4 g5 g6 g7 ⊢
  refine wp_ite (fun h => ?_) (fun h => ?_)
  · refine wp_textB g1 (by omega) (by simp) (by simp) fun w s3 hw k1 => ?_
    refine wp_seq (P := fun x => ∃ c : UInt8, x = [c] ∧ (97 ≤ c.toNat ∧ c.toNat ≤ 122) ∧ x ≠ last) ?_ fun x hx => ?_
    · simp only [List.mem_cons, List.not_mem_nil, or_false] at hw
      refine wp_ite (fun he => wp_some ?_) (fun hne => wp_some ?_)
      · refine ⟨101, rfl, by decide, ?_⟩
        have := beq_iff_eq.1 he
        simp only at this
        rw [← this]
        rcases hw with h | h | h | h <;> rw [h] <;> decide
      · have hne2 : w ≠ last := fun h => hne (beq_iff_eq.2 h)
        rcases hw with h | h | h | h
        · exact ⟨97, h, by decide, hne2⟩
        · exact ⟨98, h, by decide, hne2⟩
        · exact ⟨99, h, by decide, hne2⟩
        · exact ⟨100, h, by decide, hne2⟩
    obtain ⟨c, rfl, hc2, hcl⟩ := hx
    refine wp_pick k1 (by omega) fun v s4 v0 v1 k2 => wp_one k2 (by omega) fun b s5 k3 => ?_
    have hm0 : 1 ≤ (1 + u) * (1 + v) := by
      have : (1 : Int) * 1 ≤ (1 + u) * (1 + v) := Int.mul_le_mul (by omega) (by omega) (by omega) (by omega)
      omega
    have hm1 : (1 + u) * (1 + v) ≤ 6 * 12 := Int.mul_le_mul (by omega) (by omega) (by omega) (by omega)
    refine wp_seq (P := fun t => 1 ≤ t ∧ t ≤ 100) ?_ fun t ht => ?_
    · simp only
      rw [w64_id (n := 1 + v) (by omega) (by omega), w64_id (n := (1 + u) * (1 + v)) (by omega) (by omega), w64_id (n := (1 + u) * (1 + v) + 1) (by omega) (by omega)]
      exact wp_ite (fun _ => wp_some (by omega)) (fun _ => wp_some (by omega))
    refine wp_app (by simp; omega) ?_
    rw [w64_id (n := k - 1) (by omega) (by omega)]
    have hlen : (out ++ [GScene.mk [c] t]).length = out.length + 1 := by simp
    refine wp_some ⟨⟨k3.mono (by simp only; omega), by simp only; omega, by simp only; omega, by simp only [hlen]; omega, fun _ => ?_, fun i hi => ?_, fun i h0 hi => ?_⟩, by simp only; omega⟩
    · simp only [hlen]
      rw [pch_append, if_neg (by omega), if_pos (by omega)]; rfl
    · simp only [hlen] at hi ⊢
      rw [pch_append, gd_append]
      by_cases h8 : i < out.length
      · rw [if_pos h8, if_pos h8]; exact g6 i h8
      · obtain rfl : i = out.length := by omega
        rw [if_neg h8, if_neg h8, if_pos rfl, Nat.sub_self]; exact ⟨rfl, hc2, ht⟩
    · simp only [hlen] at hi ⊢
      rw [pch_append, pch_append]
      by_cases h8 : i < out.length
      · rw [if_pos h8, if_pos (by omega)]; exact g7 i h0 h8
      · obtain rfl : i = out.length := by omega
        rw [if_neg h8, if_pos rfl, if_pos (by omega)]
        intro hcc
        refine hcl ?_
        rw [g5 (by omega), hcc]; rfl
  · exact wp_some (wp_some ⟨by simp only; omega, by simp only; omega, fun i hi => (g6 i hi).1, fun i hi => (g6 i hi).2.1, fun i hi => (g6 i hi).2.2, g7⟩)
end Go.Vs.G

namespace Go.Vs.G
open Go Go.Vs
/-- what the best number of ticks is -/
structure BT (l : List GScene) (most : Int) (e : Int) (b w : Int) : Prop where
  case' : (w < 0 ∧ b = 0 ∧ ∀ d : Int, 1 ≤ d → d < e → (psum l d l.length : Int) > most) ∨
    (0 ≤ w ∧ (1 ≤ b ∧ b < e) ∧ (psum l b l.length : Int) ≤ most ∧ w = esum l b l.length ∧ ∀ d : Int, 1 ≤ d → d < e → (psum l d l.length : Int) ≤ most → w ≤ esum l d l.length ∧ (esum l d l.length = w → d ≤ b))
theorem BestTick_ok {l : List GScene} (h : VSc l) {most : Int} (hm : 1 ≤ most ∧ most ≤ 60) : wp (impl_BestTick l most) fun r => ∃ b w, BT l most 101 b w ∧ r = if w < 0 then (0, 0, 3) else (b, w, 0) := by
  unfold impl_BestTick
  rw [ValidScenes_true h, Option.bind_some, if_pos rfl, within_d, Option.bind_some, decide_eq_true hm, if_pos rfl]
  refine wp_loop (fun q : Int × Int × Int => (1 ≤ q.2.2 ∧ q.2.2 ≤ 101) ∧ BT l most q.2.2 q.1 q.2.1) (fun q => (101 - q.2.2).toNat) ⟨⟨by simp, by simp⟩, ⟨.inl ⟨by simp, rfl, fun d d1 d2 => by simp only at d2; omega⟩⟩⟩ (by simp only; omega) ?_
  rintro ⟨b, w, e⟩ ⟨⟨e1, e2⟩, hB⟩
  simp only at e1 e2 hB ⊢
  refine wp_ite (fun hlt => ?_) (fun hlt => ?_)
  · have he : 1 ≤ e ∧ e ≤ 100 := ⟨e1, hlt⟩
    have hb := esum_bd h he (k := l.length) (by omega)
    rw [pagesOf_eq h he, Option.bind_some, sumOf_eq h he, Option.bind_some, w64_id (n := e + 1) (by omega) (by omega)]
    refine wp_ite (fun hp => wp_some ⟨⟨⟨by simp only; omega, by simp only; omega⟩, ⟨?_⟩⟩, by simp only; omega⟩) (fun hp => ?_)
    · simp only
      rcases hB.case' with ⟨c1, c2, c3⟩ | ⟨c1, c2, c3, c4, c5⟩
      · refine .inl ⟨c1, c2, fun d d1 d2 => ?_⟩
        by_cases hde : d = e
        · rw [hde]; exact hp
        · exact c3 d d1 (by omega)
      · refine .inr ⟨c1, ⟨c2.1, by omega⟩, c3, c4, fun d d1 d2 d3 => ?_⟩
        by_cases hde : d = e
        · rw [hde] at d3; omega
        · exact c5 d d1 (by omega) d3
    · rw [errorOf_eq h he, Option.bind_some]
      have hx : ((if w < 0 then (some true) else some (decide (esum l e l.length ≤ w))) : Option Bool) = some (decide (w < 0 ∨ esum l e l.length ≤ w)) := by
        by_cases hw : w < 0
        · rw [if_pos hw, decide_eq_true (Or.inl hw)]
        · rw [if_neg hw]; exact congrArg some (decide_eq_decide.2 (by omega))
      rw [hx, Option.bind_some]
      refine wp_ite (fun hc => wp_some ⟨⟨⟨by simp only; omega, by simp only; omega⟩, ⟨?_⟩⟩, by simp only; omega⟩) (fun hc => wp_some ⟨⟨⟨by simp only; omega, by simp only; omega⟩, ⟨?_⟩⟩, by simp only; omega⟩)
      · have hc' := of_decide_eq_true hc
        simp only
        refine .inr ⟨hb.1, ⟨e1, by omega⟩, by omega, trivial, fun d d1 d2 d3 => ⟨?_, fun _ => by omega⟩⟩
        by_cases hde : d = e
        · rw [hde]; omega
        · rcases hB.case' with ⟨c1, c2, c3⟩ | ⟨c1, c2, c3, c4, c5⟩
          · have := c3 d d1 (by omega); omega
          · have := (c5 d d1 (by omega) d3).1; omega
      · have hc' : ¬ (w < 0 ∨ esum l e l.length ≤ w) := fun h => hc (decide_eq_true h)
        simp only
        rcases hB.case' with ⟨c1, c2, c3⟩ | ⟨c1, c2, c3, c4, c5⟩
        · omega
        · refine .inr ⟨c1, ⟨c2.1, by omega⟩, c3, c4, fun d d1 d2 d3 => ?_⟩
          by_cases hde : d = e
          · rw [hde]; omega
          · exact c5 d d1 (by omega) d3
  · obtain rfl : e = 101 := by omega
    exact wp_some (wp_ite (fun hw => wp_some ⟨b, w, hB, by rw [if_pos hw]⟩) (fun hw => wp_some ⟨b, w, hB, by rw [if_neg hw]⟩))
theorem psum_hundred {l : List GScene} (h : VSc l) : ∀ {k : Nat}, k ≤ l.length → psum l 100 k = k
  | 0, _ => rfl
  | k + 1, hk => by
    have ht := h.ticks k (by omega)
    rw [psum, psum_hundred h (k := k) (by omega)]
    unfold qp rnd
    have h1 : (2 * (gd l k).Ticks + 100) / (2 * 100) ≤ 1 := Int.le_of_lt_add_one ((Int.ediv_lt_iff_lt_mul (by omega)).2 (by omega))
    omega
theorem laws_FnTicks_true {code more : List Int} (hc : okL (okI .u8) code) (hm : okL (okI .u8) more) : laws_FnTicks code more = some true := by
  unfold laws_FnTicks
  obtain ⟨r, hr, hr2⟩ := a2Long_eq code more
  rw [hr, Option.bind_some]
  cases r with
  | true => rfl
  | false =>
  obtain ⟨hc2, hm2⟩ := hr2 rfl
  simp only [Bool.false_eq_true, if_false]
  obtain ⟨l, hl, h⟩ := A2Scenes_ok hc (by omega)
  obtain ⟨m, hm', m0, m1⟩ := a2At_ok hm hm2 (i := 0) (n := 40) (by omega) (by omega)
  obtain ⟨d, hd', d0, d1⟩ := a2At_ok hm hm2 (i := 1) (n := 100) (by omega) (by omega)
  have hd : 1 ≤ 1 + d ∧ 1 + d ≤ 100 := by omega
  obtain ⟨r4, e4, b, w, hB, rfl⟩ := BestTick_ok h (most := 1 + m) (by omega)
  have n1 := h.n1
  have n2 := h.n2
  rw [hl, Option.bind_some, hm', Option.bind_some, w64_id (n := 1 + m) (by omega) (by omega), e4, Option.bind_some, hd', Option.bind_some, w64_id (n := 1 + d) (by omega) (by omega), BookFor_eq h hd, Option.bind_some, ErrorOfBook_eq h hd, Option.bind_some]
  have e5 : ∀ (c : Int), (c = 0 ∨ c = 5) → (if c = 0 then (some false) else some (!(decide (c = 5))) : Option Bool) = some false := by
    rintro c (rfl | rfl) <;> rfl
  have hcode : ((if psum l (1 + d) l.length > 60 then (([] : List UInt8), (5 : Int)) else (book l (1 + d) l.length, 0)).2 = (if psum l (1 + d) l.length > 60 then ((0 : Int), (5 : Int)) else (esum l (1 + d) l.length, 0)).2) := by split <;> rfl
  rw [if_pos hcode, e5 _ (by split <;> simp), Option.bind_some, if_neg (by simp)]
  have hx2 : (if (if psum l (1 + d) l.length > 60 then (([] : List UInt8), (5 : Int)) else (book l (1 + d) l.length, 0)).2 = 0 then
       (if ((if psum l (1 + d) l.length > 60 then (([] : List UInt8), (5 : Int)) else (book l (1 + d) l.length, 0)).1.length : Int) ≤ 1 + m then
       (if (if w < 0 then ((0 : Int), (0 : Int), (3 : Int)) else (b, w, 0)).2.2 = 0 then
       (if (if psum l (1 + d) l.length > 60 then ((0 : Int), (5 : Int)) else (esum l (1 + d) l.length, 0)).1 < (if w < 0 then ((0 : Int), (0 : Int), (3 : Int)) else (b, w, 0)).2.1 then
       (some true)
       else
       if (if psum l (1 + d) l.length > 60 then ((0 : Int), (5 : Int)) else (esum l (1 + d) l.length, 0)).1 = (if w < 0 then ((0 : Int), (0 : Int), (3 : Int)) else (b, w, 0)).2.1 then
       (some (decide (1 + d > (if w < 0 then ((0 : Int), (0 : Int), (3 : Int)) else (b, w, 0)).1)))
       else
       some false)
       else
       some true)
       else
       some false)
       else
       some false : Option Bool) = some false := by
    by_cases hp : psum l (1 + d) l.length > 60
    · simp only [if_pos hp]; rfl
    · simp only [if_neg hp, if_true, book_len]
      by_cases hm3 : (psum l (1 + d) l.length : Int) ≤ 1 + m
      · rw [if_pos hm3]
        rcases hB.case' with ⟨c1, c2, c3⟩ | ⟨c1, c2, c3, c4, c5⟩
        · have := c3 (1 + d) (by omega) (by omega); omega
        · have h5 := c5 (1 + d) (by omega) (by omega) hm3
          simp only [if_neg (show ¬ w < 0 by omega), if_true]
          rw [if_neg (by omega)]
          by_cases h6 : esum l (1 + d) l.length = w
          · rw [if_pos h6, decide_eq_false (by have := h5.2 h6; omega)]
          · rw [if_neg h6]
      · rw [if_neg hm3]
  rw [hx2, Option.bind_some, if_neg (by simp)]
  rcases hB.case' with ⟨c1, c2, c3⟩ | ⟨c1, c2, c3, c4, c5⟩
  · simp only [if_pos c1]
    rw [if_neg (by omega), if_pos trivial, Option.bind_some, decide_eq_true]
    have := c3 100 (by omega) (by omega)
    rw [psum_hundred h (Nat.le_refl _)] at this
    omega
  · simp only [if_neg (show ¬ w < 0 by omega), if_true]
    have hb : 1 ≤ b ∧ b ≤ 100 := by omega
    have hp : ¬ psum l b l.length > 60 := by omega
    have hg := psum_ge l b l.length
    rw [BookFor_eq h hb, Option.bind_some, ErrorOfBook_eq h hb, Option.bind_some, if_neg hp, if_neg hp, if_pos hb.1, if_pos hb.2]
    simp only [if_true, book_len]
    rw [if_pos (by omega), if_pos (by omega), if_pos c4.symm, decide_eq_true c1]
end Go.Vs.G

