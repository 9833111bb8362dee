/- Plain facts about the typed functions, up to the law: no program in sight. No conditions. -/
import Derived.Test.YtpjafacmfmhglaaV5
import Derived.Test.YtpjafacmfmhglaaDLGlassBars
namespace Go.Vs
open Go

section
variable {α β S B R : Type}

open Classical in
/-- a loop that looks at each round for a reason to stop -/
theorem scan {body : Int → Option (Step Int Unit R)} {kb : Unit → Option β} {kr : R → Option β} {s n : Nat} {c : Nat → Bool} {r : R} (hs : s ≤ n) (hn : n < 9223372036854775807)
    (hb : ∀ i : Nat, s ≤ i → i < n → body (i : Int) = some (if c i = true then .next ((i : Int) + 1) else .ret r)) (he : body (n : Int) = some (.brk ())) :
    onL (loop body loopLim (s : Int)) kb kr = if ∀ i, s ≤ i → i < n → c i = true then kb () else kr r := by
  by_cases h : ∀ i, s ≤ i → i < n → c i = true
  · rw [if_pos h]
    have := loop_brk (body := body) (fun j => ((s + j : Nat) : Int)) (b := ()) (n - s) (by omega) (fun j hj => by
      rw [hb (s + j) (by omega) (by omega), if_pos (h _ (by omega) (by omega))]; congr 2) (by rw [show s + (n - s) = n by omega]; exact he)
    simp only [Nat.add_zero] at this
    rw [this]; rfl
  · rw [if_neg h]
    have hex : ∃ k, s ≤ k ∧ k < n ∧ c k = false := by
      refine Classical.byContradiction fun hc => h fun i h1 h2 => ?_
      cases hci : c i with
      | true => rfl
      | false => exact absurd ⟨i, h1, h2, hci⟩ hc
    -- the first of them
    have hleast : ∃ k, (s ≤ k ∧ k < n ∧ c k = false) ∧ ∀ j, s ≤ j → j < k → c j = true := by
      obtain ⟨k, hk⟩ := hex
      induction k using Nat.strongRecOn with
      | _ k ih =>
        by_cases hall : ∀ j, s ≤ j → j < k → c j = true
        · exact ⟨k, hk, hall⟩
        · have : ∃ j, s ≤ j ∧ j < k ∧ c j = false := by
            refine Classical.byContradiction fun hc => hall fun i h1 h2 => ?_
            cases hci : c i with
            | true => rfl
            | false => exact absurd ⟨i, h1, h2, hci⟩ hc
          obtain ⟨j, h1, h2, h3⟩ := this
          exact ih j h2 ⟨h1, by omega, h3⟩
    obtain ⟨k, ⟨h1, h2, h3⟩, h4⟩ := hleast
    have := loop_ret' (body := body) (fun j => ((s + j : Nat) : Int)) (r := r) (k - s) (by omega) (fun j hj => by
      rw [hb (s + j) (by omega) (by omega), if_pos (h4 _ (by omega) (by omega))]; congr 2) (by
      rw [show s + (k - s) = k by omega, hb k h1 h2, h3]; rfl)
    simp only [Nat.add_zero] at this
    rw [this]; rfl
theorem w64_succ {i n : Nat} (h : i < n) (hn : n < 9223372036854775807) : w64 ((i : Int) + 1) = (i : Int) + 1 := w64_id (by omega) (by omega)
theorem at_of {l : List α} {i : Nat} (h : i < l.length) : at? l (i : Int) = some l[i] := at_nat h
end
end Go.Vs

namespace Go.Vs.G
open Go Go.Vs

/-- a source that can still be asked; B bounds the place that it has come to -/
structure SrcOk (B : Int) (s : GL00Src) : Prop where
  bytes : ∀ x, x ∈ s.code → 0 ≤ x ∧ x ≤ 255
  len : s.code.length ≤ 1000000
  at0 : 0 ≤ s.at_
  atB : s.at_ ≤ B
theorem SrcOk.mono {B B' : Int} {s : GL00Src} (h : SrcOk B s) (hB : B ≤ B') : SrcOk B' s := ⟨h.bytes, h.len, h.at0, Int.le_trans h.atB hB⟩
theorem srcOk_from {code : List Int} (h : okL (okI .u8) code) (hl : code.length ≤ 1000000) : SrcOk 0 (GL00Src.mk code 0 0) :=
  ⟨fun x hx => okU8 (h.2 x hx), hl, by simp, by simp⟩
theorem shr40 (n : Int) : shr? .u64 n 40 = some (n.fdiv (2 ^ 40)) := by
  simp [shr?, IntKind.bits]
theorem and255 (n : Int) : 0 ≤ bit_and .u64 n 255 ∧ bit_and .u64 n 255 ≤ 255 := by
  unfold bit_and
  rw [wu64_def]
  have h : (BitVec.ofInt IntKind.u64.bits n &&& BitVec.ofInt IntKind.u64.bits 255).toNat ≤ 255 := by
    rw [BitVec.toNat_and]
    exact Nat.le_trans Nat.and_le_right (by decide)
  omega
theorem next_ok {B : Int} {s : GL00Src} (h : SrcOk B s) (hB : B ≤ 4611686018427387904) : ∃ v s', spec_l00Src_next s = some (v, s') ∧ 0 ≤ v ∧ v ≤ 255 ∧ SrcOk (B + 1) s' := by
  have h1 := h.at0
  have h2 := h.atB
  have h3 := h.len
  have hat : w64 (s.at_ + 1) = s.at_ + 1 := w64_id (by omega) (by omega)
  have hb : ∃ b, (if s.at_ < (s.code.length : Int) then ((at? s.code s.at_).bind fun v1 => some (w64 v1)) else some 0) = some b ∧ 0 ≤ b ∧ b ≤ 255 := by
    split
    · rename_i hlt
      rw [at_ok h1 (by omega), Option.bind_some]
      obtain ⟨g1, g2⟩ := h.bytes s.code[s.at_.toNat] (List.getElem_mem (by omega))
      exact ⟨_, rfl, by rw [w64_id (by omega) (by omega)]; omega, by rw [w64_id (by omega) (by omega)]; omega⟩
    · exact ⟨0, rfl, by omega, by omega⟩
  obtain ⟨b, hb, b0, b1⟩ := hb
  unfold spec_l00Src_next
  rw [hb, Option.bind_some, hat]
  split
  · exact ⟨_, _, rfl, b0, b1, ⟨h.bytes, h.len, by simp only; omega, by simp only; omega⟩⟩
  · rw [shr40, Option.bind_some]
    have := and255 ((IntKind.wrap .u64 ((IntKind.wrap .u64 ((IntKind.wrap .u64 (s.seed * 6364136223846793005)) + (IntKind.wrap .u64 b))) + 1442695040888963407)).fdiv (2 ^ 40))
    exact ⟨_, _, rfl, by rw [w64_id (by omega) (by omega)]; omega, by rw [w64_id (by omega) (by omega)]; omega, ⟨h.bytes, h.len, by simp only; omega, by simp only; omega⟩⟩
theorem pick_ok {B : Int} {s : GL00Src} (h : SrcOk B s) (hB : B ≤ 4611686018427387000) (n : Int) : ∃ v s', spec_l00Src_pick s n = some (v, s') ∧ 0 ≤ v ∧ (v = 0 ∨ v < n) ∧ SrcOk (B + 2) s' := by
  unfold spec_l00Src_pick
  by_cases hn : n ≤ 1
  · rw [if_pos hn]; exact ⟨0, s, rfl, by omega, .inl rfl, h.mono (by omega)⟩
  · rw [if_neg hn]
    obtain ⟨v, s1, e1, v0, v1, k1⟩ := next_ok h (by omega)
    rw [e1, Option.bind_some]
    by_cases h2 : n > 200
    · rw [if_pos h2]
      obtain ⟨u, s2, e2, u0, u1, k2⟩ := next_ok k1 (by omega)
      simp only
      rw [e2, Option.bind_some, mod_ok (by omega), Option.bind_some, w64_id (n := v * 256) (by omega) (by omega), w64_id (by simp only; omega) (by simp only; omega)]
      have e : (v * 256 + u).tmod n = (v * 256 + u) % n := Int.tmod_eq_emod_of_nonneg (by omega)
      refine ⟨_, _, rfl, ?_, ?_, by rw [show B + 2 = B + 1 + 1 by omega]; exact k2⟩
      · simp only [e]; exact Int.emod_nonneg _ (by omega)
      · simp only [e]; right; exact Int.emod_lt_of_pos _ (by omega)
    · rw [if_neg h2, mod_ok (by omega), Option.bind_some]
      simp only
      have e : v.tmod n = v % n := Int.tmod_eq_emod_of_nonneg (by omega)
      refine ⟨_, _, rfl, ?_, ?_, k1.mono (by omega)⟩
      · rw [e]; exact Int.emod_nonneg _ (by omega)
      · rw [e]; right; exact Int.emod_lt_of_pos _ (by omega)
theorem a2Long_eq (a b : List Int) : ∃ r, laws_a2Long a b = some r ∧ (r = false → a.length ≤ 3000 ∧ b.length ≤ 3000) := by
  unfold laws_a2Long
  split
  · exact ⟨true, rfl, by simp⟩
  · exact ⟨_, rfl, by simp; omega⟩
end Go.Vs.G

namespace Go.Vs.G
open Go Go.Vs

theorem within_eqR (n a b : Int) : impl_within n a b = some (decide (a ≤ n ∧ n ≤ b)) := by
  unfold impl_within; split <;> simp <;> omega
end Go.Vs.G

namespace Go.Vs
open Go

section
variable {α β γ R : Type}

/-- a loop whose state at each round is told -/
theorem wp_cnt {S B : Type} {Q : γ → Prop} {body : S → Option (Step S B R)} {kb : B → Option γ} {kr : R → Option γ} {s0 : S} (st : Nat → S) (n : Nat) (h0 : s0 = st 0) (hn : n < 18446744073709551616)
    (hs : ∀ k, k < n → body (st k) = some (.next (st (k + 1)))) {b : B} (he : body (st n) = some (.brk b)) (hq : wp (kb b) Q) : wp (onL (loop body loopLim s0) kb kr) Q := by
  rw [h0, loop_brk st n hn hs he]; exact hq
/-- the numbers below n that fit -/
def sl (c : Nat → Bool) : Nat → List Int
  | 0 => []
  | k + 1 => if c k = true then sl c k ++ [(k : Int)] else sl c k
theorem sl_len (c : Nat → Bool) : ∀ k, (sl c k).length ≤ k
  | 0 => by simp [sl]
  | k + 1 => by have := sl_len c k; rw [sl]; split <;> simp <;> omega
end
end Go.Vs

namespace Go.Vs
theorem wp_seq {α β : Type} {A : Option β} {k : β → Option α} {P : β → Prop} {Q : α → Prop} (h : wp A P) (hk : ∀ x, P x → wp (k x) Q) : wp (A.bind k) Q := by
  obtain ⟨x, rfl, hx⟩ := h; exact hk x hx
end Go.Vs
namespace Go.Vs.G
open Go Go.Vs

section
variable {α : Type} {Q : α → Prop} {B : Int} {s : GL00Src}
theorem wp_pick {n : Int} {k : Int × GL00Src → Option α} (h : SrcOk B s) (hB : B ≤ 4611686018427387000) (hk : ∀ v s', 0 ≤ v → (v = 0 ∨ v < n) → SrcOk (B + 2) s' → wp (k (v, s')) Q) : wp ((spec_l00Src_pick s n).bind k) Q := by
  obtain ⟨v, s', e, h0, h1, h2⟩ := pick_ok h hB n
  rw [e]; exact hk v s' h0 h1 h2
theorem wp_from {code : List Int} {k : GL00Src → Option α} (h : okL (okI .u8) code) (hl : code.length ≤ 1000000) (hk : ∀ s, SrcOk 0 s → wp (k s) Q) : wp ((spec_l00From code).bind k) Q := hk _ (srcOk_from h hl)
theorem wp_app {β : Type} {l m : List β} {k : List β → Option α} (h : l.length + m.length ≤ 4294967296) (hk : wp (k (l ++ m)) Q) : wp ((app? l m).bind k) Q := by
  rw [app_ok h]; exact hk
end
end Go.Vs.G

namespace Go.Vs.G
open Go Go.Vs

/-- how many letters there may be -/
@[irreducible] def NB : Nat := 256
theorem NB_eq : NB = 256 := by unfold NB; rfl
/-- a letter's number -/
def ltr (s : List UInt8) (i : Nat) : Nat := (s.getD i 0).toNat
theorem ltr_lt (s : List UInt8) (i : Nat) : ltr s i < NB := by rw [NB_eq]; have := (s.getD i 0).toNat_lt; unfold ltr; omega
open Classical in
/-- v is shown from i on, before x -/
noncomputable def occ (s : List UInt8) (i x v : Nat) : Bool := decide (∃ j, i ≤ j ∧ j < x ∧ j < s.length ∧ ltr s j = v)
section
variable {s : List UInt8} {i : Nat}
end
end Go.Vs.G

namespace Go.Vs.G
open Go Go.Vs

/-- the magazine behind i showings by a plan -/
def run (s : List UInt8) (p : Nat) (pl : List Int) : Nat → List Int
  | 0 => List.replicate p 0
  | i + 1 => (run s p pl i).set (pl.getD i 0).toNat (ltr s i : Int)
theorem run_len (s : List UInt8) (p : Nat) (pl : List Int) : ∀ i, (run s p pl i).length = p
  | 0 => by simp [run]
  | i + 1 => by simp [run, run_len s p pl i]
/-- the letters of a magazine -/
def St (M : List Int) (v : Nat) : Bool := decide (0 < v ∧ (v : Int) ∈ M)
theorem mem_set_iff {M : List Int} {k : Nat} {e v : Int} (hk : k < M.length) : v ∈ M.set k e ↔ v = e ∨ ∃ j, j < M.length ∧ j ≠ k ∧ M.getD j 0 = v := by
  constructor
  · intro h
    obtain ⟨j, hj, he⟩ := List.mem_iff_getElem.1 h
    rw [List.length_set] at hj
    rw [List.getElem_set] at he
    split at he
    · exact .inl he.symm
    · rename_i hne
      exact .inr ⟨j, hj, fun h => hne h.symm, by rw [List.getD_eq_getElem?_getD, List.getElem?_eq_getElem hj]; exact he⟩
  · rintro (rfl | ⟨j, hj, hne, he⟩)
    · exact List.mem_iff_getElem.2 ⟨k, by simpa using hk, by simp⟩
    · refine List.mem_iff_getElem.2 ⟨j, by simpa using hj, ?_⟩
      rw [List.getElem_set, if_neg (fun h => hne h.symm)]
      rw [List.getD_eq_getElem?_getD, List.getElem?_eq_getElem hj] at he
      exact he
theorem mem_getD {M : List Int} {v : Int} : v ∈ M ↔ ∃ j, j < M.length ∧ M.getD j 0 = v := by
  rw [List.mem_iff_getElem]
  constructor
  · rintro ⟨j, hj, he⟩; exact ⟨j, hj, by rw [List.getD_eq_getElem?_getD, List.getElem?_eq_getElem hj]; exact he⟩
  · rintro ⟨j, hj, he⟩; rw [List.getD_eq_getElem?_getD, List.getElem?_eq_getElem hj] at he; exact ⟨j, hj, he⟩
/-- a place that the rule may choose -/
def GK (s : List UInt8) (i : Nat) (M : List Int) (k : Nat) : Prop :=
  k < M.length ∧ ((ltr s i : Int) ∈ M → M.getD k 0 = (ltr s i : Int)) ∧ ((ltr s i : Int) ∉ M → M.getD k 0 = 0 ∨ ((0 : Int) ∉ M ∧ ∀ x v, occ s i x (M.getD k 0).toNat = true → St M v = true → occ s i x v = true))
/-- letters are not in the magazine twice -/
structure MOk (M : List Int) : Prop where
  el : ∀ m, m ∈ M → m = 0 ∨ (0 < m ∧ m < (NB : Int))
  nd : ∀ a b, a < M.length → b < M.length → M.getD a 0 = M.getD b 0 → M.getD a 0 ≠ 0 → a = b
section
variable {s : List UInt8} {i : Nat} {M : List Int} {k : Nat}
theorem MOk.set (h : MOk M) (hl : 0 < ltr s i) (hk : GK s i M k) : MOk (M.set k (ltr s i : Int)) := by
  obtain ⟨k1, k2, k3⟩ := hk
  have hL := ltr_lt s i
  refine ⟨fun m hm => ?_, fun a b ha hb he hz => ?_⟩
  · rcases (mem_set_iff k1).1 hm with rfl | ⟨j, hj, _, rfl⟩
    · right; omega
    · exact h.el _ (mem_getD.2 ⟨j, hj, rfl⟩)
  · rw [List.length_set] at ha hb
    have gs : ∀ j, j < M.length → (M.set k (ltr s i : Int)).getD j 0 = if k = j then (ltr s i : Int) else M.getD j 0 := fun j hj => by
      rw [List.getD_eq_getElem?_getD, List.getElem?_set]
      by_cases hkj : k = j
      · rw [if_pos hkj, if_pos hkj, if_pos k1]; rfl
      · rw [if_neg hkj, if_neg hkj, List.getD_eq_getElem?_getD]
    rw [gs a ha] at he hz
    rw [gs b hb] at he
    by_cases hin : (ltr s i : Int) ∈ M
    · -- nothing changes
      have hkv := k2 hin
      have ea : (if k = a then (ltr s i : Int) else M.getD a 0) = M.getD a 0 := by
        by_cases e : k = a
        · rw [if_pos e, ← e, hkv]
        · rw [if_neg e]
      have eb : (if k = b then (ltr s i : Int) else M.getD b 0) = M.getD b 0 := by
        by_cases e : k = b
        · rw [if_pos e, ← e, hkv]
        · rw [if_neg e]
      rw [ea, eb] at he
      rw [ea] at hz
      exact h.nd a b ha hb he hz
    · split at he
      · rename_i e1
        split at he
        · rename_i e2; omega
        · exact absurd (mem_getD.2 ⟨b, hb, he.symm⟩) hin
      · rename_i e1
        split at he
        · exact absurd (mem_getD.2 ⟨a, ha, he⟩) hin
        · rw [if_neg e1] at hz
          exact h.nd a b ha hb he hz
end
/-- a plan by the rule -/
def GPlan (s : List UInt8) (p : Nat) (pl : List Int) : Prop := pl.length = s.length ∧ ∀ i, i < s.length → 0 ≤ pl.getD i 0 ∧ GK s i (run s p pl i) (pl.getD i 0).toNat
section
variable {s : List UInt8} (hs : ∀ i, i < s.length → 0 < ltr s i) {p : Nat} {pl : List Int} (hg : GPlan s p pl)
include hs hg
end
end Go.Vs.G

namespace Go.Vs.G
open Go Go.Vs

theorem at_getJ {l : List Int} {k : Nat} (h : k < l.length) : at? l (k : Int) = some (l.getD k 0) := by
  rw [at_of h, List.getD_eq_getElem?_getD, List.getElem?_eq_getElem h]; rfl
theorem getD_last {out : List Int} {k : Int} : (out ++ [k]).getD out.length 0 = k := by
  rw [List.getD_eq_getElem?_getD, List.getElem?_append, if_neg (by omega), Nat.sub_self]; rfl
theorem getD_old {out : List Int} {k : Int} {j : Nat} (h : j < out.length) : (out ++ [k]).getD j 0 = out.getD j 0 := by
  rw [List.getD_eq_getElem?_getD, List.getElem?_append, if_pos h, List.getD_eq_getElem?_getD]
section
variable {s : List UInt8} (hs : ∀ i, i < s.length → 0 < ltr s i) (hsl : s.length ≤ 1000) {p : Nat} (hp : 1 ≤ p ∧ p ≤ 100)
include hs hsl hp
end
end Go.Vs.G

namespace Go.Vs.G
open Go Go.Vs

/-- a list has a number -/
theorem a2Has_eq (l : List Int) (n : Int) (hl : l.length < 9223372036854775807) : laws_a2Has l n = some (decide (n ∈ l)) := by
  unfold laws_a2Has
  have := scan (body := fun (i1 : Int) =>
     if i1 < (l.length : Int) then
     ((at? l i1).bind fun v1 =>
     if v1 = n then
     (some (.ret true))
     else
     some (.next (w64 (i1 + 1))))
     else
     some (.brk ())) (kb := fun (_ : Unit) => some false) (kr := fun r => some r) (s := 0) (n := l.length) (c := fun i => decide (l[i]? ≠ some n)) (r := true) (by omega) hl ?_ (by simp)
  · simp only [Int.natCast_zero] at this
    refine this.trans ?_
    split
    · rename_i h
      congr 1; symm
      rw [decide_eq_false_iff_not]
      intro hm
      obtain ⟨i, hi, he⟩ := List.getElem_of_mem hm
      have := h i (by omega) hi
      rw [List.getElem?_eq_getElem hi, he] at this
      simp at this
    · rename_i h
      congr 1; symm
      rw [decide_eq_true_eq]
      refine Classical.byContradiction fun hn => h fun i _ hi => ?_
      rw [List.getElem?_eq_getElem hi]
      simp
      intro he
      exact hn (he ▸ List.getElem_mem hi)
  · intro i _ hi
    have h1 : (i : Int) < (l.length : Int) := by omega
    rw [if_pos h1, at_of hi, Option.bind_some, List.getElem?_eq_getElem hi]
    by_cases he : l[i] = n
    · simp [he]
    · simp [he, w64_succ hi hl]
/-- a list rises -/
theorem a2Rises_true (l : List Int) (n : Int) (hl : l.length < 9223372036854775807) (hr : ∀ x, x ∈ l → 0 ≤ x ∧ x < n) (hp : l.Pairwise (· < ·)) : laws_a2Rises l n = some true := by
  unfold laws_a2Rises
  refine eq_of_wp ?_
  refine wp_loop (fun t : Int => ∃ k : Nat, t = (k : Int) ∧ k ≤ l.length) (fun t => (l.length - t).toNat) ⟨0, rfl, by omega⟩ (by omega) ?_
  rintro i ⟨k, rfl, hk⟩
  refine wp_ite (fun h => ?_) (fun h => ?_)
  · have hk2 : k < l.length := by omega
    have h0 := hr _ (List.getElem_mem hk2)
    rw [at_of hk2]
    simp only [Option.bind_some]
    rw [if_neg (by omega), if_neg (by omega)]
    by_cases hk0 : (k : Int) > 0
    · rw [if_pos hk0, w64_id (by omega) (by omega), show (k : Int) - 1 = ((k - 1 : Nat) : Int) by omega, at_of (by omega), Option.bind_some]
      have := List.pairwise_iff_getElem.mp hp (k - 1) k (by omega) hk2 (by omega)
      simp only [Option.bind_some]
      rw [decide_eq_false (by omega), if_neg (by simp), w64_succ hk2 hl]
      exact wp_some ⟨⟨k + 1, rfl, by omega⟩, by omega⟩
    · rw [if_neg hk0]
      simp only [Option.bind_some]
      rw [if_neg (by simp), w64_succ hk2 hl]
      exact wp_some ⟨⟨k + 1, rfl, by omega⟩, by omega⟩
  · exact wp_some (wp_some rfl)
end Go.Vs.G

namespace Go.Vs.G
open Go Go.Vs

def lett (l : List UInt8) : Prop := ∀ c ∈ l, 97 ≤ c.toNat ∧ c.toNat ≤ 122
/- the reference's -/
end Go.Vs.G

namespace Go.Vs.G
open Go Go.Vs

/-- a showing as it is drawn -/
def shw (s : List UInt8) : Prop := lett s ∧ s.length ≤ 40
def okp (n p : Nat) (pl : List Int) : Prop := pl.length = n ∧ ∀ i, i < n → 0 ≤ pl.getD i 0 ∧ pl.getD i 0 < (p : Int)
theorem GPlan.ok {s : List UInt8} {p : Nat} {pl : List Int} (h : GPlan s p pl) : okp s.length p pl := ⟨h.1, fun i hi => by
  have := h.2 i hi
  have := this.2.1
  rw [run_len] at this
  omega⟩
section
variable {s : List UInt8} (h : shw s) {p : Nat} (hp : 1 ≤ p ∧ p ≤ 6)
include h hp
end
end Go.Vs.G

namespace Go.Vs.G
open Go Go.Vs

/-- a bar is hit -/
def hits (b : GBar) (P : List Int) : Bool := decide (P.getD b.A.toNat 0 = b.X ∧ P.getD b.B.toNat 0 = b.Y)
/-- all glasses within their stops -/
def inR (x : GSlide) (P : List Int) : Prop := P.length = x.Stops.length ∧ ∀ g, g < x.Stops.length → 0 ≤ P.getD g 0 ∧ P.getD g 0 < x.Stops.getD g 0
instance (x : GSlide) (P : List Int) : Decidable (inR x P) := by unfold inR; exact inferInstance
def may (x : GSlide) (P : List Int) : Bool := x.Bars.all fun b => !hits b P
def okP (x : GSlide) (P : List Int) : Bool := decide (inR x P) && may x P
/-- a bar between two glasses -/
def barOk (x : GSlide) (b : GBar) : Prop := 0 ≤ b.A ∧ b.A < b.B ∧ b.B < (x.Stops.length : Int) ∧ 0 ≤ b.X ∧ b.X < x.Stops.getD b.A.toNat 0 ∧ 0 ≤ b.Y ∧ b.Y < x.Stops.getD b.B.toNat 0
structure sok (x : GSlide) : Prop where
  n1 : 1 ≤ x.Stops.length
  n4 : x.Stops.length ≤ 4
  st : ∀ g, g < x.Stops.length → 1 ≤ x.Stops.getD g 0 ∧ x.Stops.getD g 0 ≤ 4
  b8 : x.Bars.length ≤ 8
  bs : ∀ b, b ∈ x.Bars → barOk x b
/-- a place after a move -/
def mvp (P : List Int) (m : Nat) : List Int := P.set (m / 2) (P.getD (m / 2) 0 + (if m % 2 = 0 then 1 else -1))
theorem mvp_len {P : List Int} {m : Nat} : (mvp P m).length = P.length := by simp [mvp]
theorem listall {α : Type} {l : List α} {p : α → Bool} : l.all p = true ↔ ∀ (i : Nat) (a : α), l[i]? = some a → p a = true := by
  rw [List.all_eq_true]
  constructor
  · intro h i a ha; exact h a (List.mem_of_getElem? ha)
  · intro h a ha
    obtain ⟨i, hi⟩ := List.getElem?_of_mem ha
    exact h i a hi
theorem at_getD' {l : List Int} {g : Nat} (h : g < l.length) : at? l (g : Int) = some (l.getD g 0) := at_getJ h
theorem at_getI {l : List Int} {g : Int} (h0 : 0 ≤ g) (h : g < (l.length : Int)) : at? l g = some (l.getD g.toNat 0) := by
  have := at_getJ (l := l) (k := g.toNat) (by omega)
  rw [show ((g.toNat : Nat) : Int) = g by omega] at this
  exact this
section
variable {x : GSlide} (h : sok x)
include h
theorem placesOk_eq (P : List Int) : impl_Slide_placesOk x P = some (decide (inR x P)) := by
  have n4 := h.n4
  refine eq_of_wp ?_
  unfold impl_Slide_placesOk
  refine wp_ite (fun hl => ?_) (fun hl => ?_)
  · have hl' : P.length = x.Stops.length := by omega
    refine wp_loop (fun t : Int => ∃ k : Nat, t = (k : Int) ∧ k ≤ P.length ∧ ∀ g, g < k → 0 ≤ P.getD g 0 ∧ P.getD g 0 < x.Stops.getD g 0) (fun t => (P.length - t).toNat) ⟨0, rfl, by omega, fun g hg => by omega⟩ (by omega) ?_
    rintro t ⟨k, rfl, hk, hall⟩
    refine wp_ite (fun h1 => ?_) (fun h1 => ?_)
    · have hst := h.st k (by omega)
      rw [at_getD' (by omega), Option.bind_some, at_getD' (by omega), Option.bind_some, within_eqR, Option.bind_some, w64_id (by omega) (by omega)]
      refine wp_ite (fun h2 => ?_) (fun h2 => ?_)
      · simp only [decide_eq_true_eq] at h2
        rw [w64_id (by omega) (by omega)]
        refine wp_some ⟨⟨k + 1, rfl, by omega, fun g hg => ?_⟩, by omega⟩
        rcases Nat.lt_or_ge g k with h3 | h3
        · exact hall g h3
        · have : g = k := by omega
          subst this; omega
      · simp only [decide_eq_true_eq] at h2
        refine wp_some (wp_some (decide_eq_false fun hin => ?_).symm)
        have := hin.2 k (by omega)
        omega
    · exact wp_some (wp_some (decide_eq_true ⟨hl', fun g hg => hall g (by omega)⟩).symm)
  · exact wp_some (decide_eq_false fun hin => hl (by have := hin.1; omega)).symm
theorem bar1_eq {b : GBar} (hb : b ∈ x.Bars) {P : List Int} (hl : P.length = x.Stops.length) : impl_Slide_mayStand_1 b P = some (hits b P) := by
  obtain ⟨a1, a2, a3, _⟩ := h.bs b hb
  unfold impl_Slide_mayStand_1 hits
  rw [at_getI a1 (by omega), Option.bind_some]
  by_cases h1 : P.getD b.A.toNat 0 = b.X
  · rw [if_pos h1, at_getI (by omega) (by omega), Option.bind_some]
    congr 1
    by_cases h2 : P.getD b.B.toNat 0 = b.Y
    · rw [decide_eq_true h2, decide_eq_true ⟨h1, h2⟩]
    · rw [decide_eq_false h2, decide_eq_false (fun hc => h2 hc.2)]
  · rw [if_neg h1, decide_eq_false (fun hc => h1 hc.1)]
end
/-- is one of a list of that kind? -/
theorem contains_eq {l : List GBar} {f : GBar → Option Bool} {p : GBar → Bool} (hl : l.length ≤ 1000) (hf : ∀ b, b ∈ l → f b = some (p b)) : slices_ContainsFunc_impl_Bar_impl_Bar_798 l f = some (l.any p) := by
  have key : wp (slices_IndexFunc_impl_Bar_impl_Bar_820 l f) (fun r => (r ≥ 0) ↔ l.any p = true) := by
    unfold slices_IndexFunc_impl_Bar_impl_Bar_820
    refine wp_loop (fun t : Int => ∃ k : Nat, t = (k : Int) ∧ k ≤ l.length ∧ ∀ i b, i < k → l[i]? = some b → p b = false) (fun t => (l.length - t).toNat) ⟨0, rfl, by omega, fun i b hi => by omega⟩ (by omega) ?_
    rintro t ⟨k, rfl, hk, hall⟩
    refine wp_ite (fun h1 => ?_) (fun h1 => ?_)
    · have hk2 : k < l.length := by omega
      have hb : l[k]? = some l[k] := List.getElem?_eq_getElem hk2
      rw [at_nat hk2, Option.bind_some, hf _ (List.getElem_mem hk2), Option.bind_some]
      refine wp_ite (fun h2 => wp_some (wp_some ?_)) (fun h2 => ?_)
      · refine iff_of_true (by omega) (List.any_eq_true.2 ⟨_, List.getElem_mem hk2, h2⟩)
      · rw [w64_id (by omega) (by omega)]
        refine wp_some ⟨⟨k + 1, rfl, by omega, fun i b hi hib => ?_⟩, by omega⟩
        rcases Nat.lt_or_ge i k with h3 | h3
        · exact hall i b h3 hib
        · have : i = k := by omega
          subst this
          rw [hb] at hib; cases hib
          simpa using h2
    · refine wp_some (wp_some (iff_of_false (by omega) fun hc => ?_))
      obtain ⟨b, hbm, hbp⟩ := List.any_eq_true.1 hc
      obtain ⟨i, hi⟩ := List.getElem?_of_mem hbm
      have hil := (List.getElem?_eq_some_iff.1 hi).1
      rw [hall i b (by omega) hi] at hbp; cases hbp
  obtain ⟨r, hr, hr2⟩ := key
  unfold slices_ContainsFunc_impl_Bar_impl_Bar_798
  rw [hr, Option.bind_some]
  congr 1
  rw [Bool.eq_iff_iff, decide_eq_true_eq]; exact hr2
theorem contains_eqL {l : List (List Int)} {f : List Int → Option Bool} {p : List Int → Bool} (hl : l.length ≤ 1000) (hf : ∀ b, b ∈ l → f b = some (p b)) : slices_ContainsFunc_int64_int64_795 l f = some (l.any p) := by
  have key : wp (slices_IndexFunc_int64_int64_817 l f) (fun r => (r ≥ 0) ↔ l.any p = true) := by
    unfold slices_IndexFunc_int64_int64_817
    refine wp_loop (fun t : Int => ∃ k : Nat, t = (k : Int) ∧ k ≤ l.length ∧ ∀ i b, i < k → l[i]? = some b → p b = false) (fun t => (l.length - t).toNat) ⟨0, rfl, by omega, fun i b hi => by omega⟩ (by omega) ?_
    rintro t ⟨k, rfl, hk, hall⟩
    refine wp_ite (fun h1 => ?_) (fun h1 => ?_)
    · have hk2 : k < l.length := by omega
      have hb : l[k]? = some l[k] := List.getElem?_eq_getElem hk2
      rw [at_nat hk2, Option.bind_some, hf _ (List.getElem_mem hk2), Option.bind_some]
      refine wp_ite (fun h2 => wp_some (wp_some ?_)) (fun h2 => ?_)
      · refine iff_of_true (by omega) (List.any_eq_true.2 ⟨_, List.getElem_mem hk2, h2⟩)
      · rw [w64_id (by omega) (by omega)]
        refine wp_some ⟨⟨k + 1, rfl, by omega, fun i b hi hib => ?_⟩, by omega⟩
        rcases Nat.lt_or_ge i k with h3 | h3
        · exact hall i b h3 hib
        · have : i = k := by omega
          subst this
          rw [hb] at hib; cases hib
          simpa using h2
    · refine wp_some (wp_some (iff_of_false (by omega) fun hc => ?_))
      obtain ⟨b, hbm, hbp⟩ := List.any_eq_true.1 hc
      obtain ⟨i, hi⟩ := List.getElem?_of_mem hbm
      have hil := (List.getElem?_eq_some_iff.1 hi).1
      rw [hall i b (by omega) hi] at hbp; cases hbp
  obtain ⟨r, hr, hr2⟩ := key
  unfold slices_ContainsFunc_int64_int64_795
  rw [hr, Option.bind_some]
  congr 1
  rw [Bool.eq_iff_iff, decide_eq_true_eq]; exact hr2
section
variable {x : GSlide} (h : sok x)
include h
theorem mayStand_eq {P : List Int} (hl : P.length = x.Stops.length) : impl_Slide_mayStand x P = some (may x P) := by
  have b8 := h.b8
  unfold impl_Slide_mayStand
  rw [contains_eq (p := fun b => hits b P) (by omega) fun b hb => bar1_eq h hb hl, Option.bind_some]
  unfold may
  rw [← List.not_any_eq_all_not]
theorem l13May_eq {P : List Int} (hl : P.length = x.Stops.length) : spec_l13May x P = some (may x P) := by
  have b8 := h.b8
  refine eq_of_wp ?_
  unfold spec_l13May
  refine wp_loop (fun t : Int => ∃ k : Nat, t = (k : Int) ∧ k ≤ x.Bars.length ∧ ∀ i b, i < k → x.Bars[i]? = some b → hits b P = false) (fun t => (x.Bars.length - t).toNat) ⟨0, rfl, by omega, fun i b hi => by omega⟩ (by omega) ?_
  rintro t ⟨k, rfl, hk, hall⟩
  refine wp_ite (fun h1 => ?_) (fun h1 => ?_)
  · have hk2 : k < x.Bars.length := by omega
    have hb : x.Bars[k]? = some x.Bars[k] := List.getElem?_eq_getElem hk2
    have hm := List.getElem_mem hk2
    have h3 := bar1_eq h hm hl
    unfold impl_Slide_mayStand_1 at h3
    rw [at_nat hk2, Option.bind_some, h3, Option.bind_some]
    refine wp_ite (fun h2 => wp_some (wp_some ?_)) (fun h2 => ?_)
    · symm
      unfold may
      rw [Bool.eq_false_iff]
      intro hc
      have := List.all_eq_true.1 hc _ hm
      rw [h2] at this; cases this
    · rw [w64_id (by omega) (by omega)]
      refine wp_some ⟨⟨k + 1, rfl, by omega, fun i b hi hib => ?_⟩, by omega⟩
      rcases Nat.lt_or_ge i k with h4 | h4
      · exact hall i b h4 hib
      · have : i = k := by omega
        subst this
        rw [hb] at hib; cases hib
        simpa using h2
  · refine wp_some (wp_some ?_)
    symm
    unfold may
    rw [listall]
    intro i b hi
    have hil := (List.getElem?_eq_some_iff.1 hi).1
    rw [hall i b (by omega) hi]; rfl
theorem moveAt {P : List Int} (hl : P.length = x.Stops.length) (hP : ∀ g, g < P.length → -10 ≤ P.getD g 0 ∧ P.getD g 0 ≤ 10) {m : Nat} (hm : m < 2 * x.Stops.length) :
    ((if ((m : Int).tmod 2) = 0 then ((at? P (w64 ((m : Int).tdiv 2))).bind fun v1 => (at? P (w64 ((m : Int).tdiv 2))).bind fun v2 => some (P.set ((w64 ((m : Int).tdiv 2)).toNat) (w64 (v1 + 1))))
      else (at? P (w64 ((m : Int).tdiv 2))).bind fun v3 => (at? P (w64 ((m : Int).tdiv 2))).bind fun v4 => some (P.set ((w64 ((m : Int).tdiv 2)).toNat) (w64 (v3 - 1)))) : Option (List Int)) = some (mvp P m) := by
  have n4 := h.n4
  have e1 : (m : Int).tdiv 2 = ((m / 2 : Nat) : Int) := by rw [Int.tdiv_eq_ediv_of_nonneg (by omega)]; omega
  have e2 : (m : Int).tmod 2 = ((m % 2 : Nat) : Int) := by rw [Int.tmod_eq_emod_of_nonneg (by omega)]; omega
  have hg : m / 2 < P.length := by omega
  have := hP _ hg
  rw [e1, e2, w64_id (by omega) (by omega), at_getD' hg]
  simp only [Option.bind_some, Int.toNat_natCast]
  unfold mvp
  by_cases hz : m % 2 = 0
  · rw [if_pos (by omega), if_pos hz, w64_id (by omega) (by omega)]
  · rw [if_neg (by omega), if_neg hz, w64_id (by omega) (by omega)]; rfl
theorem moved_eq {P : List Int} (hP : inR x P) {m : Nat} (hm : m < 2 * x.Stops.length) : impl_Slide_moved x P (m : Int) = some (mvp P m, okP x (mvp P m)) := by
  have n4 := h.n4
  have hl := hP.1
  unfold impl_Slide_moved cloneL
  rw [if_pos (by omega), Option.bind_some, moveAt h hl (fun g hg => by have := hP.2 g (by omega); have := h.st g (by omega); omega) hm, Option.bind_some, placesOk_eq h, Option.bind_some]
  unfold okP
  by_cases hin : inR x (mvp P m)
  · rw [decide_eq_true hin, if_pos rfl, mayStand_eq h hin.1]; rfl
  · rw [decide_eq_false hin]; rfl
end
end Go.Vs.G

namespace Go.Vs.G
open Go Go.Vs

theorem contains_eqI {l : List Int} {f : Int → Option Bool} {p : Int → Bool} (hl : l.length ≤ 1000) (hf : ∀ b, b ∈ l → f b = some (p b)) : slices_ContainsFunc_int64_int64_796 l f = some (l.any p) := by
  have key : wp (slices_IndexFunc_int64_int64_818 l f) (fun r => (r ≥ 0) ↔ l.any p = true) := by
    unfold slices_IndexFunc_int64_int64_818
    refine wp_loop (fun t : Int => ∃ k : Nat, t = (k : Int) ∧ k ≤ l.length ∧ ∀ i b, i < k → l[i]? = some b → p b = false) (fun t => (l.length - t).toNat) ⟨0, rfl, by omega, fun i b hi => by omega⟩ (by omega) ?_
    rintro t ⟨k, rfl, hk, hall⟩
    refine wp_ite (fun h1 => ?_) (fun h1 => ?_)
    · have hk2 : k < l.length := by omega
      have hb : l[k]? = some l[k] := List.getElem?_eq_getElem hk2
      rw [at_nat hk2, Option.bind_some, hf _ (List.getElem_mem hk2), Option.bind_some]
      refine wp_ite (fun h2 => wp_some (wp_some ?_)) (fun h2 => ?_)
      · refine iff_of_true (by omega) (List.any_eq_true.2 ⟨_, List.getElem_mem hk2, h2⟩)
      · rw [w64_id (by omega) (by omega)]
        refine wp_some ⟨⟨k + 1, rfl, by omega, fun i b hi hib => ?_⟩, by omega⟩
        rcases Nat.lt_or_ge i k with h3 | h3
        · exact hall i b h3 hib
        · have : i = k := by omega
          subst this
          rw [hb] at hib; cases hib
          simpa using h2
    · refine wp_some (wp_some (iff_of_false (by omega) fun hc => ?_))
      obtain ⟨b, hbm, hbp⟩ := List.any_eq_true.1 hc
      obtain ⟨i, hi⟩ := List.getElem?_of_mem hbm
      have hil := (List.getElem?_eq_some_iff.1 hi).1
      rw [hall i b (by omega) hi] at hbp; cases hbp
  obtain ⟨r, hr, hr2⟩ := key
  unfold slices_ContainsFunc_int64_int64_796
  rw [hr, Option.bind_some]
  congr 1
  rw [Bool.eq_iff_iff, decide_eq_true_eq]; exact hr2
section
variable {x : GSlide} (h : sok x)
include h
theorem mem_st {s : Int} (hs : s ∈ x.Stops) : 1 ≤ s ∧ s ≤ 4 := by
  obtain ⟨g, hg, he⟩ := List.mem_iff_getElem.1 hs
  have := h.st g hg
  rw [List.getD_eq_getElem?_getD, List.getElem?_eq_getElem hg] at this
  simp only [Option.getD_some] at this
  omega
theorem ValidSlide_eq : impl_ValidSlide x = some true := by
  have n1 := h.n1; have n4 := h.n4; have b8 := h.b8
  have e1 : slices_ContainsFunc_int64_int64_796 x.Stops (fun a0 => impl_ValidSlide_1 a0) = some false := by
    rw [contains_eqI (p := fun _ => false) (by omega) fun s hs => ?_]
    · simp
    · have := mem_st h hs
      unfold impl_ValidSlide_1
      rw [within_eqR, Option.bind_some, decide_eq_true (by omega)]; rfl
  have e2 : slices_ContainsFunc_impl_Bar_impl_Bar_798 x.Bars (fun a0 => impl_ValidSlide_2 a0 (x.Stops.length : Int) x) = some false := by
    rw [contains_eq (p := fun _ => false) (by omega) fun b hb => ?_]
    · simp
    · obtain ⟨a1, a2, a3, a4, a5, a6, a7⟩ := h.bs b hb
      have s1 := h.st b.A.toNat (by omega)
      have s2 := h.st b.B.toNat (by omega)
      unfold impl_ValidSlide_2
      rw [within_eqR, Option.bind_some, w64_id (by omega) (by omega), decide_eq_true (by omega), if_pos rfl, within_eqR, Option.bind_some, w64_id (by omega) (by omega), decide_eq_true (by omega), if_pos rfl,
        at_getI (by omega) (by omega), Option.bind_some, within_eqR, Option.bind_some, w64_id (by omega) (by omega), decide_eq_true (by omega), if_pos rfl, at_getI (by omega) (by omega), Option.bind_some, within_eqR, Option.bind_some,
        w64_id (by omega) (by omega), decide_eq_true (by omega)]
      rfl
  unfold impl_ValidSlide
  rw [if_neg (by omega), if_neg (by omega), e1, Option.bind_some, Option.bind_some, if_neg (by simp), if_pos (by omega), e2]
  rfl
omit h in
theorem okP_iff {P : List Int} : okP x P = true ↔ inR x P ∧ may x P = true := by unfold okP; simp
theorem slideCode_eq {m : Nat} (hm : m < 2 * x.Stops.length) {Ps : List (List Int)} (hl : Ps.length ≤ 1000) (hP : ∀ P, P ∈ Ps → okP x P = true) : impl_slideCode x (m : Int) Ps = some 0 := by
  have n4 := h.n4
  have e1 : slices_ContainsFunc_int64_int64_795 Ps (fun a0 => impl_slideCode_1 a0 x) = some false := by
    rw [contains_eqL (p := fun _ => false) (by omega) fun P hPm => ?_]
    · simp
    · unfold impl_slideCode_1
      rw [placesOk_eq h, Option.bind_some, decide_eq_true (okP_iff.1 (hP P hPm)).1]; rfl
  have e2 : slices_ContainsFunc_int64_int64_795 Ps (fun a0 => impl_slideCode_2 a0 x) = some false := by
    rw [contains_eqL (p := fun _ => false) (by omega) fun P hPm => ?_]
    · simp
    · obtain ⟨h1, h2⟩ := okP_iff.1 (hP P hPm)
      unfold impl_slideCode_2
      rw [mayStand_eq h h1.1, Option.bind_some, h2]; rfl
  unfold impl_slideCode
  rw [ValidSlide_eq h, Option.bind_some, if_pos rfl, e1, Option.bind_some, if_neg (by simp), within_eqR, Option.bind_some, w64_id (n := 2 * (x.Stops.length : Int)) (by omega) (by omega), w64_id (by omega) (by omega), decide_eq_true (by omega)]
  simp only [Bool.not_true, Option.bind_some, Bool.false_eq_true, if_false]
  rw [e2, Option.bind_some]
  simp
omit h in
omit h in
omit h in
omit h in
end
end Go.Vs.G

namespace Go.Vs.G
open Go Go.Vs

/-- a walk of possible moves -/
def wk (x : GSlide) : List Int → List Int → List Int → Prop
  | [], P, Q => P = Q
  | v :: w, P, Q => ∃ k : Nat, v = (k : Int) ∧ k < 2 * x.Stops.length ∧ okP x (mvp P k) = true ∧ wk x w (mvp P k) Q
theorem wk_app {x : GSlide} : ∀ {w v : List Int} {P Q R : List Int}, wk x w P Q → wk x v Q R → wk x (w ++ v) P R
  | [], v, P, Q, R, h1, h2 => by rw [show P = Q from h1]; exact h2
  | m :: w, v, P, Q, R, h1, h2 => by
    obtain ⟨k, k1, k2, k3, k4⟩ := h1
    exact ⟨k, k1, k2, k3, wk_app k4 h2⟩
theorem wk_one {x : GSlide} {P : List Int} {k : Nat} (hk : k < 2 * x.Stops.length) (ho : okP x (mvp P k) = true) : wk x [(k : Int)] P (mvp P k) := ⟨k, rfl, hk, ho, rfl⟩
theorem okP_len {x : GSlide} {P : List Int} (h : okP x P = true) : P.length = x.Stops.length := (okP_iff.1 h).1.1
/-- a list without repetitions is no longer than one that has all of it -/
theorem nodup_le {α : Type} [DecidableEq α] : ∀ {l m : List α}, l.Nodup → (∀ a, a ∈ l → a ∈ m) → l.length ≤ m.length
  | [], m, _, _ => by simp
  | a :: l, m, h, hs => by
    obtain ⟨h1, h2⟩ := List.nodup_cons.1 h
    have ha := hs a (by simp)
    have := nodup_le (l := l) (m := m.erase a) h2 fun b hb => (List.mem_erase_of_ne (fun e => h1 (by rw [← e]; exact hb))).2 (hs b (by simp [hb]))
    rw [List.length_erase_of_mem ha] at this
    have : 0 < m.length := List.length_pos_of_mem ha
    simp only [List.length_cons]; omega
/-- all places -/
def allP : List Int → List (List Int)
  | [] => [[]]
  | s :: ss => (List.range s.toNat).flatMap fun v : Nat => (allP ss).map fun P => (v : Int) :: P
def prod : List Int → Int
  | [] => 1
  | s :: ss => s * prod ss
theorem allP_mem : ∀ {ss P : List Int}, P ∈ allP ss ↔ P.length = ss.length ∧ ∀ g, g < ss.length → 0 ≤ P.getD g 0 ∧ P.getD g 0 < ss.getD g 0
  | [], P => by
    simp only [allP, List.mem_singleton, List.length_nil]
    constructor
    · rintro rfl; simp
    · rintro ⟨h, _⟩; exact List.length_eq_zero_iff.1 h
  | s :: ss, P => by
    simp only [allP, List.mem_flatMap, List.mem_map, List.mem_range]
    constructor
    · rintro ⟨v, hv, Q, hQ, rfl⟩
      obtain ⟨h1, h2⟩ := allP_mem.1 hQ
      refine ⟨by simp [h1], fun g hg => ?_⟩
      cases g with
      | zero => simp only [List.getD_cons_zero]; omega
      | succ g =>
        simp only [List.getD_cons_succ]
        exact h2 g (by simpa using hg)
    · rintro ⟨h1, h2⟩
      cases P with
      | nil => simp at h1
      | cons a Q =>
        have h0 := h2 0 (by simp)
        simp only [List.getD_cons_zero] at h0
        refine ⟨a.toNat, by omega, Q, allP_mem.2 ⟨by simpa using h1, fun g hg => ?_⟩, by rw [Int.toNat_of_nonneg h0.1]⟩
        have := h2 (g + 1) (by simpa using hg)
        simpa only [List.getD_cons_succ] using this
theorem allP_len : ∀ {ss : List Int}, (∀ s, s ∈ ss → 0 ≤ s) → ((allP ss).length : Int) = prod ss
  | [], _ => rfl
  | s :: ss, h => by
    have ih := allP_len (ss := ss) fun q hq => h q (by simp [hq])
    have hs := h s (by simp)
    simp only [allP, prod, List.length_flatMap, List.length_map]
    rw [← ih]
    have : ∀ (n c : Nat), ((List.range n).map fun _ => c).sum = n * c := by
      intro n c
      induction n with
      | zero => simp
      | succ n ih => rw [List.range_succ, List.map_append, List.sum_append, ih, Nat.succ_mul]; simp
    rw [this]
    rw [Int.natCast_mul, Int.toNat_of_nonneg hs]
theorem allP_nodup : ∀ (ss : List Int), (allP ss).Nodup
  | [] => by simp [allP]
  | s :: ss => by
    have ih := allP_nodup ss
    unfold allP
    rw [List.nodup_iff_pairwise_ne] at ih ⊢
    refine List.pairwise_flatMap.2 ⟨fun v hv => ?_, ?_⟩
    · rw [List.pairwise_map]
      exact ih.imp fun hab hc => hab (by simpa using hc)
    · refine (List.pairwise_lt_range (n := s.toNat)).imp ?_
      intro a b hab P hP Q hQ hc
      obtain ⟨P', _, rfl⟩ := List.mem_map.1 hP
      obtain ⟨Q', _, rfl⟩ := List.mem_map.1 hQ
      have := (List.cons.inj hc).1
      omega
theorem prod_bd : ∀ {ss : List Int}, (∀ s, s ∈ ss → 1 ≤ s ∧ s ≤ 4) → ss.length ≤ 4 → 1 ≤ prod ss ∧ prod ss ≤ 256 := by
  have key : ∀ {ss : List Int}, (∀ s, s ∈ ss → 1 ≤ s ∧ s ≤ 4) → 1 ≤ prod ss ∧ prod ss ≤ 4 ^ ss.length := by
    intro ss
    induction ss with
    | nil => intro _; simp [prod]
    | cons s ss ih =>
      intro h
      obtain ⟨i1, i2⟩ := ih fun q hq => h q (by simp [hq])
      have hs := h s (by simp)
      simp only [prod, List.length_cons, Int.pow_succ]
      have e : s = 1 ∨ s = 2 ∨ s = 3 ∨ s = 4 := by omega
      rcases e with rfl | rfl | rfl | rfl <;> omega
  intro ss h hl
  obtain ⟨h1, h2⟩ := key h
  refine ⟨h1, Int.le_trans h2 ?_⟩
  have e : ss.length = 0 ∨ ss.length = 1 ∨ ss.length = 2 ∨ ss.length = 3 ∨ ss.length = 4 := by omega
  rcases e with e | e | e | e | e <;> simp [e]
/- keys -/
abbrev klk : GPlacesKey → List Int := fun k => [k.a0, k.a1, k.a2, k.a3]
def ky (P : List Int) : GPlacesKey := ⟨(key4 P).getD 0 0, (key4 P).getD 1 0, (key4 P).getD 2 0, (key4 P).getD 3 0⟩
theorem key_eq {P : List Int} (h : P.length ≤ 4) : impl_key P = some (ky P) := by
  unfold impl_key impl_key4
  rw [if_pos (by omega)]; rfl
theorem klk_ky (P : List Int) : klk (ky P) = key4 P := by
  have hl : (key4 P).length = 4 := by unfold key4; simp
  unfold ky klk
  generalize key4 P = l at *
  match l, hl with
  | [a, b, c, d], _ => rfl
theorem key4_inj {P Q : List Int} (h : P.length = Q.length) (h4 : P.length ≤ 4) (he : key4 P = key4 Q) : P = Q := by
  have : (key4 P).take P.length = (key4 Q).take P.length := by rw [he]
  unfold key4 at this
  rw [List.take_take, List.take_take, Nat.min_eq_left h4, List.take_append_of_le_length (Nat.le_refl _), List.take_append_of_le_length (by omega)] at this
  rwa [List.take_length, h, List.take_length] at this
/-- what the map holds -/
def encB (B : List (List Int × List Int)) : List (GPlacesKey × List Int) := B.map fun b => (ky b.1, b.2)
section
variable {n : Nat} (hn : n ≤ 4)
include hn
theorem mIx_at : ∀ {B : List (List Int × List Int)} {P : List Int}, (∀ b, b ∈ B → b.1.length = n) → P.length = n →
    (∀ i, mIx klk (ky P) (encB B) = some i → ∃ b, B[i]? = some b ∧ b.1 = P) ∧ (mIx klk (ky P) (encB B) = none → ∀ b, b ∈ B → b.1 ≠ P)
  | [], P, hB, hP => ⟨fun i h => by simp [mIx, encB, keyIx] at h, fun _ b hb => by simp at hb⟩
  | b :: B, P, hB, hP => by
    obtain ⟨g1, g2⟩ := mIx_at (B := B) (P := P) (fun c hc => hB c (by simp [hc])) hP
    have hb := hB b (by simp)
    have hd : mIx klk (ky P) (encB (b :: B)) = if klk (ky P) = klk (ky b.1) then some 0 else (mIx klk (ky P) (encB B)).map (· + 1) := rfl
    have hk : klk (ky P) = klk (ky b.1) ↔ b.1 = P := by
      rw [klk_ky, klk_ky]
      exact ⟨fun h => (key4_inj (by omega) (by omega) h).symm, fun h => by rw [h]⟩
    rw [hd]
    by_cases hq : b.1 = P
    · rw [if_pos (hk.2 hq)]
      exact ⟨fun i hi => by cases hi; exact ⟨b, rfl, hq⟩, fun hi => by cases hi⟩
    · rw [if_neg (fun h => hq (hk.1 h))]
      constructor
      · intro i hi
        obtain ⟨j, hj, rfl⟩ := Option.map_eq_some_iff.1 hi
        exact g1 j hj
      · intro hi
        have := Option.map_eq_none_iff.1 hi
        intro c hc
        rcases List.mem_cons.1 hc with rfl | hc
        · exact hq
        · exact g2 this c hc
theorem has_iff {B : List (List Int × List Int)} {P : List Int} (hB : ∀ b, b ∈ B → b.1.length = n) (hP : P.length = n) : mhas klk (encB B) (ky P) = true ↔ ∃ b, b ∈ B ∧ b.1 = P := by
  obtain ⟨g1, g2⟩ := mIx_at hn hB hP
  unfold mhas
  cases hq : mIx klk (ky P) (encB B) with
  | none => exact iff_of_false (by simp) fun ⟨b, hb, he⟩ => g2 hq b hb he
  | some i =>
    obtain ⟨b, hb, he⟩ := g1 i hq
    exact iff_of_true rfl ⟨b, List.mem_of_getElem? hb, he⟩
theorem get_eq {B : List (List Int × List Int)} (hB : ∀ b, b ∈ B → b.1.length = n) (hnd : (B.map (·.1)).Nodup) {b : List Int × List Int} (hb : b ∈ B) : mget klk (encB B) (ky b.1) [] = b.2 := by
  obtain ⟨g1, g2⟩ := mIx_at hn hB (hB b hb)
  unfold mget
  cases hq : mIx klk (ky b.1) (encB B) with
  | none => exact absurd rfl (g2 hq b hb)
  | some i =>
    obtain ⟨c, hc, he⟩ := g1 i hq
    obtain ⟨j, hj⟩ := List.getElem?_of_mem hb
    have hil := (List.getElem?_eq_some_iff.1 hc).1
    have hjl := (List.getElem?_eq_some_iff.1 hj).1
    have hij : i = j := by
      rw [List.nodup_iff_pairwise_ne, List.pairwise_map] at hnd
      have h1 := (List.getElem?_eq_some_iff.1 hc).2
      have h2 := (List.getElem?_eq_some_iff.1 hj).2
      rcases Nat.lt_trichotomy i j with h3 | h3 | h3
      · exact absurd (by rw [h1, h2]; exact he) (List.pairwise_iff_getElem.1 hnd i j hil hjl h3)
      · exact h3
      · exact absurd (by rw [h1, h2]; exact he.symm) (List.pairwise_iff_getElem.1 hnd j i hjl hil h3)
    subst hij
    rw [hc] at hj; cases hj
    simp [encB, hc]
theorem put_eq {B : List (List Int × List Int)} {P w : List Int} (hB : ∀ b, b ∈ B → b.1.length = n) (hP : P.length = n) (hno : ∀ b, b ∈ B → b.1 ≠ P) : mput klk (encB B) (ky P) w = encB (B ++ [(P, w)]) := by
  obtain ⟨g1, g2⟩ := mIx_at hn hB hP
  unfold mput
  cases hq : mIx klk (ky P) (encB B) with
  | none => simp [encB]
  | some i =>
    obtain ⟨c, hc, he⟩ := g1 i hq
    exact absurd he (hno c (List.mem_of_getElem? hc))
end
end Go.Vs.G

namespace Go.Vs.G
open Go Go.Vs

/-- what is reached so far: i places are done, and m moves of the next one -/
structure BInv (x : GSlide) (F : List Int) (B : List (List Int × List Int)) (i m : Nat) : Prop where
  ok : ∀ b, b ∈ B → okP x b.1 = true ∧ wk x b.2 F b.1
  nd : (B.map (·.1)).Nodup
  so : B.Pairwise (fun a b => a.2.length ≤ b.2.length)
  hi : ∀ c, B[i]? = some c → ∀ b, b ∈ B → b.2.length ≤ c.2.length + 1
  cl : ∀ (j : Nat) c, j < i → B[j]? = some c → ∀ k, k < 2 * x.Stops.length → okP x (mvp c.1 k) = true → ∃ b, b ∈ B ∧ b.1 = mvp c.1 k ∧ b.2.length ≤ c.2.length + 1
  cm : ∀ c, B[i]? = some c → ∀ k, k < m → okP x (mvp c.1 k) = true → ∃ b, b ∈ B ∧ b.1 = mvp c.1 k ∧ b.2.length ≤ c.2.length + 1
  st : (F, []) ∈ B
  ln : ∀ b, b ∈ B → b.2.length < B.length
theorem BInv.start {x : GSlide} {F : List Int} (h : okP x F = true) : BInv x F [(F, [])] 0 0 where
  ok := fun b hb => by rw [List.mem_singleton.1 hb]; exact ⟨h, rfl⟩
  nd := by simp
  so := by simp
  hi := fun c hc b hb => by rw [List.mem_singleton.1 hb]; simp
  cl := fun j c hj => by omega
  cm := fun c hc k hk => by omega
  st := by simp
  ln := fun b hb => by rw [List.mem_singleton.1 hb]; simp
theorem BInv.skip {x : GSlide} {F : List Int} {B : List (List Int × List Int)} {i m : Nat} (h : BInv x F B i m) {c : List Int × List Int} (hc : B[i]? = some c)
    (hs : okP x (mvp c.1 m) = false ∨ ∃ b, b ∈ B ∧ b.1 = mvp c.1 m) : BInv x F B i (m + 1) :=
  { h with
    cm := fun d hd k hk ho => by
      rcases Nat.lt_or_ge k m with h1 | h1
      · exact h.cm d hd k h1 ho
      · have hkm : k = m := by omega
        subst hkm
        rw [hc] at hd; cases hd
        rcases hs with h2 | ⟨b, hb, he⟩
        · rw [h2] at ho; cases ho
        · exact ⟨b, hb, he, h.hi c hc b hb⟩ }
theorem BInv.add {x : GSlide} {F : List Int} {B : List (List Int × List Int)} {i m : Nat} (h : BInv x F B i m) {c : List Int × List Int} (hc : B[i]? = some c) (hm : m < 2 * x.Stops.length)
    (ho : okP x (mvp c.1 m) = true) (hno : ∀ b, b ∈ B → b.1 ≠ mvp c.1 m) : BInv x F (B ++ [(mvp c.1 m, c.2 ++ [(m : Int)])]) i (m + 1) := by
  have hil := (List.getElem?_eq_some_iff.1 hc).1
  have hcm := List.mem_of_getElem? hc
  have hold : ∀ {j : Nat} {d}, j < i + 1 → (B ++ [(mvp c.1 m, c.2 ++ [(m : Int)])])[j]? = some d → B[j]? = some d := fun {j d} hj hd => by
    rwa [List.getElem?_append_left (by omega)] at hd
  refine ⟨fun b hb => ?_, ?_, ?_, fun d hd b hb => ?_, fun j d hj hd k hk hok => ?_, fun d hd k hk hok => ?_, List.mem_append_left _ h.st, fun b hb => ?_⟩
  · rcases List.mem_append.1 hb with hb | hb
    · exact h.ok b hb
    · rw [List.mem_singleton.1 hb]
      exact ⟨ho, wk_app (h.ok c hcm).2 (wk_one hm ho)⟩
  · rw [List.map_append]
    refine List.nodup_append.2 ⟨h.nd, by simp, fun a ha b hb => ?_⟩
    obtain ⟨d, hd, rfl⟩ := List.mem_map.1 ha
    simp only [List.map_cons, List.map_nil, List.mem_singleton] at hb
    rw [hb]; exact hno d hd
  · refine List.pairwise_append.2 ⟨h.so, by simp, fun a ha b hb => ?_⟩
    rw [List.mem_singleton.1 hb]
    have := h.hi c hc a ha
    simpa using this
  · have hd := hold (by omega) hd
    rw [hc] at hd; cases hd
    rcases List.mem_append.1 hb with hb | hb
    · exact h.hi c hc b hb
    · rw [List.mem_singleton.1 hb]; simp
  · obtain ⟨b, h1, h2⟩ := h.cl j d hj (hold (by omega) hd) k hk hok
    exact ⟨b, List.mem_append_left _ h1, h2⟩
  · have hd' := hold (by omega) hd
    rw [hc] at hd'; cases hd'
    rcases Nat.lt_or_ge k m with h1 | h1
    · obtain ⟨b, h1, h2⟩ := h.cm c hc k h1 hok
      exact ⟨b, List.mem_append_left _ h1, h2⟩
    · have hkm : k = m := by omega
      subst hkm
      exact ⟨_, List.mem_append_right _ (List.mem_singleton.2 rfl), rfl, by simp⟩
  · rw [List.length_append, List.length_singleton]
    rcases List.mem_append.1 hb with hb | hb
    · have := h.ln b hb; omega
    · have := h.ln c hcm
      rw [List.mem_singleton.1 hb]; simp only [List.length_append, List.length_singleton]; omega
theorem BInv.next {x : GSlide} {F : List Int} {B : List (List Int × List Int)} {i : Nat} (h : BInv x F B i (2 * x.Stops.length)) (hi : i < B.length) : BInv x F B (i + 1) 0 :=
  { h with
    hi := fun c hc b hb => by
      have h1 := h.hi _ (List.getElem?_eq_getElem hi) b hb
      obtain ⟨h2, h3⟩ := List.getElem?_eq_some_iff.1 hc
      have h4 := List.pairwise_iff_getElem.1 h.so i (i + 1) hi h2 (by omega)
      rw [h3] at h4
      omega
    cl := fun j c hj hc k hk ho => by
      rcases Nat.lt_or_ge j i with h1 | h1
      · exact h.cl j c h1 hc k hk ho
      · have : j = i := by omega
        subst this
        exact h.cm c hc k hk ho
    cm := fun c hc k hk => by omega }
/-- all that is reached -/
structure Rch (x : GSlide) (F : List Int) (B : List (List Int × List Int)) : Prop where
  ok : ∀ b, b ∈ B → okP x b.1 = true ∧ wk x b.2 F b.1
  nd : (B.map (·.1)).Nodup
  cl : ∀ c, c ∈ B → ∀ k, k < 2 * x.Stops.length → okP x (mvp c.1 k) = true → ∃ b, b ∈ B ∧ b.1 = mvp c.1 k ∧ b.2.length ≤ c.2.length + 1
  st : (F, []) ∈ B
  ln : ∀ b, b ∈ B → b.2.length < B.length
theorem BInv.done {x : GSlide} {F : List Int} {B : List (List Int × List Int)} {i m : Nat} (h : BInv x F B i m) (hi : B.length ≤ i) : Rch x F B :=
  ⟨h.ok, h.nd, fun c hc k hk ho => by
    obtain ⟨j, hj⟩ := List.getElem?_of_mem hc
    have := (List.getElem?_eq_some_iff.1 hj).1
    exact h.cl j c (by omega) hj k hk ho, h.st, h.ln⟩
theorem Rch.from_ {x : GSlide} {F : List Int} {B : List (List Int × List Int)} (h : Rch x F B) : ∀ {w : List Int} {c : List Int × List Int} {Q : List Int}, c ∈ B → wk x w c.1 Q → ∃ b, b ∈ B ∧ b.1 = Q ∧ b.2.length ≤ c.2.length + w.length
  | [], c, Q, hc, hw => ⟨c, hc, hw, by simp⟩
  | v :: w, c, Q, hc, hw => by
    obtain ⟨k, k1, k2, k3, k4⟩ := hw
    obtain ⟨d, d1, d2, d3⟩ := h.cl c hc k k2 k3
    obtain ⟨b, b1, b2, b3⟩ := Rch.from_ h d1 (by rw [d2]; exact k4)
    exact ⟨b, b1, b2, by simp only [List.length_cons]; omega⟩
theorem Rch.min {x : GSlide} {F : List Int} {B : List (List Int × List Int)} (h : Rch x F B) {w Q : List Int} (hw : wk x w F Q) : ∃ b, b ∈ B ∧ b.1 = Q ∧ b.2.length ≤ w.length := by
  obtain ⟨b, b1, b2, b3⟩ := h.from_ (c := (F, [])) h.st hw
  exact ⟨b, b1, b2, by simpa using b3⟩
theorem all_bd {x : GSlide} (h : sok x) {B : List (List Int × List Int)} (hB : ∀ b, b ∈ B → okP x b.1 = true) (hnd : (B.map (·.1)).Nodup) : (B.length : Int) ≤ prod x.Stops ∧ 1 ≤ prod x.Stops ∧ prod x.Stops ≤ 256 := by
  have h1 := nodup_le hnd (m := allP x.Stops) fun P hP => by
    obtain ⟨b, hb, rfl⟩ := List.mem_map.1 hP
    obtain ⟨i1, i2⟩ := (okP_iff.1 (hB b hb)).1
    exact allP_mem.2 ⟨i1, i2⟩
  have h2 := allP_len (ss := x.Stops) fun s hs => by have := mem_st h hs; omega
  rw [List.length_map] at h1
  exact ⟨by omega, prod_bd (fun s hs => mem_st h hs) h.n4⟩
theorem reach_eq {x : GSlide} (h : sok x) {F : List Int} (hF : okP x F = true) : ∃ B, impl_Slide_reach x F = some (encB B) ∧ Rch x F B := by
  have n4 := h.n4
  have hFl := okP_len hF
  suffices hh : wp (impl_Slide_reach x F) (fun r => ∃ B, r = encB B ∧ Rch x F B) by
    obtain ⟨r, h1, B, rfl, h2⟩ := hh
    exact ⟨B, h1, h2⟩
  unfold impl_Slide_reach
  rw [key_eq (by omega), Option.bind_some, show mput (fun (k : GPlacesKey) => [k.a0, k.a1, k.a2, k.a3]) ([] : List (GPlacesKey × (List Int))) (ky F) ([] : List Int) = encB [(F, [])] from put_eq (n := x.Stops.length) n4 (B := []) (by simp) hFl (by simp)]
  have hlen : ∀ {B : List (List Int × List Int)} {i m : Nat}, BInv x F B i m → B.length ≤ 256 ∧ ∀ b, b ∈ B → b.1.length = x.Stops.length := fun {B i m} hb => by
    have := all_bd h (fun b hb2 => (hb.ok b hb2).1) hb.nd
    exact ⟨by omega, fun b hb2 => okP_len (hb.ok b hb2).1⟩
  refine wp_loop (fun t : List (GPlacesKey × List Int) × List (List Int) × Int => ∃ B, ∃ i : Nat, t.1 = encB B ∧ t.2.1 = B.map (·.1) ∧ t.2.2 = (i : Int) ∧ i ≤ B.length ∧ BInv x F B i 0) (fun t => (256 - t.2.2).toNat)
    ⟨[(F, [])], 0, rfl, rfl, rfl, by simp, BInv.start hF⟩ (by simp only; omega) ?_
  rintro ⟨out1, queue1, i1⟩ ⟨B, i, rfl, rfl, rfl, hi, hI⟩
  simp only
  obtain ⟨hB, hBl⟩ := hlen hI
  refine wp_ite (fun h1 => ?_) (fun h1 => wp_some (wp_some ⟨B, rfl, hI.done (by rw [List.length_map] at h1; omega)⟩))
  rw [List.length_map] at h1
  refine wp_loop (fun t : List (GPlacesKey × List Int) × List (List Int) × Int => ∃ B, ∃ m : Nat, t.1 = encB B ∧ t.2.1 = B.map (·.1) ∧ t.2.2 = (m : Int) ∧ m ≤ 2 * x.Stops.length ∧ i < B.length ∧ BInv x F B i m) (fun t => (8 - t.2.2).toNat)
    ⟨B, 0, rfl, rfl, rfl, by omega, by omega, hI⟩ (by simp only; omega) ?_
  rintro ⟨out2, queue2, x2⟩ ⟨C, m, rfl, rfl, rfl, hm, hiC, hJ⟩
  simp only
  obtain ⟨hC, hCl⟩ := hlen hJ
  rw [w64_id (n := 2 * (x.Stops.length : Int)) (by omega) (by omega)]
  refine wp_ite (fun h2 => ?_) (fun h2 => ?_)
  · have hc : C[i]? = some C[i] := List.getElem?_eq_getElem hiC
    have hcm := List.getElem_mem hiC
    generalize C[i] = c at *
    have hco := (hJ.ok c hcm).1
    have hcin := (okP_iff.1 hco).1
    have hcl := okP_len hco
    have hat : at? (C.map (·.1)) (i : Int) = some c.1 := by rw [at_get? (by omega)]; simp [hc]
    have hmv := moved_eq h hcin (m := m) (by omega)
    have hml : (mvp c.1 m).length = x.Stops.length := by rw [mvp_len]; exact hcl
    rw [hat, Option.bind_some, hmv, Option.bind_some, key_eq (by simp only; omega), Option.bind_some, w64_id (n := (m : Int) + 1) (by omega) (by omega)]
    have hhas := has_iff (n := x.Stops.length) n4 hCl hml
    have e1 : ((if okP x (mvp c.1 m) = true then (some (mhas (fun (k : GPlacesKey) => [k.a0, k.a1, k.a2, k.a3]) (encB C) (ky (mvp c.1 m)))) else some true) : Option Bool) = some (!okP x (mvp c.1 m) || mhas klk (encB C) (ky (mvp c.1 m))) := by
      cases okP x (mvp c.1 m) <;> simp
    simp only
    rw [e1, Option.bind_some]
    by_cases hsk : (!okP x (mvp c.1 m) || mhas klk (encB C) (ky (mvp c.1 m))) = true
    · rw [if_pos hsk]
      refine wp_some ⟨⟨C, m + 1, rfl, rfl, rfl, by omega, hiC, hJ.skip hc ?_⟩, by simp only; omega⟩
      rcases Bool.or_eq_true_iff.1 hsk with h3 | h3
      · exact .inl (by simpa using h3)
      · exact .inr (hhas.1 h3)
    · rw [if_neg hsk]
      rw [Bool.or_eq_true_iff, not_or] at hsk
      have ho : okP x (mvp c.1 m) = true := by simpa using hsk.1
      have hno : ∀ b, b ∈ C → b.1 ≠ mvp c.1 m := fun b hb he => hsk.2 (hhas.2 ⟨b, hb, he⟩)
      have hK := hJ.add hc (by omega) ho hno
      obtain ⟨hD, hDl⟩ := hlen hK
      rw [List.length_append, List.length_singleton] at hD
      have hwl := hJ.ln c hcm
      have hget : mget (fun (k : GPlacesKey) => [k.a0, k.a1, k.a2, k.a3]) (encB C) (ky c.1) ([] : List Int) = c.2 := get_eq (n := x.Stops.length) n4 hCl hJ.nd hcm
      have hput : mput (fun (k : GPlacesKey) => [k.a0, k.a1, k.a2, k.a3]) (encB C) (ky (mvp c.1 m)) (c.2 ++ [(m : Int)]) = encB (C ++ [(mvp c.1 m, c.2 ++ [(m : Int)])]) := put_eq (n := x.Stops.length) n4 hCl hml hno
      rw [Option.bind_some, Option.bind_some, key_eq (P := c.1) (by omega), Option.bind_some, hget]
      unfold cloneL
      rw [if_pos (by omega), Option.bind_some, app_ok (by simp; omega), Option.bind_some, app_ok (by simp; omega), Option.bind_some, hput]
      refine wp_some ⟨⟨C ++ [(mvp c.1 m, c.2 ++ [(m : Int)])], m + 1, rfl, by simp, rfl, by omega, by simp; omega, hK⟩, by simp only; omega⟩
  · have hm2 : m = 2 * x.Stops.length := by omega
    subst hm2
    rw [w64_id (by omega) (by omega)]
    exact wp_some (wp_some ⟨⟨C, i + 1, rfl, rfl, rfl, by omega, hJ.next hiC⟩, by simp only; omega⟩)
end Go.Vs.G

namespace Go.Vs.G
open Go Go.Vs

theorem l13Draw_ok {B : Int} {s : GL00Src} (hs : SrcOk B s) (hB : B ≤ 1000000) : wp (spec_l13Draw s) (fun r => sok r.1 ∧ SrcOk (B + 100) r.2) := by
  unfold spec_l13Draw
  refine wp_pick hs (by omega) fun n s1 n0 n1 h1 => ?_
  simp only
  rw [w64_id (n := 1 + n) (by omega) (by omega)]
  refine wp_loop (fun t : GL00Src × List Int × Int => SrcOk (B + 2 + 2 * (t.2.1.length : Int)) t.1 ∧ 0 ≤ t.2.2 ∧ (t.2.1.length : Int) = 1 + n - t.2.2 ∧ ∀ a, a ∈ t.2.1 → 1 ≤ a ∧ a ≤ 4) (fun t => t.2.2.toNat)
    ⟨h1.mono (by simp), by simp only; omega, by simp, fun a ha => by simp at ha⟩ (by simp only; omega) ?_
  rintro ⟨s2, st, k⟩ ⟨q1, q2, q3, q4⟩
  simp only at q1 q2 q3 q4 ⊢
  refine wp_ite (fun hk => wp_pick q1 (by omega) fun v s3 v0 v1 h3 => ?_) (fun hk => wp_some ?_)
  · simp only
    rw [w64_id (n := 1 + v) (by omega) (by omega), w64_id (n := k - 1) (by omega) (by omega)]
    refine wp_app (by simp; omega) (wp_some ⟨⟨h3.mono (by simp; omega), by simp only; omega, by simp; omega, fun a ha => ?_⟩, by simp only; omega⟩)
    rcases List.mem_append.1 ha with ha | ha
    · exact q4 a ha
    · rw [List.mem_singleton.1 ha]; omega
  · have hst : ∀ g, g < st.length → 1 ≤ st.getD g 0 ∧ st.getD g 0 ≤ 4 := fun g hg => q4 _ (mem_getD.2 ⟨g, hg, rfl⟩)
    refine wp_pick q1 (by omega) fun m s3 m0 m1 h3 => ?_
    simp only
    refine wp_loop (fun t : GL00Src × List GBar × Int => SrcOk (B + 20 + 8 * (t.2.1.length : Int)) t.1 ∧ 0 ≤ t.2.2 ∧ (t.2.1.length : Int) = m - t.2.2 ∧ ∀ b, b ∈ t.2.1 → barOk (GSlide.mk st []) b) (fun t => t.2.2.toNat)
      ⟨h3.mono (by simp; omega), by simp only; omega, by simp, fun a ha => by simp at ha⟩ (by simp only; omega) ?_
    rintro ⟨s4, bs, j⟩ ⟨p1, p2, p3, p4⟩
    simp only at p1 p2 p3 p4 ⊢
    have e : ((if j > 0 then (some (decide ((st.length : Int) > 1))) else some false) : Option Bool) = some (decide (j > 0 ∧ (st.length : Int) > 1)) := by
      by_cases hj : j > 0
      · rw [if_pos hj]; congr 1; by_cases hs : (st.length : Int) > 1
        · rw [decide_eq_true hs, decide_eq_true ⟨hj, hs⟩]
        · rw [decide_eq_false hs, decide_eq_false (fun hc => hs hc.2)]
      · rw [if_neg hj, decide_eq_false (fun hc => hj hc.1)]
    rw [e, Option.bind_some]
    refine wp_ite (fun hc => ?_) (fun hc => wp_some (wp_some ⟨⟨show 1 ≤ st.length by omega, show st.length ≤ 4 by omega, hst, show bs.length ≤ 8 by omega, p4⟩, p1.mono (by omega)⟩))
    obtain ⟨hj, hl⟩ := of_decide_eq_true hc
    rw [w64_id (n := (st.length : Int) - 1) (by omega) (by omega)]
    refine wp_pick p1 (by omega) fun v s5 v0 v1 h5 => ?_
    simp only
    rw [w64_id (n := 1 + v) (by omega) (by omega)]
    refine wp_pick h5 (by omega) fun a s6 a0 a1 h6 => ?_
    simp only
    have ha := hst a.toNat (by omega)
    have hv := hst (1 + v).toNat (by omega)
    rw [at_getI a0 (by omega), Option.bind_some]
    refine wp_pick h6 (by omega) fun c s7 c0 c1 h7 => ?_
    simp only
    rw [at_getI (by omega) (by omega), Option.bind_some]
    refine wp_pick h7 (by omega) fun d s8 d0 d1 h8 => ?_
    simp only
    rw [w64_id (n := j - 1) (by omega) (by omega)]
    refine wp_app (by simp; omega) (wp_some ⟨⟨h8.mono (by simp; omega), by simp only; omega, by simp; omega, fun b hb => ?_⟩, by simp only; omega⟩)
    rcases List.mem_append.1 hb with hb | hb
    · exact p4 b hb
    · rw [List.mem_singleton.1 hb]
      exact ⟨by simp only; omega, by simp only; omega, by simp only; omega, by simp only; omega, by simp only; omega, by simp only; omega, by simp only; omega⟩
theorem A2Slide_ok {code : List Int} (hc : okL (okI .u8) code) (hl : code.length ≤ 1000000) : wp (spec_A2Slide code) (fun r => sok r.1 ∧ (r.2 = [] ∨ okP r.1 r.2 = true)) := by
  unfold spec_A2Slide
  refine wp_from hc hl fun s hs => ?_
  refine wp_seq (l13Draw_ok hs (by omega)) fun r hr => ?_
  obtain ⟨x, s0⟩ := r
  obtain ⟨h, h0⟩ := hr
  simp only at h h0 ⊢
  have n4 := h.n4
  refine wp_loop (fun t : GL00Src × Int => SrcOk (100 + 10 * t.2) t.1 ∧ 0 ≤ t.2 ∧ t.2 ≤ 6) (fun t => (6 - t.2).toNat) ⟨h0.mono (by simp), by simp, by simp⟩ (by simp only; omega) ?_
  rintro ⟨s1, y⟩ ⟨q1, q2, q3⟩
  simp only at q1 q2 q3 ⊢
  refine wp_ite (fun hy => ?_) (fun hy => wp_some (wp_some ⟨h, .inl rfl⟩))
  refine wp_loop (fun t : GL00Src × List Int × Int => SrcOk (100 + 10 * y + 2 * t.2.2) t.1 ∧ 0 ≤ t.2.2 ∧ t.2.2 = (t.2.1.length : Int) ∧ t.2.1.length ≤ x.Stops.length ∧ ∀ g, g < t.2.1.length → 0 ≤ t.2.1.getD g 0 ∧ t.2.1.getD g 0 < x.Stops.getD g 0) (fun t => (x.Stops.length - t.2.2).toNat)
    ⟨q1.mono (by simp), by simp, by simp, by simp, fun g hg => by simp at hg⟩ (by simp only; omega) ?_
  rintro ⟨s2, P, i⟩ ⟨p1, p2, p3, p4, p5⟩
  simp only at p1 p2 p3 p4 p5 ⊢
  refine wp_ite (fun hi => ?_) (fun hi => wp_some ?_)
  · have hst := h.st i.toNat (by omega)
    rw [at_getI p2 hi, Option.bind_some]
    refine wp_pick p1 (by omega) fun v s3 v0 v1 h3 => ?_
    simp only
    rw [w64_id (n := i + 1) (by omega) (by omega)]
    refine wp_app (by simp; omega) (wp_some ⟨⟨h3.mono (by simp only; omega), by simp only; omega, by simp; omega, by simp; omega, fun g hg => ?_⟩, by simp only; omega⟩)
    simp only [List.length_append, List.length_singleton] at hg ⊢
    rcases Nat.lt_or_ge g P.length with h5 | h5
    · rw [getD_old h5]; exact p5 g h5
    · obtain rfl : g = P.length := by omega
      rw [getD_last]
      rw [show i.toNat = P.length by omega] at hst v1
      omega
  · have hin : inR x P := ⟨by omega, fun g hg => p5 g (by omega)⟩
    simp only
    rw [l13May_eq h hin.1, Option.bind_some, w64_id (n := y + 1) (by omega) (by omega)]
    refine wp_ite (fun hm => wp_some (wp_some ⟨h, .inr (okP_iff.2 ⟨hin, hm⟩)⟩)) (fun hm => wp_some ⟨⟨p1.mono (by simp only; omega), by simp only; omega, by simp only; omega⟩, by simp only; omega⟩)
section
variable {x : GSlide} (h : sok x)
include h
end
end Go.Vs.G

namespace Go.Vs.G
open Go Go.Vs

/-- how many places are reached -/
def rl (x : GSlide) (F : List Int) : Nat := ((impl_Slide_reach x F).map (·.length)).getD 0
theorem rl_eq {x : GSlide} (h : sok x) {F : List Int} (hF : okP x F = true) : ∃ B, impl_Slide_reach x F = some (encB B) ∧ Rch x F B ∧ B.length = rl x F ∧ (encB B).length = rl x F := by
  obtain ⟨B, h1, h2⟩ := reach_eq h hF
  refine ⟨B, h1, h2, ?_, ?_⟩ <;> (unfold rl; rw [h1]; simp [encB])
/-- a slide with some of the bars -/
def sub (x y : GSlide) : Prop := y.Stops = x.Stops ∧ y.Bars.length ≤ 8 ∧ ∀ b, b ∈ y.Bars → b ∈ x.Bars
theorem sub.ok {x y : GSlide} (hs : sub x y) (h : sok x) : sok y := by
  obtain ⟨s1, s2, s3⟩ := hs
  refine ⟨by rw [s1]; exact h.n1, by rw [s1]; exact h.n4, by rw [s1]; exact h.st, s2, fun b hb => ?_⟩
  have := h.bs b (s3 b hb)
  unfold barOk at this ⊢
  rw [s1]; exact this
theorem sub.okP {x y : GSlide} (hs : sub x y) {P : List Int} (h : Go.Vs.G.okP x P = true) : Go.Vs.G.okP y P = true := by
  obtain ⟨s1, s2, s3⟩ := hs
  obtain ⟨h1, h2⟩ := okP_iff.1 h
  refine okP_iff.2 ⟨?_, ?_⟩
  · unfold inR at h1 ⊢
    rw [s1]; exact h1
  · unfold may at h2 ⊢
    rw [List.all_eq_true] at h2 ⊢
    exact fun b hb => h2 b (s3 b hb)
theorem sub.wk {x y : GSlide} (hs : sub x y) : ∀ {w P Q : List Int}, Go.Vs.G.wk x w P Q → Go.Vs.G.wk y w P Q
  | [], P, Q, h => h
  | v :: w, P, Q, h => by
    obtain ⟨k, k1, k2, k3, k4⟩ := h
    exact ⟨k, k1, by rw [hs.1]; exact k2, hs.okP k3, hs.wk k4⟩
theorem rl_mono {x y : GSlide} (h : sok x) (hs : sub x y) {F : List Int} (hF : okP x F = true) : rl x F ≤ rl y F := by
  obtain ⟨B, b1, b2, b3, b4⟩ := rl_eq h hF
  obtain ⟨C, c1, c2, c3, c4⟩ := rl_eq (hs.ok h) (hs.okP hF)
  rw [← b3, ← c3]
  have := nodup_le b2.nd (m := C.map (·.1)) fun P hP => by
    obtain ⟨b, hb, rfl⟩ := List.mem_map.1 hP
    obtain ⟨c, q1, q2, q3⟩ := c2.min (hs.wk (b2.ok b hb).2)
    exact List.mem_map.2 ⟨c, q1, q2⟩
  simpa using this
theorem rl_bd {x : GSlide} (h : sok x) {F : List Int} (hF : okP x F = true) : 1 ≤ rl x F ∧ (rl x F : Int) ≤ prod x.Stops ∧ 1 ≤ prod x.Stops ∧ prod x.Stops ≤ 256 := by
  obtain ⟨B, b1, b2, b3, b4⟩ := rl_eq h hF
  have := all_bd h (fun b hb => (b2.ok b hb).1) b2.nd
  have h1 := List.length_pos_of_mem b2.st
  rw [← b3]
  exact ⟨by omega, this⟩
section
variable {st : List Int}
theorem okF {P : List Int} (h : P.length = st.length ∧ ∀ g, g < st.length → 0 ≤ P.getD g 0 ∧ P.getD g 0 < st.getD g 0) : okP (GSlide.mk st []) P = true := okP_iff.2 ⟨h, by simp [may]⟩
theorem set_getD {P : List Int} {g : Nat} {v : Int} {k : Nat} (hg : g < P.length) : (P.set g v).getD k 0 = if k = g then v else P.getD k 0 := by
  rw [List.getD_eq_getElem?_getD, List.getElem?_set]
  by_cases h : g = k
  · subst h; rw [if_pos rfl, if_pos hg, if_pos rfl]; rfl
  · rw [if_neg h, if_neg (fun e => h e.symm), List.getD_eq_getElem?_getD]
theorem set_inR {P : List Int} (h : inR (GSlide.mk st []) P) {g : Nat} {v : Int} (hg : g < st.length) (hv : 0 ≤ v ∧ v < st.getD g 0) : inR (GSlide.mk st []) (P.set g v) := by
  have h1 : P.length = st.length := h.1
  refine ⟨by simpa using h.1, fun k hk => ?_⟩
  have h2 := h.2 k hk
  rw [set_getD (by omega)]
  by_cases hkg : k = g
  · subst hkg; rw [if_pos rfl]; exact hv
  · rw [if_neg hkg]; exact h2
/-- one glass goes anywhere if nothing is in its way -/
theorem one_glass {g : Nat} {v : Int} (hg : g < st.length) (hv : 0 ≤ v ∧ v < st.getD g 0) : ∀ (d : Nat) {P : List Int}, inR (GSlide.mk st []) P → (v - P.getD g 0).natAbs = d → ∃ w, wk (GSlide.mk st []) w P (P.set g v)
  | 0, P, h, hd => by
    have h1 : P.length = st.length := h.1
    have e : P.set g v = P := by
      have : v = P[g] := by
        have : P.getD g 0 = P[g] := by rw [List.getD_eq_getElem?_getD, List.getElem?_eq_getElem (by omega)]; rfl
        omega
      rw [this]; exact List.set_getElem_self _
    exact ⟨[], e.symm⟩
  | d + 1, P, h, hd => by
    have h1 : P.length = st.length := h.1
    have h2 := h.2 g hg
    have h3 : (GSlide.mk st []).Stops.getD g 0 = st.getD g 0 := rfl
    rw [h3] at h2
    by_cases hlt : P.getD g 0 < v
    · have e : mvp P (2 * g) = P.set g (P.getD g 0 + 1) := by
        unfold mvp
        rw [show 2 * g / 2 = g by omega, if_pos (by omega)]
      have hin := set_inR h (g := g) (v := P.getD g 0 + 1) hg (by omega)
      obtain ⟨w, hw⟩ := one_glass hg hv d hin (by rw [set_getD (by omega), if_pos rfl]; omega)
      rw [List.set_set] at hw
      refine ⟨((2 * g : Nat) : Int) :: w, 2 * g, rfl, ?_, ?_, ?_⟩
      · show 2 * g < 2 * st.length; omega
      · rw [e]; exact okF hin
      · rw [e]; exact hw
    · have e : mvp P (2 * g + 1) = P.set g (P.getD g 0 + -1) := by
        unfold mvp
        rw [show (2 * g + 1) / 2 = g by omega, if_neg (by omega)]
      have hin := set_inR h (g := g) (v := P.getD g 0 + -1) hg (by omega)
      obtain ⟨w, hw⟩ := one_glass hg hv d hin (by rw [set_getD (by omega), if_pos rfl]; omega)
      rw [List.set_set] at hw
      refine ⟨((2 * g + 1 : Nat) : Int) :: w, 2 * g + 1, rfl, ?_, ?_, ?_⟩
      · show 2 * g + 1 < 2 * st.length; omega
      · rw [e]; exact okF hin
      · rw [e]; exact hw
theorem mix_getD {P Q : List Int} {k g : Nat} (h : P.length = Q.length) (hk : k ≤ Q.length) : (Q.take k ++ P.drop k).getD g 0 = if g < k then Q.getD g 0 else P.getD g 0 := by
  rw [List.getD_eq_getElem?_getD, List.getElem?_append]
  have hl : (Q.take k).length = k := by simp; omega
  rw [hl]
  by_cases hg : g < k
  · rw [if_pos hg, if_pos hg, List.getElem?_take_of_lt hg, List.getD_eq_getElem?_getD]
  · rw [if_neg hg, if_neg hg, List.getElem?_drop, List.getD_eq_getElem?_getD, show k + (g - k) = g by omega]
theorem all_glasses {P Q : List Int} (hP : inR (GSlide.mk st []) P) (hQ : inR (GSlide.mk st []) Q) : ∀ k, k ≤ st.length → ∃ w, wk (GSlide.mk st []) w P (Q.take k ++ P.drop k)
  | 0, _ => ⟨[], by simp [wk]⟩
  | k + 1, hk => by
    have p1 : P.length = st.length := hP.1
    have q1 : Q.length = st.length := hQ.1
    obtain ⟨w, hw⟩ := all_glasses hP hQ k (by omega)
    have hin : inR (GSlide.mk st []) (Q.take k ++ P.drop k) := by
      refine ⟨?_, fun g hg => ?_⟩
      · show _ = st.length
        simp; omega
      · have := hP.2 g hg
        have := hQ.2 g hg
        rw [mix_getD (by omega) (by omega)]
        split <;> assumption
    have hq := hQ.2 k (show k < st.length by omega)
    obtain ⟨v, hv⟩ := one_glass (st := st) (g := k) (v := Q.getD k 0) (by omega) hq _ hin rfl
    have e : (Q.take k ++ P.drop k).set k (Q.getD k 0) = Q.take (k + 1) ++ P.drop (k + 1) := by
      have hl : (Q.take k).length = k := by simp; omega
      rw [List.set_append_right _ _ (by omega), hl, Nat.sub_self, List.drop_eq_getElem_cons (by omega), List.set_cons_zero, List.take_add_one, List.getElem?_eq_getElem (by omega), List.getD_eq_getElem?_getD, List.getElem?_eq_getElem (by omega), List.append_assoc]
      rfl
    rw [e] at hv
    exact ⟨w ++ v, wk_app hw hv⟩
theorem rl_free {F : List Int} (h : sok (GSlide.mk st [])) (hF : okP (GSlide.mk st []) F = true) : (rl (GSlide.mk st []) F : Int) = prod st := by
  obtain ⟨B, b1, b2, b3, b4⟩ := rl_eq h hF
  have hb := rl_bd h hF
  have h1 := nodup_le (allP_nodup st) (m := B.map (·.1)) fun Q hQ => by
    have hQ2 : inR (GSlide.mk st []) Q := allP_mem.1 hQ
    have hF2 := (okP_iff.1 hF).1
    obtain ⟨w, hw⟩ := all_glasses hF2 hQ2 st.length (by omega)
    have p1 : F.length = st.length := hF2.1
    have q1 : Q.length = st.length := hQ2.1
    rw [List.take_of_length_le (by omega), List.drop_eq_nil_of_le (by omega), List.append_nil] at hw
    obtain ⟨c, c1, c2, c3⟩ := b2.min hw
    exact List.mem_map.2 ⟨c, c1, c2⟩
  have h2 := allP_len (ss := st) fun s hs => by have := mem_st h (show s ∈ (GSlide.mk st []).Stops from hs); omega
  rw [List.length_map] at h1
  have h3 : prod (GSlide.mk st []).Stops = prod st := rfl
  omega
end
theorem code_one {x : GSlide} (h : sok x) {F : List Int} (hF : okP x F = true) : impl_slideCode x 0 [F] = some 0 := by
  have n1 := h.n1
  refine slideCode_eq h (m := 0) (by omega) (by simp) fun Q hQ => ?_
  rw [List.mem_singleton.1 hQ]; exact hF
theorem CountPlaces_eq {x : GSlide} (h : sok x) {F : List Int} (hF : okP x F = true) : impl_CountPlaces x F = some ((rl x F : Int), 0) := by
  have n1 := h.n1
  obtain ⟨B, b1, b2, b3, b4⟩ := rl_eq h hF
  have e0 : impl_slideCode x 0 [F] = some 0 := code_one h hF
  unfold impl_CountPlaces
  rw [e0, Option.bind_some, if_pos rfl, b1, Option.bind_some, b4]
theorem ConcatB {a b : List GBar} (h2 : a.length + b.length ≤ 1000) : slices_Concat_impl_Bar_impl_Bar_794 [a, b] = some (a ++ b) := by
  unfold slices_Concat_impl_Bar_impl_Bar_794
  refine eq_of_wp ?_
  refine wp_cnt (fun k => match k with | 0 => ((0 : Int), (0 : Int)) | 1 => ((a.length : Int), 1) | _ => ((a.length + b.length : Int), 2)) 2 rfl (by omega) (fun k hk => ?_) (b := (a.length + b.length : Int)) ?_ ?_
  · match k, hk with
    | 0, _ =>
      simp only [List.length_cons, List.length_nil]
      rw [if_pos (by decide), show at? [a, b] 0 = some a from rfl, Option.bind_some, w64_id (n := (0 : Int) + a.length) (by omega) (by omega), if_neg (by omega), Int.zero_add]; rfl
    | 1, _ =>
      simp only [List.length_cons, List.length_nil]
      rw [if_pos (by decide), show at? [a, b] 1 = some b from rfl, Option.bind_some, w64_id (n := (a.length : Int) + b.length) (by omega) (by omega), if_neg (by omega)]; rfl
  · rfl
  · have hg : slices_Grow_Bar (a.length + b.length : Int) = some [] := by unfold slices_Grow_Bar slices_GrowN; rw [if_pos (by omega)]
    rw [hg, Option.bind_some]
    refine wp_cnt (fun k => match k with | 0 => (([] : List GBar), (0 : Int)) | 1 => (a, 1) | _ => (a ++ b, 2)) 2 rfl (by omega) (fun k hk => ?_) (b := a ++ b) ?_ (wp_some rfl)
    · match k, hk with
      | 0, _ =>
        simp only [List.length_cons, List.length_nil]
        rw [if_pos (by decide), show at? [a, b] 0 = some a from rfl, Option.bind_some, app_ok (by simp; omega), Option.bind_some, List.nil_append]; rfl
      | 1, _ =>
        simp only [List.length_cons, List.length_nil]
        rw [if_pos (by decide), show at? [a, b] 1 = some b from rfl, Option.bind_some, app_ok (by omega), Option.bind_some]; rfl
    · rfl
/-- a slide without its bar i -/
def less (x : GSlide) (i : Nat) : GSlide := GSlide.mk x.Stops (x.Bars.take i ++ x.Bars.drop (i + 1))
theorem less_sub {x : GSlide} (h : sok x) (i : Nat) : sub x (less x i) := by
  have := h.b8
  refine ⟨rfl, ?_, fun b hb => ?_⟩
  · simp only [less, List.length_append, List.length_take, List.length_drop]; omega
  · rcases List.mem_append.1 hb with hb | hb
    · exact List.mem_of_mem_take hb
    · exact List.mem_of_mem_drop hb
theorem nobar_sub (x : GSlide) : sub x (GSlide.mk x.Stops []) := ⟨rfl, by simp, fun b hb => by simp at hb⟩
/-- the bars without which as many are reached -/
def usl (x : GSlide) (F : List Int) (m : Nat) : List Int := sl (fun i => decide (rl (less x i) F = rl x F)) m
theorem sl_mem {c : Nat → Bool} {v : Int} : ∀ {m : Nat}, v ∈ sl c m ↔ ∃ k : Nat, k < m ∧ c k = true ∧ v = (k : Int)
  | 0 => by simp [sl]
  | m + 1 => by
    have ih := sl_mem (c := c) (v := v) (m := m)
    rw [sl]
    split
    · rename_i hc
      rw [List.mem_append, ih, List.mem_singleton]
      constructor
      · rintro (⟨k, k1, k2, k3⟩ | hv)
        · exact ⟨k, by omega, k2, k3⟩
        · exact ⟨m, by omega, hc, hv⟩
      · rintro ⟨k, k1, k2, k3⟩
        rcases Nat.lt_or_ge k m with h | h
        · exact .inl ⟨k, h, k2, k3⟩
        · have : k = m := by omega
          subst this; exact .inr k3
    · rename_i hc
      rw [ih]
      constructor
      · rintro ⟨k, k1, k2, k3⟩; exact ⟨k, by omega, k2, k3⟩
      · rintro ⟨k, k1, k2, k3⟩
        rcases Nat.lt_or_ge k m with h | h
        · exact ⟨k, h, k2, k3⟩
        · have : k = m := by omega
          subst this; exact absurd k2 hc
theorem sl_pair {c : Nat → Bool} : ∀ {m : Nat}, (sl c m).Pairwise (· < ·)
  | 0 => by simp [sl]
  | m + 1 => by
    have ih := sl_pair (c := c) (m := m)
    rw [sl]
    split
    · refine List.pairwise_append.2 ⟨ih, by simp, fun a ha b hb => ?_⟩
      obtain ⟨k, k1, k2, rfl⟩ := sl_mem.1 ha
      rw [List.mem_singleton.1 hb]; omega
    · exact ih
theorem UselessBars_eq {x : GSlide} (h : sok x) {F : List Int} (hF : okP x F = true) : impl_UselessBars x F = some (usl x F x.Bars.length, 0) := by
  have n1 := h.n1; have b8 := h.b8
  obtain ⟨B, b1, b2, b3, b4⟩ := rl_eq h hF
  have e0 : impl_slideCode x 0 [F] = some 0 := code_one h hF
  refine eq_of_wp ?_
  unfold impl_UselessBars
  rw [e0, Option.bind_some, if_pos rfl, b1, Option.bind_some, b4]
  refine wp_cnt (fun m => (usl x F m, (m : Int))) x.Bars.length rfl (by omega) (fun m hm => ?_) (b := usl x F x.Bars.length) ?_ (wp_some rfl)
  · have hu : (usl x F m).length ≤ m := sl_len _ _
    obtain ⟨C, c1, c2, c3, c4⟩ := rl_eq ((less_sub h m).ok h) ((less_sub h m).okP hF)
    simp only
    rw [if_pos (by omega), sub_ok (by omega) (by omega) (by omega), Option.bind_some, w64_id (n := (m : Int) + 1) (by omega) (by omega), sub_ok (by omega) (by omega) (by omega), Option.bind_some]
    have ea : ((x.Bars.take ((m : Int)).toNat).drop (0 : Int).toNat) = x.Bars.take m := by simp
    have eb : ((x.Bars.take ((x.Bars.length : Int)).toNat).drop ((m : Int) + 1).toNat) = x.Bars.drop (m + 1) := by
      rw [Int.toNat_natCast, List.take_length, show ((m : Int) + 1).toNat = m + 1 by omega]
    have ec : (GSlide.mk x.Stops (x.Bars.take m ++ x.Bars.drop (m + 1))) = less x m := rfl
    rw [ea, eb, ConcatB (by simp; omega), Option.bind_some, ec, c1, Option.bind_some, c4]
    have eu : usl x F (m + 1) = if decide (rl (less x m) F = rl x F) = true then usl x F m ++ [(m : Int)] else usl x F m := rfl
    rw [eu]
    by_cases hq : rl (less x m) F = rl x F
    · rw [if_pos (by omega), app_ok (by simp; omega), Option.bind_some, decide_eq_true hq, if_pos rfl]; rfl
    · rw [if_neg (by omega), decide_eq_false hq, if_neg (by simp)]; rfl
  · simp only
    rw [if_neg (by omega)]
theorem prod_take {l : List Int} {k : Nat} (hk : k < l.length) : prod (l.take (k + 1)) = prod (l.take k) * l.getD k 0 := by
  induction l generalizing k with
  | nil => simp at hk
  | cons a l ih =>
    cases k with
    | zero => simp [prod]
    | succ k =>
      have := ih (k := k) (by simpa using hk)
      simp only [List.take_succ_cons, prod, List.getD_cons_succ] at this ⊢
      rw [this, Int.mul_assoc]
theorem laws_FnGlassBars_true {code : List Int} (hc : okL (okI .u8) code) : laws_FnGlassBars code = some true := by
  refine eq_of_wp ?_
  unfold laws_FnGlassBars
  obtain ⟨r, hr, hr2⟩ := a2Long_eq code []
  rw [hr, Option.bind_some]
  refine wp_ite (fun h => wp_some rfl) (fun hf => ?_)
  obtain ⟨l1, l2⟩ := hr2 (by simpa using hf)
  refine wp_seq (A2Slide_ok hc (by omega)) fun q hq => ?_
  obtain ⟨x, F⟩ := q
  obtain ⟨h, hF0⟩ := hq
  simp only at h hF0 ⊢
  refine wp_ite (fun h => wp_some rfl) (fun hne => ?_)
  have hF : okP x F = true := by
    rcases hF0 with rfl | hF
    · simp at hne
    · exact hF
  have n1 := h.n1; have n4 := h.n4; have b8 := h.b8
  have hbd := rl_bd h hF
  have hst := fun s hs => mem_st h (s := s) hs
  have hul : (usl x F x.Bars.length).length ≤ x.Bars.length := sl_len _ _
  rw [CountPlaces_eq h hF, Option.bind_some, UselessBars_eq h hF, Option.bind_some]
  refine wp_cnt (fun k => (prod (x.Stops.take k), (k : Int))) x.Stops.length (by simp [prod]) (by omega) (fun k hk => ?_) (b := prod x.Stops) ?_ ?_
  · simp only
    have hp := prod_bd (ss := x.Stops.take (k + 1)) (fun s hs => hst s (List.mem_of_mem_take hs)) (by simp; omega)
    rw [if_pos (by omega), at_getJ hk, Option.bind_some, ← prod_take hk, w64_id (by omega) (by omega), w64_id (by omega) (by omega)]
    rfl
  · simp only
    rw [if_neg (by omega), List.take_length]
  simp only [if_true]
  have hrise : laws_a2Rises (usl x F x.Bars.length) (x.Bars.length : Int) = some true := a2Rises_true _ _ (by omega) (fun v hv => by
    obtain ⟨m, m1, m2, rfl⟩ := sl_mem.1 hv
    omega) sl_pair
  rw [if_neg (by omega), if_neg (by omega), hrise]
  simp only [Option.bind_some, Bool.not_true, Bool.false_eq_true, if_false]
  refine wp_cnt (fun k => (k : Int)) x.Bars.length rfl (by omega) (fun m hm => ?_) (b := ()) ?_ ?_
  · have hs := less_sub h m
    have hmono := rl_mono h hs hF
    have hbl := rl_bd (hs.ok h) (hs.okP hF)
    have ea : ((x.Bars.take ((m : Int)).toNat).drop (0 : Int).toNat) = x.Bars.take m := by simp
    have eb : ((x.Bars.take ((x.Bars.length : Int)).toNat).drop ((m : Int) + 1).toNat) = x.Bars.drop (m + 1) := by
      rw [Int.toNat_natCast, List.take_length, show ((m : Int) + 1).toNat = m + 1 by omega]
    have ec : (GSlide.mk x.Stops (x.Bars.take m ++ x.Bars.drop (m + 1))) = less x m := rfl
    rw [if_pos (by omega), sub_ok (by omega) (by omega) (by omega), Option.bind_some, ea, app_ok (by simp; omega), Option.bind_some, w64_id (n := (m : Int) + 1) (by omega) (by omega), sub_ok (by omega) (by omega) (by omega), Option.bind_some, eb,
      List.nil_append, app_ok (by simp; omega), Option.bind_some, ec, CountPlaces_eq (hs.ok h) (hs.okP hF), Option.bind_some]
    simp only [if_true]
    rw [if_neg (by omega), a2Has_eq _ _ (by omega)]
    have e2 : decide ((rl (less x m) F : Int) = (rl x F : Int)) = decide ((m : Int) ∈ usl x F x.Bars.length) := by
      rw [decide_eq_decide]
      unfold usl
      rw [sl_mem]
      constructor
      · intro he; exact ⟨m, hm, decide_eq_true (by omega), rfl⟩
      · rintro ⟨k, k1, k2, k3⟩
        have : k = m := by omega
        subst this
        have := of_decide_eq_true k2
        omega
    rw [e2]
    simp
  · rw [if_neg (by omega)]
  · have hs := nobar_sub x
    have hfree := rl_free (hs.ok h) (hs.okP hF)
    rw [CountPlaces_eq (hs.ok h) (hs.okP hF), Option.bind_some]
    simp only [if_true]
    exact wp_some (decide_eq_true hfree)
end Go.Vs.G

