/- Plain facts about the typed functions, up to the law: no program in sight. No conditions. -/
import Derived.Test.YtidikckodadjoaaDoorV5
import Derived.Test.YtidikckodadjoaaDoorDLDrums
import Derived.Lib.ItoaNum
import Derived.Lib.ParseIntB
import Derived.Lib.Strings
namespace Go.Vs
open Go

section
variable {α β S B R : Type}

open Classical in
/-- a loop that looks at each round for a reason to stop -/
theorem scan {body : Int → Option (Step Int Unit R)} {kb : Unit → Option β} {kr : R → Option β} {s n : Nat} {c : Nat → Bool} {r : R} (hs : s ≤ n) (hn : n < 9223372036854775807)
    (hb : ∀ i : Nat, s ≤ i → i < n → body (i : Int) = some (if c i = true then .next ((i : Int) + 1) else .ret r)) (he : body (n : Int) = some (.brk ())) :
    onL (loop body loopLim (s : Int)) kb kr = if ∀ i, s ≤ i → i < n → c i = true then kb () else kr r := by
  by_cases h : ∀ i, s ≤ i → i < n → c i = true
  · rw [if_pos h]
    have := loop_brk (body := body) (fun j => ((s + j : Nat) : Int)) (b := ()) (n - s) (by omega) (fun j hj => by
      rw [hb (s + j) (by omega) (by omega), if_pos (h _ (by omega) (by omega))]; congr 2) (by rw [show s + (n - s) = n by omega]; exact he)
    simp only [Nat.add_zero] at this
    rw [this]; rfl
  · rw [if_neg h]
    have hex : ∃ k, s ≤ k ∧ k < n ∧ c k = false := by
      refine Classical.byContradiction fun hc => h fun i h1 h2 => ?_
      cases hci : c i with
      | true => rfl
      | false => exact absurd ⟨i, h1, h2, hci⟩ hc
    -- the first of them
    have hleast : ∃ k, (s ≤ k ∧ k < n ∧ c k = false) ∧ ∀ j, s ≤ j → j < k → c j = true := by
      obtain ⟨k, hk⟩ := hex
      induction k using Nat.strongRecOn with
      | _ k ih =>
        by_cases hall : ∀ j, s ≤ j → j < k → c j = true
        · exact ⟨k, hk, hall⟩
        · have : ∃ j, s ≤ j ∧ j < k ∧ c j = false := by
            refine Classical.byContradiction fun hc => hall fun i h1 h2 => ?_
            cases hci : c i with
            | true => rfl
            | false => exact absurd ⟨i, h1, h2, hci⟩ hc
          obtain ⟨j, h1, h2, h3⟩ := this
          exact ih j h2 ⟨h1, by omega, h3⟩
    obtain ⟨k, ⟨h1, h2, h3⟩, h4⟩ := hleast
    have := loop_ret' (body := body) (fun j => ((s + j : Nat) : Int)) (r := r) (k - s) (by omega) (fun j hj => by
      rw [hb (s + j) (by omega) (by omega), if_pos (h4 _ (by omega) (by omega))]; congr 2) (by
      rw [show s + (k - s) = k by omega, hb k h1 h2, h3]; rfl)
    simp only [Nat.add_zero] at this
    rw [this]; rfl
theorem at_of {l : List α} {i : Nat} (h : i < l.length) : at? l (i : Int) = some l[i] := at_nat h
/-- comparisons element by element -/
theorem eqS {f : α → α → Option Bool} {c : α → α → Bool} (a b : List α) (hf : ∀ x, x ∈ a → ∀ y, y ∈ b → f x y = some (c x y)) (ha : a.length < 9223372036854775807) :
    (if (a.length : Int) = (b.length : Int) then (onL (loop (S := Int) (B := Unit) (R := Bool) (fun (i1 : Int) => if i1 < (a.length : Int) then
      ((at? a i1).bind fun v1 => (at? b i1).bind fun v2 => (f v1 v2).bind fun r1 => if r1 then (some (.next (w64 (i1 + 1)))) else some (.ret false)) else some (.brk ())) loopLim 0) (fun (_ : Unit) => some true) (fun r => some r)) else some false)
      = some (decide (a.length = b.length) && (List.zipWith c a b).all id) := by
  by_cases hl : a.length = b.length
  · rw [if_pos (by omega)]
    have := scan (body := fun (i1 : Int) => if i1 < (a.length : Int) then
      ((at? a i1).bind fun v1 => (at? b i1).bind fun v2 => (f v1 v2).bind fun r1 => if r1 then (some (.next (w64 (i1 + 1)))) else some (.ret false)) else some (.brk ()))
      (kb := fun (_ : Unit) => some true) (kr := fun r => some r) (s := 0) (n := a.length) (c := fun i => if h : i < a.length ∧ i < b.length then c a[i] b[i] else true) (r := false) (by omega) ha ?_ (by simp)
    · simp only [Int.natCast_zero] at this
      refine this.trans ?_
      split
      · rename_i h
        congr 1
        symm
        simp only [Bool.and_eq_true, decide_eq_true_eq, hl, true_and, List.all_eq_true, id]
        intro x hx
        obtain ⟨i, hi, rfl⟩ := List.getElem_of_mem hx
        simp only [List.length_zipWith] at hi
        have := h i (by omega) (by omega)
        simpa [show i < a.length ∧ i < b.length by omega] using this
      · rename_i h
        congr 1
        symm
        simp only [Bool.and_eq_false_iff]
        right
        refine Classical.byContradiction fun hc => h fun i _ hi => ?_
        have hall : (List.zipWith c a b).all id = true := by simpa using hc
        rw [List.all_eq_true] at hall
        have hi2 : i < a.length ∧ i < b.length := ⟨hi, by omega⟩
        have := hall (c a[i] b[i]) (by
          rw [List.mem_iff_getElem]
          exact ⟨i, by simp; omega, by simp⟩)
        simpa [hi2] using this
    · intro i _ hi
      have hib : i < b.length := by omega
      have h1 : (i : Int) < (a.length : Int) := by omega
      simp only [h1, if_true, at_of hi, at_of hib, Option.bind_some, hf _ (List.getElem_mem hi) _ (List.getElem_mem hib), hi, hib, and_self, dite_true]
      split
      · rw [w64_id (by omega) (by omega)]
      · rfl
  · rw [if_neg (by omega)]
    simp [hl]
theorem zip_eq [DecidableEq α] {c : α → α → Bool} (hc : ∀ x y, c x y = decide (x = y)) : ∀ (a b : List α), (decide (a.length = b.length) && (List.zipWith c a b).all id) = decide (a = b)
  | [], [] => by simp
  | [], _ :: _ => by simp
  | _ :: _, [] => by simp
  | x :: a, y :: b => by
    have ih := zip_eq hc a b
    simp only [List.length_cons, Nat.add_right_cancel_iff, List.zipWith_cons_cons, List.all_cons, id, List.cons.injEq, hc] at ih ⊢
    by_cases hxy : x = y
    · simp [hxy, ih]
    · simp [hxy]
end
/-- the same with a proposition for a test -/
theorem eqSp {α : Type} [DecidableEq α] (a b : List α) (ha : a.length < 9223372036854775807) :
    (if (a.length : Int) = (b.length : Int) then (onL (loop (S := Int) (B := Unit) (R := Bool) (fun (i1 : Int) => if i1 < (a.length : Int) then
      ((at? a i1).bind fun v1 => (at? b i1).bind fun v2 => if v1 = v2 then (some (.next (w64 (i1 + 1)))) else some (.ret false)) else some (.brk ())) loopLim 0) (fun (_ : Unit) => some true) (fun r => some r)) else some false)
      = some (decide (a = b)) := by
  rw [← zip_eq (c := fun x y => decide (x = y)) (fun _ _ => rfl), ← eqS (f := fun x y => some (decide (x = y))) (c := fun x y => decide (x = y)) a b (fun _ _ _ _ => rfl) ha]
  congr 3
  funext i
  split
  · congr 1; funext v1; congr 1; funext v2
    simp only [Option.bind_some, decide_eq_true_eq]
  · rfl
end Go.Vs

namespace Go.Vs.G
open Go Go.Vs

/-- a source that can still be asked; B bounds the place that it has come to -/
structure SrcOk (B : Int) (s : GL00Src) : Prop where
  bytes : ∀ x, x ∈ s.code → 0 ≤ x ∧ x ≤ 255
  len : s.code.length ≤ 1000000
  at0 : 0 ≤ s.at_
  atB : s.at_ ≤ B
theorem SrcOk.mono {B B' : Int} {s : GL00Src} (h : SrcOk B s) (hB : B ≤ B') : SrcOk B' s := ⟨h.bytes, h.len, h.at0, Int.le_trans h.atB hB⟩
theorem l00From_eq (code : List Int) : spec_l00From code = some (GL00Src.mk code 0 0) := rfl
theorem srcOk_from {code : List Int} (h : okL (okI .u8) code) (hl : code.length ≤ 1000000) : SrcOk 0 (GL00Src.mk code 0 0) :=
  ⟨fun x hx => okU8 (h.2 x hx), hl, by simp, by simp⟩
theorem shr40 (n : Int) : shr? .u64 n 40 = some (n.fdiv (2 ^ 40)) := by
  simp [shr?, IntKind.bits]
theorem and255 (n : Int) : 0 ≤ bit_and .u64 n 255 ∧ bit_and .u64 n 255 ≤ 255 := by
  unfold bit_and
  rw [wu64_def]
  have h : (BitVec.ofInt IntKind.u64.bits n &&& BitVec.ofInt IntKind.u64.bits 255).toNat ≤ 255 := by
    rw [BitVec.toNat_and]
    exact Nat.le_trans Nat.and_le_right (by decide)
  omega
theorem next_ok {B : Int} {s : GL00Src} (h : SrcOk B s) (hB : B ≤ 4611686018427387904) : ∃ v s', spec_l00Src_next s = some (v, s') ∧ 0 ≤ v ∧ v ≤ 255 ∧ SrcOk (B + 1) s' := by
  have h1 := h.at0
  have h2 := h.atB
  have h3 := h.len
  have hat : w64 (s.at_ + 1) = s.at_ + 1 := w64_id (by omega) (by omega)
  have hb : ∃ b, (if s.at_ < (s.code.length : Int) then ((at? s.code s.at_).bind fun v1 => some (w64 v1)) else some 0) = some b ∧ 0 ≤ b ∧ b ≤ 255 := by
    split
    · rename_i hlt
      rw [at_ok h1 (by omega), Option.bind_some]
      obtain ⟨g1, g2⟩ := h.bytes s.code[s.at_.toNat] (List.getElem_mem (by omega))
      exact ⟨_, rfl, by rw [w64_id (by omega) (by omega)]; omega, by rw [w64_id (by omega) (by omega)]; omega⟩
    · exact ⟨0, rfl, by omega, by omega⟩
  obtain ⟨b, hb, b0, b1⟩ := hb
  unfold spec_l00Src_next
  rw [hb, Option.bind_some, hat]
  split
  · exact ⟨_, _, rfl, b0, b1, ⟨h.bytes, h.len, by simp only; omega, by simp only; omega⟩⟩
  · rw [shr40, Option.bind_some]
    have := and255 ((IntKind.wrap .u64 ((IntKind.wrap .u64 ((IntKind.wrap .u64 (s.seed * 6364136223846793005)) + (IntKind.wrap .u64 b))) + 1442695040888963407)).fdiv (2 ^ 40))
    exact ⟨_, _, rfl, by rw [w64_id (by omega) (by omega)]; omega, by rw [w64_id (by omega) (by omega)]; omega, ⟨h.bytes, h.len, by simp only; omega, by simp only; omega⟩⟩
theorem pick_ok {B : Int} {s : GL00Src} (h : SrcOk B s) (hB : B ≤ 4611686018427387000) (n : Int) : ∃ v s', spec_l00Src_pick s n = some (v, s') ∧ 0 ≤ v ∧ (v = 0 ∨ v < n) ∧ SrcOk (B + 2) s' := by
  unfold spec_l00Src_pick
  by_cases hn : n ≤ 1
  · rw [if_pos hn]; exact ⟨0, s, rfl, by omega, .inl rfl, h.mono (by omega)⟩
  · rw [if_neg hn]
    obtain ⟨v, s1, e1, v0, v1, k1⟩ := next_ok h (by omega)
    rw [e1, Option.bind_some]
    by_cases h2 : n > 200
    · rw [if_pos h2]
      obtain ⟨u, s2, e2, u0, u1, k2⟩ := next_ok k1 (by omega)
      simp only
      rw [e2, Option.bind_some, mod_ok (by omega), Option.bind_some, w64_id (n := v * 256) (by omega) (by omega), w64_id (by simp only; omega) (by simp only; omega)]
      have e : (v * 256 + u).tmod n = (v * 256 + u) % n := Int.tmod_eq_emod_of_nonneg (by omega)
      refine ⟨_, _, rfl, ?_, ?_, by rw [show B + 2 = B + 1 + 1 by omega]; exact k2⟩
      · simp only [e]; exact Int.emod_nonneg _ (by omega)
      · simp only [e]; right; exact Int.emod_lt_of_pos _ (by omega)
    · rw [if_neg h2, mod_ok (by omega), Option.bind_some]
      simp only
      have e : v.tmod n = v % n := Int.tmod_eq_emod_of_nonneg (by omega)
      refine ⟨_, _, rfl, ?_, ?_, k1.mono (by omega)⟩
      · rw [e]; exact Int.emod_nonneg _ (by omega)
      · rw [e]; right; exact Int.emod_lt_of_pos _ (by omega)
/-- one of some numbers -/
theorem among_ok {B : Int} {s : GL00Src} (h : SrcOk B s) (hB : B ≤ 4611686018427387000) {l : List Int} (hl : 1 ≤ l.length) (hl2 : l.length ≤ 1000) : ∃ v s', spec_l00Src_among s l = some (v, s') ∧ v ∈ l ∧ SrcOk (B + 2) s' := by
  unfold spec_l00Src_among
  obtain ⟨v, s1, e1, v0, v1, k1⟩ := pick_ok h hB (l.length : Int)
  rw [e1, Option.bind_some]
  simp only
  rw [at_ok v0 (by omega), Option.bind_some]
  exact ⟨_, _, rfl, List.getElem_mem _, k1⟩
end Go.Vs.G

namespace Go.Vs.G
open Go Go.Vs

theorem l00In_eqB (n a b : Int) : spec_l00In n a b = some (decide (a ≤ n ∧ n ≤ b)) := by
  unfold spec_l00In; split <;> simp <;> omega
end Go.Vs.G

namespace Go.Vs.G
open Go Go.Vs

/-- f is n / d in lowest terms -/
structure Red (n d : Int) (f : GFraction) : Prop where
  pos : 0 < f.Den
  cop : Int.gcd f.Num f.Den = 1
  eq : f.Num * d = n * f.Den
theorem dvd_of_cop {a b c : Int} (h : Int.gcd a b = 1) (hd : b ∣ a * c) : b ∣ c := by
  rw [← Int.natAbs_dvd_natAbs] at hd ⊢
  rw [Int.natAbs_mul] at hd
  have : Nat.Coprime b.natAbs a.natAbs := by rw [Nat.coprime_comm]; exact h
  exact this.dvd_of_dvd_mul_left hd
theorem Red.unique {f g : GFraction} (hf : 0 < f.Den) (hg : 0 < g.Den) (cf : Int.gcd f.Num f.Den = 1) (cg : Int.gcd g.Num g.Den = 1) (h : f.Num * g.Den = g.Num * f.Den) : f = g := by
  have h1 : f.Den ∣ g.Den := dvd_of_cop cf ⟨g.Num, by rw [h, Int.mul_comm]⟩
  have h2 : g.Den ∣ f.Den := dvd_of_cop cg ⟨f.Num, by rw [← h, Int.mul_comm]⟩
  have hd : f.Den = g.Den := Int.le_antisymm (Int.le_of_dvd hg h1) (Int.le_of_dvd hf h2)
  have hn : f.Num = g.Num := by
    rw [hd] at h
    exact Int.eq_of_mul_eq_mul_right (by omega) h
  cases f; cases g
  simp_all
end Go.Vs.G

namespace Go.Vs.G
open Go Go.Vs

theorem mul_bd {a b A B : Int} (h1 : -A ≤ a) (h2 : a ≤ A) (h3 : -B ≤ b) (h4 : b ≤ B) : -(A * B) ≤ a * b ∧ a * b ≤ A * B := by
  have ha : a.natAbs ≤ A.natAbs := by omega
  have hb : b.natAbs ≤ B.natAbs := by omega
  have := Nat.mul_le_mul ha hb
  rw [← Int.natAbs_mul, ← Int.natAbs_mul] at this
  have h5 : 0 ≤ A * B := Int.mul_nonneg (by omega) (by omega)
  omega
theorem within_eqR (n a b : Int) : impl_within n a b = some (decide (a ≤ n ∧ n ≤ b)) := by
  unfold impl_within; split <;> simp <;> omega
end Go.Vs.G

namespace Go.Vs.G
open Go Go.Vs

theorem Red.same {n d : Int} {f g : GFraction} (hf : Red n d f) (hg : Red n d g) (hd : d ≠ 0) : f = g := by
  refine Red.unique hf.pos hg.pos hf.cop hg.cop ?_
  have e1 := hf.eq
  have e2 := hg.eq
  refine Int.eq_of_mul_eq_mul_left (a := d) hd ?_
  calc d * (f.Num * g.Den) = (f.Num * d) * g.Den := by simp only [Int.mul_assoc, Int.mul_comm, Int.mul_left_comm]
    _ = (g.Num * d) * f.Den := by rw [e1, e2]; simp only [Int.mul_assoc, Int.mul_comm, Int.mul_left_comm]
    _ = d * (g.Num * f.Den) := by simp only [Int.mul_assoc, Int.mul_comm, Int.mul_left_comm]
/- counting -/
/- the same on both sides -/
/- draws -/
theorem one_ok {B : Int} {s : GL00Src} (h : SrcOk B s) (hB : B ≤ 4611686018427387000) (n : Int) : ∃ v s', spec_l00Src_one s n = some (v, s') ∧ SrcOk (B + 2) s' := by
  unfold spec_l00Src_one
  obtain ⟨v, s1, e1, _, _, k1⟩ := pick_ok h hB n
  rw [e1]; exact ⟨_, _, rfl, k1⟩
end Go.Vs.G

namespace Go.Vs.G
open Go Go.Vs

def drumOk (d : GDrum) : Prop := (100 ≤ d.Round ∧ d.Round ≤ 10000) ∧ (20 ≤ d.High ∧ d.High ≤ 1000) ∧ 1 ≤ d.Slits ∧ d.Slits ≤ 48
instance (d : GDrum) : Decidable (drumOk d) := by unfold drumOk; exact inferInstance
theorem ValidDrum_eq (d : GDrum) : impl_ValidDrum d = some (decide (drumOk d)) := by
  unfold impl_ValidDrum
  simp only [within_eqR, Option.bind_some]
  by_cases h1 : 100 ≤ d.Round ∧ d.Round ≤ 10000
  · by_cases h2 : 20 ≤ d.High ∧ d.High ≤ 1000
    · by_cases h3 : 1 ≤ d.Slits ∧ d.Slits ≤ 48
      · rw [decide_eq_true h1, decide_eq_true h2, decide_eq_true h3, decide_eq_true (show drumOk d from ⟨h1, h2, h3⟩)]; rfl
      · rw [decide_eq_true h1, decide_eq_true h2, decide_eq_false h3, decide_eq_false (show ¬ drumOk d from fun h => h3 h.2.2)]; rfl
    · rw [decide_eq_true h1, decide_eq_false h2, decide_eq_false (show ¬ drumOk d from fun h => h2 h.2.1)]; rfl
  · rw [decide_eq_false h1, decide_eq_false (show ¬ drumOk d from fun h => h1 h.1)]; rfl
theorem l07Ok_eq (d : GDrum) : spec_l07Ok d = some (decide (drumOk d)) := by
  unfold spec_l07Ok
  simp only [l00In_eqB, Option.bind_some]
  by_cases h1 : 100 ≤ d.Round ∧ d.Round ≤ 10000
  · by_cases h2 : 20 ≤ d.High ∧ d.High ≤ 1000
    · by_cases h3 : 1 ≤ d.Slits ∧ d.Slits ≤ 48
      · rw [decide_eq_true h1, decide_eq_true h2, decide_eq_true h3, decide_eq_true (show drumOk d from ⟨h1, h2, h3⟩)]; rfl
      · rw [decide_eq_true h1, decide_eq_true h2, decide_eq_false h3, decide_eq_false (show ¬ drumOk d from fun h => h3 h.2.2)]; rfl
    · rw [decide_eq_true h1, decide_eq_false h2, decide_eq_false (show ¬ drumOk d from fun h => h2 h.2.1)]; rfl
  · rw [decide_eq_false h1, decide_eq_false (show ¬ drumOk d from fun h => h1 h.1)]; rfl
theorem l03Many_eq (n : Int) : spec_l03Many n = some (decide (1 ≤ n ∧ n ≤ 48)) := by
  unfold spec_l03Many; rw [l00In_eqB]; rfl
/- draws -/
theorem l07Bent_ok {B : Int} {s : GL00Src} (h : SrcOk B s) (hB : B ≤ 4611686018427360000) : ∃ d s', spec_l07Bent s = some (d, s') ∧ SrcOk (B + 10) s' := by
  unfold spec_l07Bent spec_l07New
  obtain ⟨a, s1, e1, _, _, k1⟩ := pick_ok h (by omega) 90
  rw [e1, Option.bind_some]
  simp only
  obtain ⟨b, s2, e2, _, _, k2⟩ := pick_ok k1 (by omega) 20
  rw [e2, Option.bind_some]
  simp only
  obtain ⟨c, s3, e3, _, _, k3⟩ := pick_ok k2 (by omega) 16
  rw [e3, Option.bind_some, Option.bind_some]
  simp only
  obtain ⟨x, s4, e4, _, _, k4⟩ := pick_ok k3 (by omega) 24
  rw [e4, Option.bind_some]
  simp only
  split
  · obtain ⟨z, s5, e5, _, k5⟩ := among_ok k4 (by omega) (l := [(-1), 99, 100, 10000, 10001, (-9223372036854775808)]) (by simp) (by simp)
    rw [e5]; exact ⟨_, _, rfl, k5.mono (by omega)⟩
  · split
    · obtain ⟨z, s5, e5, _, k5⟩ := among_ok k4 (by omega) (l := [(-1), 19, 20, 1000, 1001]) (by simp) (by simp)
      rw [e5]; exact ⟨_, _, rfl, k5.mono (by omega)⟩
    · split
      · obtain ⟨z, s5, e5, _, k5⟩ := among_ok k4 (by omega) (l := [(-1), 0, 1, 48, 49]) (by simp) (by simp)
        rw [e5]; exact ⟨_, _, rfl, k5.mono (by omega)⟩
      · exact ⟨_, _, rfl, k4.mono (by omega)⟩
theorem l07DrawGlue_ok {B : Int} {s : GL00Src} (h : SrcOk B s) (hB : B ≤ 4611686018427360000) : ∃ d s', spec_l07DrawGlue s = some (d, s') ∧ SrcOk (B + 4) s' := by
  unfold spec_l07DrawGlue
  obtain ⟨v, s1, e1, k1⟩ := one_ok h (by omega) 10
  rw [e1, Option.bind_some]
  simp only
  split
  · obtain ⟨z, s5, e5, _, k5⟩ := among_ok k1 (by omega) (l := [(-1), 0, 100, 101]) (by simp) (by simp)
    rw [e5]; exact ⟨_, _, rfl, k5.mono (by omega)⟩
  · obtain ⟨z, s5, e5, _, _, k5⟩ := pick_ok k1 (by omega) 30
    rw [e5]; exact ⟨_, _, rfl, k5.mono (by omega)⟩
end Go.Vs.G

namespace Go.Vs
open Go

section
variable {α β γ R : Type}

/-- a loop whose state at each round is told -/
theorem wp_cnt {S B : Type} {Q : γ → Prop} {body : S → Option (Step S B R)} {kb : B → Option γ} {kr : R → Option γ} {s0 : S} (st : Nat → S) (n : Nat) (h0 : s0 = st 0) (hn : n < 18446744073709551616)
    (hs : ∀ k, k < n → body (st k) = some (.next (st (k + 1)))) {b : B} (he : body (st n) = some (.brk b)) (hq : wp (kb b) Q) : wp (onL (loop body loopLim s0) kb kr) Q := by
  rw [h0, loop_brk st n hn hs he]; exact hq
end
end Go.Vs

namespace Go.Vs
theorem wp_seq {α β : Type} {A : Option β} {k : β → Option α} {P : β → Prop} {Q : α → Prop} (h : wp A P) (hk : ∀ x, P x → wp (k x) Q) : wp (A.bind k) Q := by
  obtain ⟨x, rfl, hx⟩ := h; exact hk x hx
end Go.Vs
namespace Go.Vs.G
open Go Go.Vs

section
variable {α : Type} {Q : α → Prop} {B : Int} {s : GL00Src}
theorem wp_pick {n : Int} {k : Int × GL00Src → Option α} (h : SrcOk B s) (hB : B ≤ 4611686018427387000) (hk : ∀ v s', 0 ≤ v → (v = 0 ∨ v < n) → SrcOk (B + 2) s' → wp (k (v, s')) Q) : wp ((spec_l00Src_pick s n).bind k) Q := by
  obtain ⟨v, s', e, h0, h1, h2⟩ := pick_ok h hB n
  rw [e]; exact hk v s' h0 h1 h2
theorem wp_one {n : Int} {k : Bool × GL00Src → Option α} (h : SrcOk B s) (hB : B ≤ 4611686018427387000) (hk : ∀ v s', SrcOk (B + 2) s' → wp (k (v, s')) Q) : wp ((spec_l00Src_one s n).bind k) Q := by
  obtain ⟨v, s', e, h2⟩ := one_ok h hB n
  rw [e]; exact hk v s' h2
theorem wp_among {l : List Int} {k : Int × GL00Src → Option α} (h : SrcOk B s) (hB : B ≤ 4611686018427387000) (hl : 1 ≤ l.length) (hl2 : l.length ≤ 1000) (hk : ∀ v s', v ∈ l → SrcOk (B + 2) s' → wp (k (v, s')) Q) : wp ((spec_l00Src_among s l).bind k) Q := by
  obtain ⟨v, s', e, h1, h2⟩ := among_ok h hB hl hl2
  rw [e]; exact hk v s' h1 h2
theorem wp_from {code : List Int} {k : GL00Src → Option α} (h : okL (okI .u8) code) (hl : code.length ≤ 1000000) (hk : ∀ s, SrcOk 0 s → wp (k s) Q) : wp ((spec_l00From code).bind k) Q := hk _ (srcOk_from h hl)
theorem wp_bif {b : Bool} {A A' : Option α} (h1 : b = true → wp A Q) (h2 : b = false → wp A' Q) : wp (if b = true then A else A') Q := by
  cases b
  · exact h2 rfl
  · exact h1 rfl
end
end Go.Vs.G

namespace Go.Vs.G
open Go Go.Vs

theorem ilt (a b : Int) : a < b ∨ b ≤ a := by omega
def dig (c : UInt8) : Prop := 48 ≤ c.toNat ∧ c.toNat ≤ 57
theorem ofNat_dig {d : Nat} (h : d < 10) : (UInt8.ofNat (48 + d)).toNat = 48 + d := by simp; omega
theorem dd_small {u : Nat} (h : u < 10) : Lib.decDigits u = [UInt8.ofNat (48 + u)] := by rw [Lib.decDigits, dif_pos h]
theorem dd_big {u : Nat} (h : ¬ u < 10) : Lib.decDigits u = Lib.decDigits (u / 10) ++ [UInt8.ofNat (48 + u % 10)] := by rw [Lib.decDigits, dif_neg h]
theorem dd_dig (u : Nat) : ∀ c, c ∈ Lib.decDigits u → dig c := by
  induction u using Nat.strongRecOn with
  | _ u ih =>
    intro c hc
    by_cases h : u < 10
    · rw [dd_small h, List.mem_singleton] at hc
      subst hc
      unfold dig; rw [ofNat_dig h]; omega
    · rw [dd_big h, List.mem_append, List.mem_singleton] at hc
      rcases hc with hc | hc
      · exact ih (u / 10) (by omega) c hc
      · subst hc
        unfold dig; rw [ofNat_dig (Nat.mod_lt _ (by omega))]
        have := Nat.mod_lt u (y := 10) (by omega); omega
theorem dd_len (u : Nat) : (Lib.decDigits u).length = Lib.nDigits u := Lib.decDigits_length u
theorem dd_ne (u : Nat) : Lib.decDigits u ≠ [] := by
  intro h; have := dd_len u; rw [h] at this; have := Lib.nDigits_pos u; simp at *; omega
theorem nd_le : ∀ (k u : Nat), 1 ≤ k → u < 10 ^ k → Lib.nDigits u ≤ k
  | 0, u, h, _ => by omega
  | k + 1, u, _, h => by
    by_cases h1 : u < 10
    · rw [Lib.nDigits_small h1]; omega
    · rw [Lib.nDigits_big h1]
      cases k with
      | zero => simp at h; omega
      | succ k =>
        have := nd_le (k + 1) (u / 10) (by omega) (by rw [Nat.pow_succ] at h; omega)
        omega
theorem nd_lt {k u : Nat} (h : Lib.nDigits u ≤ k) : u < 10 ^ k :=
  Nat.lt_of_lt_of_le (Lib.lt_pow_nDigits u) (Nat.pow_le_pow_right (by omega) h)
/-- what digits say -/
def dval (acc : Nat) (l : List UInt8) : Nat := l.foldl (fun a c => a * 10 + (c.toNat - 48)) acc
theorem dval_nil (acc : Nat) : dval acc [] = acc := rfl
theorem dval_cons (acc : Nat) (c : UInt8) (r : List UInt8) : dval acc (c :: r) = dval (acc * 10 + (c.toNat - 48)) r := by unfold dval; rw [List.foldl_cons]
theorem dval_append (l m : List UInt8) (acc : Nat) : dval acc (l ++ m) = dval (dval acc l) m := by unfold dval; rw [List.foldl_append]
theorem dval_dd (u : Nat) : dval 0 (Lib.decDigits u) = u := by
  induction u using Nat.strongRecOn with
  | _ u ih =>
    by_cases h : u < 10
    · rw [dd_small h, dval_cons, dval_nil, ofNat_dig h]; omega
    · have h1 := ih (u / 10) (by omega)
      have h2 : (UInt8.ofNat (48 + u % 10)).toNat = 48 + u % 10 := ofNat_dig (Nat.mod_lt _ (by omega))
      rw [dd_big h, dval_append, h1, dval_cons, dval_nil, h2]; omega
theorem dval_ge : ∀ (l : List UInt8) (acc : Nat), acc ≤ dval acc l
  | [], acc => Nat.le_refl _
  | c :: r, acc => by rw [dval_cons]; have := dval_ge r (acc * 10 + (c.toNat - 48)); omega
theorem parseUintM_val {M : Nat} (hM : M < 18446744073709551616) : ∀ (l : List UInt8) (acc : Nat), (∀ c, c ∈ l → dig c) → dval acc l ≤ M → Lib.parseUintM M acc l = .ok (dval acc l)
  | [], acc, _, _ => rfl
  | c :: r, acc, h, hv => by
    have hc := h c (by simp)
    rw [dval_cons] at hv ⊢
    have hg := dval_ge r (acc * 10 + (c.toNat - 48))
    unfold dig at hc
    rw [Lib.parseUintM, if_pos hc, if_neg (by omega), if_neg (by omega)]
    exact parseUintM_val hM r _ (fun x hx => h x (by simp [hx])) hv
theorem parseUint_dd {u : Nat} (h : u < 18446744073709551616) : Lib.parseUintB 64 (Lib.decDigits u) = .ok u := by
  unfold Lib.parseUintB
  have h64 : (2 : Nat) ^ 64 - 1 = 18446744073709551615 := by decide
  rw [if_neg (dd_ne u), h64, parseUintM_val (M := 18446744073709551615) (by omega) _ _ (dd_dig u) (by rw [dval_dd]; omega), dval_dd]
/-- a number's text -/
abbrev txt (n : Int) : List UInt8 := Lib.itoa n
theorem txt_neg {n : Int} (h : n < 0) : txt n = 45 :: Lib.decDigits n.natAbs := by simp [txt, Lib.itoa, h]
theorem txt_pos {n : Int} (h : 0 ≤ n) : txt n = Lib.decDigits n.toNat := by simp [txt, Lib.itoa]; omega
theorem parse_txt {n : Int} (h0 : -9223372036854775808 ≤ n) (h1 : n ≤ 9223372036854775807) : Lib.parseIntB 64 (txt n) = .ok n := by
  rcases ilt n 0 with h | h
  · rw [txt_neg h]
    have h45 : (45 : UInt8).toNat = 45 := rfl
    simp only [Lib.parseIntB, h45, or_true, if_true, true_and, not_true, false_and, if_false]
    rw [parseUint_dd (by omega)]
    simp only
    rw [if_neg (by omega)]
    congr 1; omega
  · rw [txt_pos h]
    obtain ⟨c, r, hcr⟩ : ∃ c r, Lib.decDigits n.toNat = c :: r := by
      cases hd : Lib.decDigits n.toNat with
      | nil => exact absurd hd (dd_ne _)
      | cons c r => exact ⟨c, r, rfl⟩
    have hc : dig c := dd_dig n.toNat c (by rw [hcr]; simp)
    have hp := parseUint_dd (u := n.toNat) (by omega)
    rw [hcr] at hp ⊢
    unfold dig at hc
    simp only [Lib.parseIntB]
    have e1 : ¬ c.toNat = 43 := by omega
    have e2 : ¬ c.toNat = 45 := by omega
    simp only [e1, e2, or_self, if_false, hp, false_and, not_false_eq_true, true_and]
    have h63 : (2 : Nat) ^ (64 - 1) = 9223372036854775808 := by decide
    rw [h63, if_neg (by omega)]
    congr 1; omega
theorem txt_inj {n m : Int} (h0 : -9223372036854775808 ≤ n) (h1 : n ≤ 9223372036854775807) (h2 : -9223372036854775808 ≤ m) (h3 : m ≤ 9223372036854775807) (h : txt n = txt m) : n = m := by
  have := parse_txt h0 h1
  rw [h, parse_txt h2 h3] at this
  cases this; rfl
theorem txt_len {n : Int} (h0 : -1000000000000000000 < n) (h1 : n < 1000000000000000000) : (txt n).length ≤ 19 := by
  rcases ilt n 0 with h | h
  · rw [txt_neg h]; simp only [List.length_cons, dd_len]
    have := nd_le 18 n.natAbs (by omega) (by omega); omega
  · rw [txt_pos h, dd_len]
    have := nd_le 18 n.toNat (by omega) (by omega); omega
theorem txt_ne (n : Int) : txt n ≠ [] := by
  rcases ilt n 0 with h | h
  · rw [txt_neg h]; simp
  · rw [txt_pos h]; exact dd_ne _
theorem txt_mem {n : Int} {c : UInt8} (h : c ∈ txt n) : c.toNat = 45 ∨ dig c := by
  rcases ilt n 0 with h0 | h0
  · rw [txt_neg h0, List.mem_cons] at h
    rcases h with h | h
    · subst h; exact .inl rfl
    · exact .inr (dd_dig _ c h)
  · rw [txt_pos h0] at h; exact .inr (dd_dig _ c h)
theorem txt_trim {n : Int} (h0 : -1000000000000000000 < n) (h1 : n < 1000000000000000000) : (Lib.trimPrefix (txt n) [45]).length ≤ 18 := by
  rcases ilt n 0 with h | h
  · rw [txt_neg h]
    simp only [Lib.trimPrefix, Lib.hasPrefix, List.isPrefixOf, beq_self_eq_true, Bool.true_and, if_true, List.length_singleton, List.drop_succ_cons, List.drop_zero, dd_len]
    exact nd_le 18 _ (by omega) (by omega)
  · rw [txt_pos h]
    have := nd_le 18 n.toNat (by omega) (by omega)
    unfold Lib.trimPrefix
    split
    · rw [List.length_drop, dd_len]; omega
    · rw [dd_len]; omega
theorem Decimal_eq {n : Int} (h0 : -9223372036854775808 ≤ n) (h1 : n ≤ 9223372036854775807) : impl_Decimal n = some (txt n) := by
  unfold impl_Decimal strconv_FormatInt
  rw [if_pos ⟨rfl, h0, h1⟩]; rfl
/-- how a text reads as a number -/
def RD (s : List UInt8) (r : Int × Bool) : Prop :=
  (∃ n : Int, -1000000000000000000 < n ∧ n < 1000000000000000000 ∧ s = txt n ∧ r = (n, true)) ∨ ((∀ n : Int, -1000000000000000000 < n → n < 1000000000000000000 → s ≠ txt n) ∧ r = (0, false))
theorem RD.unique {s : List UInt8} {r r' : Int × Bool} (h : RD s r) (h' : RD s r') : r = r' := by
  rcases h with ⟨n, h0, h1, h2, rfl⟩ | ⟨h0, rfl⟩
  · rcases h' with ⟨m, k0, k1, k2, rfl⟩ | ⟨k0, rfl⟩
    · rw [txt_inj (by omega) (by omega) (by omega) (by omega) (h2.symm.trans k2)]
    · exact absurd h2 (k0 n h0 h1)
  · rcases h' with ⟨m, k0, k1, k2, rfl⟩ | ⟨k0, rfl⟩
    · exact absurd k2 (h0 m k0 k1)
    · rfl
theorem ReadDecimal_ok (s : List UInt8) : ∃ r, impl_ReadDecimal s = some r ∧ RD s r := by
  unfold impl_ReadDecimal
  by_cases hl : (s.length : Int) > 19
  · rw [if_pos hl]
    refine ⟨_, rfl, .inr ⟨fun n h0 h1 e => ?_, rfl⟩⟩
    have := txt_len h0 h1
    rw [← e] at this; omega
  · rw [if_neg hl]
    have ht : strings_TrimPrefix s [45] = some (Lib.trimPrefix s [45]) := rfl
    rw [ht, Option.bind_some, Option.bind_some]
    by_cases hl2 : ((Lib.trimPrefix s [45]).length : Int) > 18
    · rw [if_pos (by simpa using hl2)]
      refine ⟨_, rfl, .inr ⟨fun n h0 h1 e => ?_, rfl⟩⟩
      have := txt_trim h0 h1
      rw [← e] at this; omega
    · rw [if_neg (by simpa using hl2)]
      have hp : strconv_ParseInt s 10 64 = some (parseR s) := by
        unfold strconv_ParseInt; rw [if_pos ⟨rfl, rfl, by omega⟩]
      rw [hp, Option.bind_some]
      by_cases hx : ∃ n : Int, -1000000000000000000 < n ∧ n < 1000000000000000000 ∧ s = txt n
      · obtain ⟨n, h0, h1, rfl⟩ := hx
        have hr : parseR (txt n) = (n, true) := by unfold parseR; rw [parse_txt (by omega) (by omega)]
        rw [hr]
        simp only [if_true]
        rw [Decimal_eq (by omega) (by omega)]
        simp only [Option.bind_some, beq_self_eq_true, Bool.not_true, Bool.false_eq_true, if_false]
        exact ⟨_, rfl, .inl ⟨n, h0, h1, rfl, rfl⟩⟩
      · have hno : ∀ n : Int, -1000000000000000000 < n → n < 1000000000000000000 → s ≠ txt n := fun n h0 h1 e => hx ⟨n, h0, h1, e⟩
        refine ⟨(0, false), ?_, .inr ⟨hno, rfl⟩⟩
        by_cases hb : (parseR s).2 = true
        · rw [if_pos hb]
          -- the number read has another text
          have hv : Lib.parseIntB 64 s = .ok (parseR s).1 := by
            unfold parseR at hb ⊢
            cases hq : Lib.parseIntB 64 s with
            | ok v => rfl
            | _ => rw [hq] at hb; cases hb
          generalize (parseR s).1 = v at hv
          have hvb : -9223372036854775808 ≤ v ∧ v ≤ 9223372036854775807 := by
            unfold Lib.parseIntB at hv
            split at hv
            · cases hv
            · simp only at hv
              split at hv
              · cases hv
              · cases hv
              · rename_i u _
                split at hv
                · cases hv
                · split at hv
                  · cases hv
                  · rename_i g1 g2
                    cases hv
                    split <;> rename_i g3
                    · simp only [g3, true_and] at g2; omega
                    · simp only [g3, not_false_eq_true, true_and] at g1; omega
          rw [Decimal_eq hvb.1 hvb.2, Option.bind_some]
          have hne : (txt v == s) = false := by
            refine beq_eq_false_iff_ne.2 fun e => ?_
            by_cases hr : -1000000000000000000 < v ∧ v < 1000000000000000000
            · exact hno v hr.1 hr.2 e.symm
            · -- too long
              rcases ilt v 0 with h | h
              · rw [txt_neg h] at e
                rw [← e] at hl2
                simp only [Lib.trimPrefix, Lib.hasPrefix, List.isPrefixOf, beq_self_eq_true, Bool.true_and, if_true, List.length_singleton, List.drop_succ_cons, List.drop_zero, dd_len] at hl2
                have := nd_lt (k := 18) (u := v.natAbs) (by omega)
                omega
              · rw [txt_pos h] at e
                have hnt : Lib.trimPrefix s [45] = s := by
                  unfold Lib.trimPrefix
                  rw [if_neg]
                  intro hpre
                  rw [← e] at hpre
                  cases hd : Lib.decDigits v.toNat with
                  | nil => exact dd_ne _ hd
                  | cons c r =>
                    rw [hd] at hpre
                    simp only [Lib.hasPrefix, List.isPrefixOf, Bool.and_true, beq_iff_eq] at hpre
                    have := dd_dig v.toNat c (by rw [hd]; simp)
                    rw [← hpre] at this
                    exact absurd this.1 (by decide)
                rw [hnt, ← e, dd_len] at hl2
                have := nd_lt (k := 18) (u := v.toNat) (by omega)
                omega
          rw [hne]; rfl
        · rw [if_neg hb]; rfl
/- places of a byte -/
theorem idx_none {c : UInt8} : ∀ {s : List UInt8}, c ∉ s → Lib.indexByte s c = -1
  | [], _ => rfl
  | x :: s, h => by
    simp only [List.mem_cons, not_or] at h
    have h1 : ¬ x = c := fun e => h.1 e.symm
    simp [Lib.indexByte, idx_none h.2, h1]
theorem idx_app {c : UInt8} {r : List UInt8} : ∀ {s : List UInt8}, c ∉ s → Lib.indexByte (s ++ c :: r) c = (s.length : Int)
  | [], _ => by simp [Lib.indexByte]
  | x :: s, h => by
    simp only [List.mem_cons, not_or] at h
    have h1 : ¬ x = c := fun e => h.1 e.symm
    have ih := idx_app (r := r) h.2
    have h2 : ¬ ((s.length : Int) == -1) = true := by simp
    simp only [List.cons_append, Lib.indexByte, ih, h2]
    simp [h1]
/-- a text cut at a byte -/
theorem Cut_app {c : UInt8} {s r : List UInt8} (h : c ∉ s) (hl : s.length + r.length ≤ 1000000) : strings_Cut (s ++ c :: r) [c] = some (s, r, true) := by
  have hi : stringslite_Index (s ++ c :: r) [c] = some (s.length : Int) := by simp [stringslite_Index, idx_app h]
  unfold strings_Cut internal_stringslite_Cut
  rw [hi, Option.bind_some, if_pos (by omega), sub_ok (by omega) (by omega) (by simp; omega), Option.bind_some, w64_id (by simp; omega) (by simp; omega)]
  rw [sub_ok (by simp; omega) (by simp; omega) (by omega)]
  simp only [Option.bind_some, List.length_singleton]
  have e1 : (List.take ((s.length : Int).toNat) (s ++ c :: r)).drop ((0 : Int).toNat) = s := by simp
  have e2 : (List.take (((s ++ c :: r).length : Int).toNat) (s ++ c :: r)).drop (((s.length : Int) + ((1 : Nat) : Int)).toNat) = r := by
    rw [show ((s.length : Int) + ((1 : Nat) : Int)).toNat = s.length + 1 by omega, Int.toNat_natCast, List.take_length]
    simp
  rw [e1, e2]
theorem Cut_none {c : UInt8} {s : List UInt8} (h : c ∉ s) : strings_Cut s [c] = some (s, [], false) := by
  have hi : stringslite_Index s [c] = some (-1) := by simp [stringslite_Index, idx_none h]
  unfold strings_Cut internal_stringslite_Cut
  rw [hi, Option.bind_some, if_neg (by omega)]; rfl
end Go.Vs.G

namespace Go.Vs.G
open Go Go.Vs

/-- the digits of a number, none for zero -/
def dz (u : Nat) : List UInt8 := if u = 0 then [] else Lib.decDigits u
theorem dz_step {u : Nat} (h : u ≠ 0) : dz u = dz (u / 10) ++ [UInt8.ofNat (48 + u % 10)] := by
  unfold dz
  rw [if_neg h]
  by_cases h1 : u < 10
  · rw [if_pos (by omega), dd_small h1, Nat.mod_eq_of_lt h1]; rfl
  · rw [if_neg (by omega), dd_big h1]
theorem b2s_one (x : Int) (l : List Int) : b2s ([x] ++ l) = UInt8.ofNat x.toNat :: b2s l := rfl
theorem l01Dec_eq {n : Int} (h0 : -9223372036854775807 ≤ n) (h1 : n ≤ 9223372036854775807) : spec_l01Dec n = some (txt n) := by
  refine eq_of_wp ?_
  unfold spec_l01Dec
  refine wp_loop (fun t : List Int × Int => dz n.natAbs = dz t.2.natAbs ++ b2s t.1 ∧ t.2.natAbs ≤ n.natAbs ∧ (t.2 ≠ 0 → (t.2 < 0 ↔ n < 0)) ∧ t.1.length + (if t.2 = 0 then 0 else Lib.nDigits t.2.natAbs) ≤ Lib.nDigits n.natAbs ∧ (n ≠ 0 → t.2 = 0 → t.1 ≠ [])) (fun t => t.2.natAbs) ⟨by simp [b2s], Nat.le_refl _, fun _ => Iff.rfl, by simp only [List.length_nil]; split <;> omega, fun h1 h2 => absurd h2 h1⟩ (by simp only; omega) ?_
  rintro ⟨a, k⟩ ⟨i1, i2, i3, i4, i5⟩
  simp only at i1 i2 i3 i4 i5 ⊢
  have hnd : Lib.nDigits n.natAbs ≤ 19 := nd_le 19 _ (by omega) (by omega)
  refine wp_ite (fun h => ?_) (fun h => ?_)
  · subst h
    refine wp_some ?_
    have hb : (b2s a).length = a.length := by simp [b2s]
    have hz : dz (0 : Int).natAbs = [] := rfl
    rw [hz, List.nil_append] at i1
    refine wp_ite (fun h2 => ?_) (fun h2 => ?_)
    · have ha : a = [] := List.length_eq_zero_iff.1 (by omega)
      have hn : n = 0 := Classical.byContradiction fun hne => i5 hne rfl ha
      subst hn
      exact wp_some (by rw [txt_pos (by omega), Int.toNat_zero, dd_small (by omega)]; rfl)
    · have hn : n ≠ 0 := by
        rintro rfl
        have : dz (0 : Int).natAbs = [] := rfl
        rw [this] at i1
        have := congrArg List.length i1
        simp only [List.length_nil] at this
        omega
      have hdz : dz n.natAbs = Lib.decDigits n.natAbs := by unfold dz; rw [if_neg (by omega)]
      refine wp_ite (fun h3 => ?_) (fun h3 => ?_)
      · rw [app_ok (by simp; omega), Option.bind_some]
        refine wp_some ?_
        rw [txt_neg h3, ← hdz, i1]; rfl
      · refine wp_some ?_
        rw [txt_pos (by omega), ← i1, hdz, show n.toNat = n.natAbs by omega]
  · have hd : (if k.tmod 10 < 0 then some (w64 (0 - k.tmod 10)) else some (k.tmod 10)) = some (((k.natAbs % 10 : Nat)) : Int) := by
      by_cases hk : k < 0
      · have e : k.tmod 10 = -((k.natAbs % 10 : Nat) : Int) := by
          rw [show k = -((k.natAbs : Nat) : Int) by omega, Int.neg_tmod]; simp [Int.tmod]
        by_cases h2 : k.tmod 10 < 0
        · rw [if_pos h2, w64_id (by omega) (by omega), e]; simp
        · rw [if_neg h2, e]; congr 1; omega
      · have e : k.tmod 10 = ((k.natAbs % 10 : Nat) : Int) := by
          rw [Int.tmod_eq_emod_of_nonneg (by omega)]; omega
        rw [if_neg (by omega), e]
    rw [hd, Option.bind_some]
    have hm : k.natAbs % 10 < 10 := Nat.mod_lt _ (by omega)
    have hw : IntKind.wrap .u8 (w64 (48 + ((k.natAbs % 10 : Nat) : Int))) = 48 + ((k.natAbs % 10 : Nat) : Int) := by
      rw [w64_id (by omega) (by omega), w8_def]; omega
    have hbig : 1 ≤ Lib.nDigits k.natAbs := Lib.nDigits_pos _
    have i4' := i4
    rw [if_neg h] at i4'
    rw [hw, app_ok (by simp; omega), Option.bind_some]
    have hq : (k.tdiv 10).natAbs = k.natAbs / 10 := by rw [Int.natAbs_tdiv]; rfl
    have hq2 : w64 (k.tdiv 10) = k.tdiv 10 := w64_id (by omega) (by omega)
    rw [hq2]
    refine wp_some ⟨⟨?_, by simp only [hq]; omega, ?_, ?_, fun _ _ => by simp⟩, by simp only [hq]; omega⟩
    · simp only [hq]
      rw [i1, dz_step (show k.natAbs ≠ 0 by omega), b2s_one, List.append_assoc]
      have : (48 + ((k.natAbs % 10 : Nat) : Int)).toNat = 48 + k.natAbs % 10 := by omega
      rw [this]; rfl
    · simp only
      intro h2
      rw [← i3 h]
      have hne : k.natAbs / 10 ≠ 0 := by
        intro e; rw [← hq] at e; exact h2 (by omega)
      by_cases hk : k < 0
      · have : k.tdiv 10 = -((k.natAbs / 10 : Nat) : Int) := by
          rw [show k = -((k.natAbs : Nat) : Int) by omega, Int.neg_tdiv]; simp [Int.tdiv]
        omega
      · have : k.tdiv 10 = ((k.natAbs / 10 : Nat) : Int) := by
          rw [Int.tdiv_eq_ediv_of_nonneg (by omega)]; omega
        omega
    · rw [if_neg h] at i4
      simp only [List.length_append, List.length_singleton]
      split
      · omega
      · rename_i h2
        rw [hq]
        have h10 : ¬ k.natAbs < 10 := fun h3 => h2 (by omega)
        have := Lib.nDigits_big h10
        omega
end Go.Vs.G

namespace Go.Vs.G
open Go Go.Vs

/-- the parts of a text between bytes -/
def spl (c : UInt8) : List UInt8 → List (List UInt8)
  | [] => [[]]
  | x :: s => if x = c then [] :: spl c s else match spl c s with
    | h :: t => (x :: h) :: t
    | [] => [[x]]
/-- some bytes ahead of the first part -/
def prep (p : List UInt8) : List (List UInt8) → List (List UInt8)
  | h :: t => (p ++ h) :: t
  | [] => [p]
theorem spl_ne (c : UInt8) : ∀ s, spl c s ≠ []
  | [] => by simp [spl]
  | x :: s => by
    rw [spl]
    split
    · simp
    · split <;> simp
theorem spl_eq {c : UInt8} {s : List UInt8} : spl c (c :: s) = [] :: spl c s := by rw [spl, if_pos rfl]
theorem spl_ne' {c x : UInt8} {s : List UInt8} (h : x ≠ c) : spl c (x :: s) = prep [x] (spl c s) := by
  rw [spl, if_neg h]
  cases hs : spl c s with
  | nil => rfl
  | cons a t => rfl
theorem prep_nil {L : List (List UInt8)} (h : L ≠ []) : prep [] L = L := by cases L with
  | nil => exact absurd rfl h
  | cons a t => rfl
theorem prep_prep (p q : List UInt8) (L : List (List UInt8)) : prep p (prep q L) = prep (p ++ q) L := by
  cases L with
  | nil => rfl
  | cons a t => simp [prep]
theorem spl_no {c : UInt8} : ∀ {s : List UInt8}, c ∉ s → spl c s = [s]
  | [], _ => rfl
  | x :: s, h => by
    simp only [List.mem_cons, not_or] at h
    rw [spl_ne' (fun e => h.1 e.symm), spl_no h.2]; rfl
theorem spl_app {c : UInt8} {b : List UInt8} : ∀ {a : List UInt8}, c ∉ a → spl c (a ++ c :: b) = a :: spl c b
  | [], _ => spl_eq
  | x :: a, h => by
    simp only [List.mem_cons, not_or] at h
    rw [List.cons_append, spl_ne' (fun e => h.1 e.symm), spl_app h.2]; rfl
theorem spl_one {c : UInt8} : ∀ {s a : List UInt8}, spl c s = [a] → s = a ∧ c ∉ a
  | [], a, h => by simp only [spl, List.cons.injEq, and_true] at h; subst h; simp
  | x :: s, a, h => by
    by_cases hx : x = c
    · subst hx; rw [spl_eq] at h; simp only [List.cons.injEq] at h; exact absurd h.2 (spl_ne _ _)
    · rw [spl_ne' hx] at h
      cases hs : spl c s with
      | nil => exact absurd hs (spl_ne _ _)
      | cons u t =>
        rw [hs] at h
        simp only [prep, List.cons.injEq] at h
        obtain ⟨rfl, rfl⟩ := h
        obtain ⟨h1, h2⟩ := spl_one hs
        subst h1
        exact ⟨rfl, by simp only [List.singleton_append, List.mem_cons, not_or]; exact ⟨fun e => hx e.symm, h2⟩⟩
theorem spl_two {c : UInt8} : ∀ {s a b : List UInt8}, spl c s = [a, b] → s = a ++ c :: b ∧ c ∉ a ∧ c ∉ b
  | [], a, b, h => by simp [spl] at h
  | x :: s, a, b, h => by
    by_cases hx : x = c
    · subst hx
      rw [spl_eq] at h
      simp only [List.cons.injEq] at h
      obtain ⟨rfl, h⟩ := h
      obtain ⟨h1, h2⟩ := spl_one h
      subst h1
      exact ⟨rfl, by simp, h2⟩
    · rw [spl_ne' hx] at h
      cases hs : spl c s with
      | nil => exact absurd hs (spl_ne _ _)
      | cons u t =>
        rw [hs] at h
        simp only [prep, List.cons.injEq] at h
        obtain ⟨rfl, rfl⟩ := h
        obtain ⟨h1, h2, h3⟩ := spl_two hs
        subst h1
        exact ⟨rfl, by simp only [List.singleton_append, List.mem_cons, not_or]; exact ⟨fun e => hx e.symm, h2⟩, h3⟩
theorem l01Split_eq {s : List UInt8} {c : UInt8} (hl : s.length ≤ 1000000) : spec_l01Split s (c.toNat : Int) = some (spl c s) := by
  refine eq_of_wp ?_
  unfold spec_l01Split
  refine wp_loop (fun t : List (List UInt8) × Int × Int => ∃ f i : Nat, t.2.1 = (f : Int) ∧ t.2.2 = (i : Int) ∧ f ≤ i ∧ i ≤ s.length ∧ t.1.length ≤ i ∧ spl c s = t.1 ++ prep ((s.take i).drop f) (spl c (s.drop i))) (fun t => (s.length - t.2.2).toNat) ⟨0, 0, rfl, rfl, Nat.le_refl _, by omega, by simp, ?_⟩ (by simp only; omega) ?_
  · simp only [List.take_zero, List.drop_zero, List.nil_append]; rw [prep_nil (spl_ne _ _)]
  rintro ⟨out, f', i'⟩ ⟨f, i, h1, h2, h3, h4, h5, h6⟩
  simp only at h1 h2 h5 h6 ⊢
  subst h1 h2
  refine wp_ite (fun h => ?_) (fun h => ?_)
  · have hi : i < s.length := by omega
    have hd : s.drop i = s[i] :: s.drop (i + 1) := List.drop_eq_getElem_cons hi
    have htk : s.take (i + 1) = s.take i ++ [s[i]] := by rw [List.take_add_one, List.getElem?_eq_getElem hi]; rfl
    rw [at_of hi, Option.bind_some, w64_id (n := (i : Int) + 1) (by omega) (by omega)]
    refine wp_ite (fun hc => ?_) (fun hc => ?_)
    · have hcc : s[i] = c := by
        have : s[i].toNat = c.toNat := by omega
        exact UInt8.toNat_inj.1 this
      rw [sub_ok (by omega) (by omega) (by omega), Option.bind_some, app_ok (by simp; omega), Option.bind_some]
      refine wp_some ⟨⟨i + 1, i + 1, by simp, by simp, Nat.le_refl _, by omega, by simp; omega, ?_⟩, by simp only; omega⟩
      simp only [Int.toNat_natCast]
      rw [h6, hd, hcc, spl_eq]
      have e : List.drop (i + 1) (List.take (i + 1) s) = [] := by simp
      rw [e, prep_nil (spl_ne _ _)]
      simp [prep]
    · have hcc : s[i] ≠ c := fun e => hc (by rw [e])
      refine wp_some ⟨⟨f, i + 1, rfl, by simp, by omega, by omega, by simp only; omega, ?_⟩, by simp only; omega⟩
      simp only
      rw [h6, hd, spl_ne' hcc, prep_prep, htk, List.drop_append_of_le_length (by simp; omega)]
  · refine wp_some ?_
    have hi : i = s.length := by omega
    subst hi
    simp only
    rw [sub_ok (by omega) (by omega) (by omega), Option.bind_some, app_ok (by simp; omega), Option.bind_some]
    refine wp_some ?_
    simp only [Int.toNat_natCast]
    rw [h6, List.drop_length]
    simp [spl, prep]
theorem l01Digit_eq (c : UInt8) : ∃ b, spec_l01Digit (c.toNat : Int) = some b ∧ (b = true ↔ dig c) := by
  unfold spec_l01Digit dig
  split
  · exact ⟨_, rfl, by simp; omega⟩
  · exact ⟨_, rfl, by simp; omega⟩
theorem dval_lt : ∀ (l : List UInt8) (acc k : Nat), (∀ c, c ∈ l → dig c) → acc < 10 ^ k → dval acc l < 10 ^ (k + l.length)
  | [], acc, k, _, h => by simpa [dval_nil] using h
  | c :: l, acc, k, hd, h => by
    have hc := hd c (by simp)
    unfold dig at hc
    rw [dval_cons, List.length_cons, show k + (l.length + 1) = (k + 1) + l.length by omega]
    exact dval_lt l _ (k + 1) (fun x hx => hd x (by simp [hx])) (by rw [Nat.pow_succ]; omega)
/-- digits read by a loop -/
theorem digits_loop {t : List UInt8} (ht : t.length ≤ 18) {α : Type} {kb : Int → Option α} {kr : Int × Bool → Option α} :
    onL (loop (S := (Int × Int)) (B := Int) (R := (Int × Bool)) (fun ((n1, i1) : Int × Int) => if i1 < (t.length : Int) then ((at? t i1).bind fun c2 => (spec_l01Digit (c2.toNat : Int)).bind fun r1 => if r1 then ((at? t i1).bind fun c3 => some (.next (w64 ((w64 (10 * n1)) + (w64 (IntKind.wrap .u8 ((c3.toNat : Int) - 48)))), w64 (i1 + 1)))) else some (.ret (0, false))) else some (.brk n1)) loopLim (0, 0)) kb kr
      = kb (dval 0 t : Int) ∧ (∀ c, c ∈ t → dig c) ∨
    onL (loop (S := (Int × Int)) (B := Int) (R := (Int × Bool)) (fun ((n1, i1) : Int × Int) => if i1 < (t.length : Int) then ((at? t i1).bind fun c2 => (spec_l01Digit (c2.toNat : Int)).bind fun r1 => if r1 then ((at? t i1).bind fun c3 => some (.next (w64 ((w64 (10 * n1)) + (w64 (IntKind.wrap .u8 ((c3.toNat : Int) - 48)))), w64 (i1 + 1)))) else some (.ret (0, false))) else some (.brk n1)) loopLim (0, 0)) kb kr
      = kr (0, false) ∧ ¬ ∀ c, c ∈ t → dig c := by
  let body : Int × Int → Option (Step (Int × Int) Int (Int × Bool)) := fun x => if x.2 < (t.length : Int) then ((at? t x.2).bind fun c2 => (spec_l01Digit (c2.toNat : Int)).bind fun r1 => if r1 then ((at? t x.2).bind fun c3 => some (.next (w64 ((w64 (10 * x.1)) + (w64 (IntKind.wrap .u8 ((c3.toNat : Int) - 48)))), w64 (x.2 + 1)))) else some (.ret (0, false))) else some (.brk x.1)
  show onL (loop body loopLim (0, 0)) kb kr = _ ∧ _ ∨ onL (loop body loopLim (0, 0)) kb kr = _ ∧ _
  have hstep : ∀ k, k < t.length → dig (t.getD k 0) → (∀ j, j < k → dig (t.getD j 0)) → body ((dval 0 (t.take k) : Int), (k : Int)) = some (.next ((dval 0 (t.take (k + 1)) : Int), ((k + 1 : Nat) : Int))) := by
    intro k hk hd hall
    obtain ⟨b, hb, hb2⟩ := l01Digit_eq (t.getD k 0)
    have hge : t[k] = t.getD k 0 := by simp [List.getD, List.getElem?_eq_getElem hk]
    have hlt : dval 0 (t.take k) < 10 ^ k := by
      have := dval_lt (t.take k) 0 0 (fun c hc => by
        obtain ⟨j, hj, rfl⟩ := List.getElem_of_mem hc
        rw [List.length_take] at hj
        have := hall j (by omega)
        simpa [List.getD, List.getElem?_eq_getElem (show j < t.length by omega)] using this) (by omega)
      rw [List.length_take, Nat.min_eq_left (by omega), Nat.zero_add] at this
      exact this
    have h17 : 10 ^ k ≤ 10 ^ 17 := Nat.pow_le_pow_right (by omega) (by omega)
    have e17 : 10 ^ 17 = 100000000000000000 := by decide
    have htk : dval 0 (t.take (k + 1)) = dval 0 (t.take k) * 10 + ((t.getD k 0).toNat - 48) := by
      rw [List.take_add_one, List.getElem?_eq_getElem hk, dval_append, ← hge]; rfl
    unfold dig at hd
    show (if (k : Int) < (t.length : Int) then _ else _) = _
    simp only
    rw [if_pos (by omega), at_of hk, Option.bind_some, hge, hb, Option.bind_some, if_pos (hb2.2 hd), Option.bind_some, htk]
    rw [w8_def, w64_id (n := 10 * (dval 0 (t.take k) : Int)) (by omega) (by omega), w64_id (n := ((t.getD k 0).toNat - 48 : Int) % 256) (by omega) (by omega), w64_id (by omega) (by omega), w64_id (by omega) (by omega)]
    congr 3
    omega
  by_cases hall : ∀ c, c ∈ t → dig c
  · refine .inl ⟨?_, hall⟩
    have := loop_brk (body := body) (fun k => ((dval 0 (t.take k) : Int), (k : Int))) (b := (dval 0 t : Int)) t.length (by omega) (fun k hk => hstep k hk (hall _ (by simp [List.getD, List.getElem?_eq_getElem hk])) (fun j hj => hall _ (by simp [List.getD, List.getElem?_eq_getElem (show j < t.length by omega)]))) (by
      show (if (t.length : Int) < (t.length : Int) then _ else _) = _
      rw [if_neg (by omega)]; simp)
    have e0 : ((dval 0 (t.take 0) : Int), ((0 : Nat) : Int)) = ((0 : Int), (0 : Int)) := rfl
    rw [e0] at this
    rw [this]; rfl
  · refine .inr ⟨?_, hall⟩
    -- the first that is no digit
    have hex : ∃ k, k < t.length ∧ ¬ dig (t.getD k 0) ∧ ∀ j, j < k → dig (t.getD j 0) := by
      have h0 : ∃ k, k < t.length ∧ ¬ dig (t.getD k 0) := by
        refine Classical.byContradiction fun hn => hall fun c hc => ?_
        obtain ⟨j, hj, rfl⟩ := List.getElem_of_mem hc
        refine Classical.byContradiction fun hnd => hn ⟨j, hj, ?_⟩
        simpa [List.getD, List.getElem?_eq_getElem hj] using hnd
      obtain ⟨k, hk⟩ := h0
      induction k using Nat.strongRecOn with
      | _ k ih =>
        by_cases hl : ∀ j, j < k → dig (t.getD j 0)
        · exact ⟨k, hk.1, hk.2, hl⟩
        · have : ∃ j, j < k ∧ ¬ dig (t.getD j 0) := by
            refine Classical.byContradiction fun hn => hl fun j hj => Classical.byContradiction fun hnd => hn ⟨j, hj, hnd⟩
          obtain ⟨j, hj, hnd⟩ := this
          exact ih j hj ⟨by omega, hnd⟩
    obtain ⟨k, hk, hnd, hall2⟩ := hex
    obtain ⟨b, hb, hb2⟩ := l01Digit_eq (t.getD k 0)
    have hge : t[k] = t.getD k 0 := by simp [List.getD, List.getElem?_eq_getElem hk]
    have := loop_ret' (body := body) (fun k => ((dval 0 (t.take k) : Int), (k : Int))) (r := (0, false)) k (by omega) (fun j hj => hstep j (by omega) (hall2 j hj) (fun i hi => hall2 i (by omega))) (by
      show (if (k : Int) < (t.length : Int) then _ else _) = _
      simp only
      rw [if_pos (by omega), at_of hk, Option.bind_some, hge, hb, Option.bind_some, if_neg (fun h => hnd (hb2.1 h))])
    have e0 : ((dval 0 (t.take 0) : Int), ((0 : Nat) : Int)) = ((0 : Int), (0 : Int)) := rfl
    rw [e0] at this
    rw [this]; rfl
theorem l01Number_ok (s : List UInt8) (hs : s.length ≤ 1000000) : ∃ r, spec_l01Number s = some r ∧ RD s r := by
  -- the text without its sign
  obtain ⟨neg, t, hx, ht⟩ : ∃ (neg : Bool) (t : List UInt8), (((if (s == []) then (some false) else (at? s 0).bind fun c1 => some (decide ((c1.toNat : Int) = 45))) : Option Bool).bind fun (x1 : Bool) => ((if x1 then ((sub? s 1 s.length).bind fun s2 => some s2) else some s) : Option (List UInt8))) = some t ∧ ((neg = true ∧ s = 45 :: t) ∨ (neg = false ∧ s = t ∧ ∀ r, s ≠ 45 :: r)) := by
    cases s with
    | nil => exact ⟨false, [], rfl, .inr ⟨rfl, rfl, by simp⟩⟩
    | cons c r =>
      have h0 : ((c :: r) == []) = false := rfl
      have h1 : at? (c :: r) 0 = some c := rfl
      rw [h0, if_neg (by simp), h1]
      simp only [Option.bind_some]
      by_cases hc : (c.toNat : Int) = 45
      · have : c = 45 := UInt8.toNat_inj.1 (by show c.toNat = 45; omega)
        subst this
        refine ⟨true, r, ?_, .inl ⟨rfl, rfl⟩⟩
        rw [if_pos (by simp), sub_ok (by omega) (by simp; omega) (by omega)]
        simp
      · refine ⟨false, c :: r, ?_, .inr ⟨rfl, rfl, fun r' e => hc ?_⟩⟩
        · rw [if_neg (by simpa using hc)]
        · simp only [List.cons.injEq] at e
          rw [e.1]; rfl
  have hlen : t.length ≤ s.length ∧ (neg = true → t.length < s.length) ∧ (neg = false → t.length = s.length) := by
    rcases ht with ⟨rfl, rfl⟩ | ⟨rfl, rfl, _⟩
    · simp
    · simp
  -- a number's text
  have hform : ∀ n : Int, -1000000000000000000 < n → n < 1000000000000000000 → s = txt n → t = Lib.decDigits n.natAbs ∧ (neg = true ↔ n < 0) := by
    intro n h0 h1 e
    by_cases hn : n < 0
    · rw [txt_neg hn] at e
      rcases ht with ⟨rfl, h2⟩ | ⟨rfl, h2, h3⟩
      · rw [h2] at e; simp only [List.cons.injEq, true_and] at e; exact ⟨e, by simp [hn]⟩
      · exact absurd e (h3 _)
    · rw [txt_pos (by omega)] at e
      rcases ht with ⟨rfl, h2⟩ | ⟨rfl, h2, h3⟩
      · rw [h2] at e
        have := dd_dig n.toNat 45 (by rw [← e]; simp)
        exact absurd this.1 (by decide)
      · refine ⟨?_, by simp [hn]⟩
        rw [← h2, e, show n.natAbs = n.toNat by omega]
  have hE : spec_l01Number s = (((if (t.length : Int) < 1 then (some true) else some (decide ((t.length : Int) > 18))) : Option Bool).bind fun (x2 : Bool) => if x2 then (some ((0 : Int), false)) else
      onL (loop (S := (Int × Int)) (B := Int) (R := (Int × Bool)) (fun ((n1, i1) : Int × Int) => if i1 < (t.length : Int) then ((at? t i1).bind fun c2 => (spec_l01Digit (c2.toNat : Int)).bind fun r1 => if r1 then ((at? t i1).bind fun c3 => some (.next (w64 ((w64 (10 * n1)) + (w64 (IntKind.wrap .u8 ((c3.toNat : Int) - 48)))), w64 (i1 + 1)))) else some (.ret (0, false))) else some (.brk n1)) loopLim (0, 0))
      (fun (n2 : Int) => ((if (t.length : Int) < (s.length : Int) then (some (w64 (0 - n2))) else some n2) : Option Int).bind fun (n3 : Int) => (spec_l01Dec n3).bind fun r2 => if (r2 == s) then (some (n3, true)) else some (0, false)) (fun r => some r)) := by
    unfold spec_l01Number
    rw [← Option.bind_assoc, hx, Option.bind_some]
  rw [hE]
  by_cases h1 : (t.length : Int) < 1
  · rw [if_pos h1]
    refine ⟨(0, false), rfl, .inr ⟨fun n n0 n1 e => ?_, rfl⟩⟩
    obtain ⟨h2, _⟩ := hform n n0 n1 e
    have h3 : t = [] := List.length_eq_zero_iff.1 (by omega)
    exact dd_ne _ (h2.symm.trans h3)
  · rw [if_neg h1, Option.bind_some]
    by_cases h2 : (t.length : Int) > 18
    · rw [if_pos (by simpa using h2)]
      refine ⟨(0, false), rfl, .inr ⟨fun n n0 n1 e => ?_, rfl⟩⟩
      obtain ⟨h3, _⟩ := hform n n0 n1 e
      have := nd_le 18 n.natAbs (by omega) (by omega)
      rw [h3, dd_len] at h2; omega
    · rw [if_neg (by simpa using h2)]
      rcases digits_loop (t := t) (by omega) (kb := (fun (n2 : Int) => ((if (t.length : Int) < (s.length : Int) then (some (w64 (0 - n2))) else some n2) : Option Int).bind fun (n3 : Int) => (spec_l01Dec n3).bind fun r2 => if (r2 == s) then (some (n3, true)) else some (0, false))) (kr := (fun r => some r)) with ⟨e, hd⟩ | ⟨e, hd⟩
      · rw [e]
        have hlt := dval_lt t 0 0 hd (by omega)
        rw [Nat.zero_add] at hlt
        have h18 : 10 ^ t.length ≤ 10 ^ 18 := Nat.pow_le_pow_right (by omega) (by omega)
        have e18 : 10 ^ 18 = 1000000000000000000 := by decide
        have hn3 : (if (t.length : Int) < (s.length : Int) then (some (w64 (0 - (dval 0 t : Int)))) else some (dval 0 t : Int)) = some (if neg = true then -(dval 0 t : Int) else (dval 0 t : Int)) := by
          cases hneg : neg with
          | true => rw [if_pos (by have := hlen.2.1 hneg; omega), if_pos rfl, w64_id (by omega) (by omega)]; congr 1; omega
          | false => rw [if_neg (by have := hlen.2.2 hneg; omega), if_neg (by simp)]
        rw [hn3, Option.bind_some]
        generalize hv : (if neg = true then -(dval 0 t : Int) else (dval 0 t : Int)) = v
        have hvb : -1000000000000000000 < v ∧ v < 1000000000000000000 := by rw [← hv]; split <;> omega
        rw [l01Dec_eq (by omega) (by omega), Option.bind_some]
        by_cases hq : txt v = s
        · rw [if_pos (by simpa using hq)]
          exact ⟨_, rfl, .inl ⟨v, hvb.1, hvb.2, hq.symm, rfl⟩⟩
        · rw [if_neg (by simpa using hq)]
          refine ⟨_, rfl, .inr ⟨fun n n0 n1 e2 => hq ?_, rfl⟩⟩
          obtain ⟨h3, h4⟩ := hform n n0 n1 e2
          rw [h3, dval_dd] at hv
          have : v = n := by
            rw [← hv]
            by_cases hn : n < 0
            · rw [if_pos (h4.2 hn)]; omega
            · rw [if_neg (fun h => hn (h4.1 h))]; omega
          rw [this]; exact e2.symm
      · rw [e]
        refine ⟨_, rfl, .inr ⟨fun n n0 n1 e2 => hd ?_, rfl⟩⟩
        obtain ⟨h3, _⟩ := hform n n0 n1 e2
        rw [h3]; exact dd_dig _
/-- a text cut at a byte, whether it has it or not -/
theorem Cut_any {c : UInt8} {s : List UInt8} (hl : s.length ≤ 1000000) : (c ∉ s ∧ strings_Cut s [c] = some (s, [], false)) ∨ ∃ a b, s = a ++ c :: b ∧ c ∉ a ∧ strings_Cut s [c] = some (a, b, true) := by
  by_cases h : c ∈ s
  · obtain ⟨a, b, rfl, ha⟩ := List.append_of_mem h |>.elim fun a hb => hb.elim fun b hb => by
      -- the first place
      have : ∀ (s : List UInt8), c ∈ s → ∃ a b, s = a ++ c :: b ∧ c ∉ a := by
        intro s
        induction s with
        | nil => intro h; simp at h
        | cons x s ih =>
          intro h
          by_cases hx : x = c
          · subst hx; exact ⟨[], s, rfl, by simp⟩
          · rcases List.mem_cons.1 h with h1 | h1
            · exact absurd h1.symm hx
            · obtain ⟨a, b, rfl, ha⟩ := ih h1
              exact ⟨x :: a, b, rfl, by simp only [List.mem_cons, not_or]; exact ⟨fun e => hx e.symm, ha⟩⟩
      exact this s h
    exact .inr ⟨a, b, rfl, ha, Cut_app ha (by simp at hl; omega)⟩
  · exact .inl ⟨h, Cut_none h⟩
end Go.Vs.G

namespace Go.Vs.G
open Go Go.Vs

/- places around a drum -/
def rdn (u d : Int) : Int := (2 * u + d) / (2 * d)
theorem rounded_rdn {u d : Int} (h0 : 0 ≤ u) (h1 : u ≤ 1000000000) (d0 : 1 ≤ d) (d1 : d ≤ 1000000) : impl_rounded u d = some (rdn u d) := by
  unfold impl_rounded rdn
  rw [w64_id (n := 2 * u) (by omega) (by omega), w64_id (n := 2 * u + d) (by omega) (by omega), w64_id (n := 2 * d) (by omega) (by omega), div_ok (by omega), mod_ok (by omega), Option.bind_some, Option.bind_some]
  have e1 : (2 * u + d).tdiv (2 * d) = (2 * u + d) / (2 * d) := Int.tdiv_eq_ediv_of_nonneg (by omega)
  have e2 : (2 * u + d).tmod (2 * d) = (2 * u + d) % (2 * d) := Int.tmod_eq_emod_of_nonneg (by omega)
  have g1 : 0 ≤ (2 * u + d) / (2 * d) := Int.ediv_nonneg (by omega) (by omega)
  have g2 : (2 * u + d) / (2 * d) ≤ 2 * u + d := Int.ediv_le_self _ (by omega)
  have g3 : 0 ≤ (2 * u + d) % (2 * d) := Int.emod_nonneg _ (by omega)
  rw [e1, e2, if_neg (by omega)]
  exact congrArg some (w64_id (by omega) (by omega))
theorem l00Round_rdn {u d : Int} (h0 : 0 ≤ u) (h1 : u ≤ 1000000000) (d0 : 1 ≤ d) (d1 : d ≤ 1000000) : spec_l00Round u d = some (rdn u d) := by
  have := rounded_rdn h0 h1 d0 d1
  unfold impl_rounded at this
  unfold spec_l00Round spec_l00Floor
  rw [this]; rfl
def plc (R n : Int) (k : Nat) : Int := rdn (k * R) n
def pls (R n : Int) : List Int := tab (plc R n) n.toNat
theorem plc_zero {R n : Int} (hn : 1 ≤ n ∧ n ≤ 48) : plc R n 0 = 0 := by
  unfold plc rdn
  simp only [Int.natCast_zero, Int.zero_mul, Int.mul_zero, Int.zero_add]
  exact Int.ediv_eq_zero_of_lt (by omega) (by omega)
theorem pls_len {R n : Int} : (pls R n).length = n.toNat := by simp [pls]
theorem pls_at {R n : Int} (hn : 1 ≤ n ∧ n ≤ 48) {k : Nat} (hk : (k : Int) < n) : at? (pls R n) (k : Int) = some (plc R n k) := by
  unfold pls; rw [tab_at (by omega) (by omega)]; rfl
section
variable {R n : Int} (hR : 100 ≤ R ∧ R ≤ 10000) (hn : 1 ≤ n ∧ n ≤ 48)
include hR hn
theorem kR_bd {k : Nat} (hk : (k : Int) < n) : 0 ≤ (k : Int) * R ∧ (k : Int) * R ≤ 470000 := by
  have h1 : 0 ≤ (k : Int) * R := Int.mul_nonneg (by omega) (by omega)
  have h2 : (k : Int) * R ≤ 47 * 10000 := Int.mul_le_mul (by omega) (by omega) (by omega) (by omega)
  omega
theorem plc_lt {k : Nat} (hk : (k : Int) + 1 < n) : plc R n k < plc R n (k + 1) := by
  have h := kR_bd hR hn (k := k) (by omega)
  unfold plc rdn
  rw [Int.natCast_succ, Int.add_mul, Int.one_mul]
  have : (2 * ((k : Int) * R) + n) / (2 * n) + 1 = (2 * ((k : Int) * R) + n + 2 * n) / (2 * n) := by
    rw [Int.add_ediv_of_dvd_right (Int.dvd_refl _), Int.ediv_self (by omega)]
  have h2 : (2 * ((k : Int) * R) + n + 2 * n) / (2 * n) ≤ (2 * ((k : Int) * R + R) + n) / (2 * n) := Int.ediv_le_ediv (by omega) (by omega)
  omega
theorem plc_bd {k : Nat} (hk : (k : Int) < n) : 0 ≤ plc R n k ∧ plc R n k < R := by
  have h := kR_bd hR hn hk
  unfold plc rdn
  refine ⟨Int.ediv_nonneg (by omega) (by omega), ?_⟩
  rw [Int.ediv_lt_iff_lt_mul (by omega)]
  have h1 : ((k : Int) + 1) * R ≤ n * R := Int.mul_le_mul_of_nonneg_right (by omega) (by omega)
  rw [Int.add_mul, Int.one_mul] at h1
  have h2 : R * (2 * n) = 2 * (n * R) := by rw [Int.mul_comm R (2 * n), Int.mul_assoc]
  omega
theorem placesOf_eq {d : GDrum} (hd : d.Round = R) : impl_placesOf d n = some (pls R n) := by
  refine eq_of_wp ?_
  unfold impl_placesOf
  refine wp_cnt (fun k => (tab (plc R n) k, (k : Int))) n.toNat rfl (by omega) (fun k hk => ?_) (b := pls R n) ?_ (wp_some rfl)
  · have h := kR_bd hR hn (k := k) (by omega)
    simp only
    rw [if_pos (by omega), hd, w64_id (n := (k : Int) * R) (by omega) (by omega), rounded_rdn (by omega) (by omega) (by omega) (by omega), Option.bind_some, app_ok (by simp; omega), Option.bind_some, w64_id (by omega) (by omega), tab_succ]; rfl
  · simp only; rw [if_neg (by omega)]; rfl
theorem l07Places_eq {d : GDrum} (hd : d.Round = R) : spec_l07Places d n = some (pls R n) := by
  refine eq_of_wp ?_
  unfold spec_l07Places
  refine wp_cnt (fun k => (tab (plc R n) k, (k : Int))) n.toNat rfl (by omega) (fun k hk => ?_) (b := pls R n) ?_ (wp_some rfl)
  · have h := kR_bd hR hn (k := k) (by omega)
    simp only
    rw [if_pos (by omega), hd, w64_id (n := (k : Int) * R) (by omega) (by omega), l00Round_rdn (by omega) (by omega) (by omega) (by omega), Option.bind_some, app_ok (by simp; omega), Option.bind_some, w64_id (by omega) (by omega), tab_succ]; rfl
  · simp only; rw [if_neg (by omega)]; rfl
theorem rising_pls : laws_f6rising (pls R n) = some true := by
  refine eq_of_wp ?_
  unfold laws_f6rising
  have hl := pls_len (R := R) (n := n)
  refine wp_loop (fun t : Int => ∃ k : Nat, t = ((k + 1 : Nat) : Int) ∧ (k : Int) + 1 ≤ n) (fun t => (n + 1 - t).toNat) ⟨0, rfl, by omega⟩ (by omega) ?_
  rintro i ⟨k, rfl, hk⟩
  refine wp_ite (fun h => ?_) (fun h => wp_some (wp_some rfl))
  rw [w64_id (n := ((k + 1 : Nat) : Int) - 1) (by omega) (by omega), show ((k + 1 : Nat) : Int) - 1 = (k : Int) by omega, pls_at hn (by omega), Option.bind_some, pls_at hn (by omega), Option.bind_some]
  have := plc_lt hR hn (k := k) (by omega)
  rw [if_neg (by omega), w64_id (by omega) (by omega)]
  exact wp_some ⟨⟨k + 1, by omega, by omega⟩, by omega⟩
end
def plR (d : GDrum) (n : Int) : List Int × Int := if drumOk d then (if 1 ≤ n ∧ n ≤ 48 then (pls d.Round n, 0) else ([], 2)) else ([], 1)
theorem PlacesOf_eq (d : GDrum) (n : Int) : impl_PlacesOf d n = some (plR d n) ∧ spec_PlacesOf d n = some (plR d n) := by
  unfold impl_PlacesOf spec_PlacesOf spec_l07Many plR
  rw [ValidDrum_eq, l07Ok_eq]
  simp only [Option.bind_some, within_eqR, l03Many_eq]
  by_cases hd : drumOk d
  · by_cases hn : 1 ≤ n ∧ n ≤ 48
    · simp only [hd, hn, and_self, decide_true, if_true, Option.bind_some]
      rw [placesOf_eq hd.1 hn rfl, l07Places_eq hd.1 hn rfl]
      exact ⟨rfl, rfl⟩
    · simp only [hd, decide_true, if_true]
      rw [decide_eq_false hn, if_neg hn]
      exact ⟨rfl, rfl⟩
  · rw [decide_eq_false hd, if_neg hd]
    exact ⟨rfl, rfl⟩
def slR (d : GDrum) : List Int × Int := if drumOk d then (pls d.Round d.Slits, 0) else ([], 1)
theorem SlitPlaces_eq (d : GDrum) : impl_SlitPlaces d = some (slR d) ∧ spec_SlitPlaces d = some (slR d) := by
  unfold impl_SlitPlaces spec_SlitPlaces slR
  rw [ValidDrum_eq, l07Ok_eq]
  simp only [Option.bind_some]
  by_cases hd : drumOk d
  · simp only [hd, decide_true, if_true]
    rw [placesOf_eq hd.1 hd.2.2 rfl, l07Places_eq hd.1 hd.2.2 rfl]
    exact ⟨rfl, rfl⟩
  · rw [decide_eq_false hd, if_neg hd]
    exact ⟨rfl, rfl⟩
/- pieces -/
theorem PiecesFor_same (d : GDrum) (g l : Int) : ∃ r : Int × Int, impl_PiecesFor d g l = some r ∧ spec_PiecesFor d g l = some r ∧ (r.2 = 0 → drumOk d ∧ (1 ≤ l - g ∧ l - g ≤ 10000) ∧ (0 ≤ r.1 ∧ r.1 ≤ 20000) ∧ d.Round ≤ r.1 * (l - g) ∧ (r.1 - 1) * (l - g) < d.Round) := by
  unfold impl_PiecesFor spec_PiecesFor spec_l07Glue
  rw [ValidDrum_eq, l07Ok_eq]
  simp only [Option.bind_some, within_eqR, l00In_eqB]
  by_cases hd : drumOk d
  · by_cases hg : 0 ≤ g ∧ g ≤ 100
    · by_cases hl : 1 ≤ l ∧ l ≤ 10000
      · simp only [hd, hg, hl, and_self, decide_true, if_true, Option.bind_some, Bool.not_true, Bool.false_eq_true, if_false]
        by_cases hlg : l ≤ g
        · rw [if_pos hlg, if_pos hlg]
          exact ⟨(0, 5), rfl, rfl, fun h => by simp at h⟩
        · obtain ⟨⟨r1, r2⟩, _⟩ := hd
          rw [if_neg hlg, if_neg hlg, w64_id (n := l - g) (by omega) (by omega), w64_id (n := d.Round + (l - g)) (by omega) (by omega), w64_id (n := d.Round + (l - g) - 1) (by omega) (by omega), w64_id (n := d.Round + l) (by omega) (by omega), w64_id (n := d.Round + l - g) (by omega) (by omega), w64_id (n := d.Round + l - g - 1) (by omega) (by omega),
            show d.Round + l - g - 1 = d.Round + (l - g) - 1 by omega]
          generalize ho : l - g = o
          obtain ⟨q1, a1, b1⟩ := div_okD (a := d.Round + o - 1) (b := o) (by omega) (by omega) (by omega)
          rw [q1]
          refine ⟨_, rfl, rfl, fun _ => ⟨trivial, by omega, ⟨a1, by simp only; omega⟩, ?_, ?_⟩⟩
          · have := Int.lt_ediv_add_one_mul_self (d.Round + o - 1) (show 0 < o by omega)
            rw [Int.add_mul, Int.one_mul] at this
            simp only; omega
          · have := Int.ediv_mul_le (d.Round + o - 1) (show o ≠ 0 by omega)
            simp only
            rw [Int.sub_mul, Int.one_mul]; omega
      · simp only [hd, hg, and_self, decide_true, if_true, Option.bind_some]
        rw [decide_eq_false hl]
        exact ⟨(0, 2), rfl, rfl, fun h => by simp at h⟩
    · simp only [hd, decide_true, if_true]
      rw [decide_eq_false hg]
      exact ⟨(0, 2), rfl, rfl, fun h => by simp at h⟩
  · rw [decide_eq_false hd]
    exact ⟨(0, 1), rfl, rfl, fun h => by simp at h⟩
  where
  div_okD {a b : Int} (ha : 0 ≤ a) (ha2 : a ≤ 20000) (hb : 0 < b) : div? .i64 a b = some (a / b) ∧ 0 ≤ a / b ∧ a / b ≤ a := by
    have h1 : 0 ≤ a / b := Int.ediv_nonneg ha (by omega)
    have h2 : a / b ≤ a := Int.ediv_le_self _ ha
    refine ⟨?_, h1, h2⟩
    rw [div_ok (by omega), Int.tdiv_eq_ediv_of_nonneg ha]
    exact congrArg some (w64_id (by omega) (by omega))
/- the worst slit -/
def nr (R n : Int) (x : Int) : Nat → Int
  | 0 => R
  | k + 1 => min (min (nr R n x k) (max (x - plc R n k) (plc R n k - x))) (R - max (x - plc R n k) (plc R n k - x))
def ws (f : Nat → Int) : Nat → Int × Int
  | 0 => (0, -1)
  | k + 1 => if f k > (ws f k).2 then ((k : Int), f k) else ws f k
theorem nr_bd {R n x : Int} (hR : 100 ≤ R ∧ R ≤ 10000) (hn : 1 ≤ n ∧ n ≤ 48) (hx : 0 ≤ x ∧ x < R) : ∀ {k : Nat}, (k : Int) ≤ n → 0 ≤ nr R n x k ∧ nr R n x k ≤ R ∧ (1 ≤ k → 2 * nr R n x k ≤ R)
  | 0, _ => ⟨by simp only [nr]; omega, by simp only [nr]; omega, fun h => by omega⟩
  | k + 1, hk => by
    have ih := nr_bd hR hn hx (k := k) (by omega)
    have hp := plc_bd hR hn (k := k) (by omega)
    simp only [nr]
    omega
theorem ws_bd {f : Nat → Int} {M : Int} : ∀ {k : Nat}, (∀ i, i < k → 0 ≤ f i ∧ f i ≤ M) → 1 ≤ k → 0 ≤ (ws f k).1 ∧ (ws f k).1 < (k : Int) ∧ 0 ≤ (ws f k).2 ∧ (ws f k).2 ≤ M
  | 0, _, h => by omega
  | 1, hf, _ => by
    have := hf 0 (by omega)
    have e : ws f 1 = (((0 : Nat) : Int), f 0) := if_pos (by show f 0 > -1; omega)
    rw [e]
    exact ⟨by simp, by simp, by simp only; omega, by simp only; omega⟩
  | k + 2, hf, _ => by
    have ih := ws_bd (f := f) (M := M) (k := k + 1) (fun i hi => hf i (by omega)) (by omega)
    have := hf (k + 1) (by omega)
    rw [ws]
    split
    · exact ⟨by simp only; omega, by simp only; omega, by simp only; omega, by simp only; omega⟩
    · exact ⟨ih.1, by omega, ih.2.2⟩
def wsR (d : GDrum) (n : Int) : Int × Int × Int := if drumOk d then (if 1 ≤ n ∧ n ≤ 48 then ((ws (fun i => nr d.Round n (plc d.Round d.Slits i) n.toNat) d.Slits.toNat).1, (ws (fun i => nr d.Round n (plc d.Round d.Slits i) n.toNat) d.Slits.toNat).2, 0) else (0, 0, 2)) else (0, 0, 1)
theorem WorstSlit_eq (d : GDrum) (n : Int) : impl_WorstSlit d n = some (wsR d n) ∧ spec_WorstSlit d n = some (wsR d n) := by
  unfold impl_WorstSlit spec_WorstSlit spec_l07Many wsR
  rw [ValidDrum_eq, l07Ok_eq]
  simp only [Option.bind_some, within_eqR, l03Many_eq]
  by_cases hd : drumOk d
  · by_cases hn : 1 ≤ n ∧ n ≤ 48
    · simp only [hd, hn, and_self, decide_true, if_true, Option.bind_some]
      rw [placesOf_eq hd.1 hd.2.2 rfl, l07Places_eq hd.1 hd.2.2 rfl, l07Places_eq hd.1 hn rfl]
      simp only [Option.bind_some]
      have hl1 := pls_len (R := d.Round) (n := d.Slits)
      have hl2 := pls_len (R := d.Round) (n := n)
      obtain ⟨r1, r2⟩ := hd.1
      obtain ⟨s1, s2⟩ := hd.2.2
      have hbd : ∀ i : Nat, (i : Int) < d.Slits → ∀ k : Nat, (k : Int) ≤ n → 0 ≤ nr d.Round n (plc d.Round d.Slits i) k ∧ nr d.Round n (plc d.Round d.Slits i) k ≤ d.Round := fun i hi k hk => by
        have := nr_bd hd.1 hn (plc_bd hd.1 hd.2.2 hi) hk
        exact ⟨this.1, this.2.1⟩
      constructor
      · refine eq_of_wp ?_
        refine wp_cnt (fun i => ((ws (fun i => nr d.Round n (plc d.Round d.Slits i) n.toNat) i).1, (ws (fun i => nr d.Round n (plc d.Round d.Slits i) n.toNat) i).2, (i : Int))) d.Slits.toNat rfl (by omega) (fun i hi => ?_) (b := ((ws (fun i => nr d.Round n (plc d.Round d.Slits i) n.toNat) d.Slits.toNat).1, (ws (fun i => nr d.Round n (plc d.Round d.Slits i) n.toNat) d.Slits.toNat).2)) ?_ (wp_some rfl)
        · simp only
          rw [if_pos (by omega), pls_at hd.2.2 (by omega), Option.bind_some, placesOf_eq hd.1 hn rfl, Option.bind_some]
          refine eq_of_wp ?_
          refine wp_cnt (fun k => (nr d.Round n (plc d.Round d.Slits i) k, (k : Int))) n.toNat rfl (by omega) (fun k hk => ?_) (b := nr d.Round n (plc d.Round d.Slits i) n.toNat) ?_ ?_
          · have p1 := plc_bd hd.1 hd.2.2 (k := i) (by omega)
            have p2 := plc_bd hd.1 hn (k := k) (by omega)
            simp only
            rw [if_pos (by omega), pls_at hn (by omega), Option.bind_some]
            unfold impl_apart
            rw [Option.bind_some, w64_id (n := plc d.Round d.Slits i - plc d.Round n k) (by omega) (by omega), w64_id (n := plc d.Round n k - plc d.Round d.Slits i) (by omega) (by omega), imax_def, w64_id (n := d.Round - _) (by omega) (by omega), imin_def, imin_def, w64_id (by omega) (by omega)]
            rfl
          · simp only; rw [if_neg (by omega)]
          · rw [w64_id (n := (i : Int) + 1) (by omega) (by omega)]
            refine wp_ite (fun h => ?_) (fun h => ?_)
            · exact wp_some (by rw [ws, if_pos h]; rfl)
            · exact wp_some (by rw [ws, if_neg h]; rfl)
        · simp only; rw [if_neg (by omega)]
      · refine eq_of_wp ?_
        refine wp_cnt (fun i => ((ws (fun i => nr d.Round n (plc d.Round d.Slits i) n.toNat) i).1, (ws (fun i => nr d.Round n (plc d.Round d.Slits i) n.toNat) i).2, (i : Int))) d.Slits.toNat rfl (by omega) (fun i hi => ?_) (b := ((ws (fun i => nr d.Round n (plc d.Round d.Slits i) n.toNat) d.Slits.toNat).1, (ws (fun i => nr d.Round n (plc d.Round d.Slits i) n.toNat) d.Slits.toNat).2)) ?_ (wp_some rfl)
        · simp only
          rw [if_pos (by omega)]
          refine eq_of_wp ?_
          refine wp_cnt (fun k => (nr d.Round n (plc d.Round d.Slits i) k, (k : Int))) n.toNat rfl (by omega) (fun k hk => ?_) (b := nr d.Round n (plc d.Round d.Slits i) n.toNat) ?_ ?_
          · have p1 := plc_bd hd.1 hd.2.2 (k := i) (by omega)
            have p2 := plc_bd hd.1 hn (k := k) (by omega)
            simp only
            have hs : spec_l00Size (plc d.Round d.Slits i - plc d.Round n k) = some (max (plc d.Round d.Slits i - plc d.Round n k) (plc d.Round n k - plc d.Round d.Slits i)) := by
              unfold spec_l00Size
              split
              · rw [w64_id (by omega) (by omega)]; congr 1; omega
              · congr 1; omega
            have hmin : ∀ a b : Int, spec_l00Min a b = some (min a b) := fun a b => by unfold spec_l00Min; split <;> congr 1 <;> omega
            rw [if_pos (by omega), pls_at hd.2.2 (by omega), Option.bind_some, pls_at hn (by omega), Option.bind_some, w64_id (n := plc d.Round d.Slits i - plc d.Round n k) (by omega) (by omega), hs, Option.bind_some, w64_id (n := d.Round - _) (by omega) (by omega), hmin, Option.bind_some, hmin, Option.bind_some, w64_id (by omega) (by omega)]
            congr 3
            simp only [nr]; omega
          · simp only; rw [if_neg (by omega)]
          · rw [w64_id (n := (i : Int) + 1) (by omega) (by omega)]
            refine wp_ite (fun h => ?_) (fun h => ?_)
            · exact wp_some (by rw [ws, if_pos h]; rfl)
            · exact wp_some (by rw [ws, if_neg h]; rfl)
        · simp only; rw [if_neg (by omega)]
    · simp only [hd, decide_true, if_true]
      rw [decide_eq_false hn, if_neg hn]
      exact ⟨rfl, rfl⟩
  · rw [decide_eq_false hd, if_neg hd]
    exact ⟨rfl, rfl⟩
/- texts -/
def dtx (d : GDrum) : List UInt8 := txt d.Round ++ 120 :: (txt d.High ++ 47 :: txt d.Slits)
theorem no_byte {n : Int} {c : UInt8} (h : c.toNat ≠ 45 ∧ ¬ dig c) : c ∉ txt n := fun hm => (txt_mem hm).elim h.1 h.2
theorem no120 (n : Int) : (120 : UInt8) ∉ txt n := no_byte ⟨by decide, fun h => absurd h.2 (by decide)⟩
theorem no47 (n : Int) : (47 : UInt8) ∉ txt n := no_byte ⟨by decide, fun h => absurd h.1 (by decide)⟩
def dtR (d : GDrum) : List UInt8 := if drumOk d then dtx d else []
section
variable {d : GDrum} (hd : drumOk d)
include hd
theorem dtx_len : (txt d.Round).length ≤ 19 ∧ (txt d.High).length ≤ 19 ∧ (txt d.Slits).length ≤ 19 := by
  obtain ⟨h1, h2, h3⟩ := hd
  exact ⟨txt_len (by omega) (by omega), txt_len (by omega) (by omega), txt_len (by omega) (by omega)⟩
end
theorem DrumText_eq (d : GDrum) : impl_DrumText d = some (dtR d) := by
  unfold impl_DrumText dtR
  rw [ValidDrum_eq, Option.bind_some]
  by_cases hd : drumOk d
  · obtain ⟨a, b, c⟩ := dtx_len hd
    have hd' := hd
    obtain ⟨h1, h2, h3⟩ := hd'
    rw [decide_eq_true hd, if_pos rfl, if_pos hd, Decimal_eq (by omega) (by omega), Option.bind_some, app_ok (by simp; omega), Option.bind_some, Decimal_eq (by omega) (by omega), Option.bind_some, app_ok (by simp; omega), Option.bind_some, app_ok (by simp; omega), Option.bind_some, Decimal_eq (by omega) (by omega), Option.bind_some, app_ok (by simp; omega), Option.bind_some]
    simp [dtx]
  · rw [decide_eq_false hd, if_neg (by simp), if_neg hd]
theorem l07Text_eq {d : GDrum} (hd : drumOk d) : spec_l07Text d = some (dtx d) := by
  obtain ⟨a, b, c⟩ := dtx_len hd
  obtain ⟨h1, h2, h3⟩ := hd
  unfold spec_l07Text
  rw [l01Dec_eq (by omega) (by omega), Option.bind_some, app_ok (by simp; omega), Option.bind_some, l01Dec_eq (by omega) (by omega), Option.bind_some, app_ok (by simp; omega), Option.bind_some, app_ok (by simp; omega), Option.bind_some, l01Dec_eq (by omega) (by omega), Option.bind_some, app_ok (by simp; omega), Option.bind_some]
  simp [dtx]
theorem spec_DrumText_eq (d : GDrum) : spec_DrumText d = some (dtR d) := by
  unfold spec_DrumText dtR
  rw [l07Ok_eq, Option.bind_some]
  by_cases hd : drumOk d
  · rw [decide_eq_true hd, if_pos rfl, if_pos hd, l07Text_eq hd]; rfl
  · rw [decide_eq_false hd, if_neg (by simp), if_neg hd]
/-- how a text reads as a drum -/
def RDr (s : List UInt8) (r : GDrum × Bool) : Prop := (∃ d, drumOk d ∧ s = dtx d ∧ r = (d, true)) ∨ ((∀ d, drumOk d → s ≠ dtx d) ∧ r = (GDrum.mk 0 0 0, false))
theorem dtx_inj {d e : GDrum} (hd : drumOk d) (he : drumOk e) (h : dtx d = dtx e) : d = e := by
  unfold dtx at h
  have key : ∀ {c : UInt8} {a b a' b' : List UInt8}, c ∉ a → c ∉ a' → a ++ c :: b = a' ++ c :: b' → a = a' ∧ b = b' := by
    intro c a
    induction a with
    | nil =>
      intro b a' b' _ h2 h3
      cases a' with
      | nil => simpa using h3
      | cons x a' => simp only [List.nil_append, List.cons_append, List.cons.injEq] at h3; exact absurd (by rw [h3.1]; simp) h2
    | cons y a ih =>
      intro b a' b' h1 h2 h3
      cases a' with
      | nil => simp only [List.nil_append, List.cons_append, List.cons.injEq] at h3; exact absurd (by rw [h3.1]; simp) h1
      | cons x a' =>
        simp only [List.cons_append, List.cons.injEq] at h3
        simp only [List.mem_cons, not_or] at h1 h2
        obtain ⟨e1, e2⟩ := ih h1.2 h2.2 h3.2
        exact ⟨by rw [h3.1, e1], e2⟩
  obtain ⟨a1, a2⟩ := key (no120 _) (no120 _) h
  obtain ⟨b1, b2⟩ := key (no47 _) (no47 _) a2
  obtain ⟨h1, h2, h3⟩ := hd
  obtain ⟨k1, k2, k3⟩ := he
  have c1 := txt_inj (by omega) (by omega) (by omega) (by omega) a1
  have c2 := txt_inj (by omega) (by omega) (by omega) (by omega) b1
  have c3 := txt_inj (by omega) (by omega) (by omega) (by omega) b2
  cases d; cases e; simp only at c1 c2 c3; subst c1 c2 c3; rfl
theorem RDr.unique {s : List UInt8} {r r' : GDrum × Bool} (h : RDr s r) (h' : RDr s r') : r = r' := by
  rcases h with ⟨d, h1, h2, rfl⟩ | ⟨h1, rfl⟩
  · rcases h' with ⟨e, k1, k2, rfl⟩ | ⟨k1, rfl⟩
    · rw [dtx_inj h1 k1 (h2.symm.trans k2)]
    · exact absurd h2 (k1 d h1)
  · rcases h' with ⟨e, k1, k2, rfl⟩ | ⟨k1, rfl⟩
    · exact absurd k2 (h1 e k1)
    · rfl
theorem ReadDrum_ok (s : List UInt8) (hl : s.length ≤ 1000000) : ∃ r, impl_ReadDrum s = some r ∧ RDr s r := by
  unfold impl_ReadDrum
  -- the parts
  obtain ⟨a, b, f, hc, hf⟩ : ∃ a b f, strings_Cut s [120] = some (a, b, f) ∧ ((f = true ∧ s = a ++ 120 :: b) ∨ (f = false ∧ (120 : UInt8) ∉ s ∧ a = s ∧ b = [])) := by
    rcases Cut_any (c := 120) hl with ⟨h1, h2⟩ | ⟨a, b, h1, h2, h3⟩
    · exact ⟨_, _, _, h2, .inr ⟨rfl, h1, rfl, rfl⟩⟩
    · exact ⟨_, _, _, h3, .inl ⟨rfl, h1⟩⟩
  have hbl : b.length ≤ 1000000 := by
    rcases hf with ⟨_, e⟩ | ⟨_, _, _, e⟩
    · rw [e] at hl; simp at hl; omega
    · rw [e]; simp
  obtain ⟨c, e, f2, hc2, hf2⟩ : ∃ a b' f, strings_Cut b [47] = some (a, b', f) ∧ ((f = true ∧ b = a ++ 47 :: b') ∨ (f = false ∧ (47 : UInt8) ∉ b ∧ a = b ∧ b' = [])) := by
    rcases Cut_any (c := 47) hbl with ⟨h1, h2⟩ | ⟨a, b, h1, h2, h3⟩
    · exact ⟨_, _, _, h2, .inr ⟨rfl, h1, rfl, rfl⟩⟩
    · exact ⟨_, _, _, h3, .inl ⟨rfl, h1⟩⟩
  obtain ⟨r3, e3, p3⟩ := ReadDecimal_ok a
  obtain ⟨r4, e4, p4⟩ := ReadDecimal_ok c
  obtain ⟨r5, e5, p5⟩ := ReadDecimal_ok e
  rw [hc, Option.bind_some]
  simp only
  rw [hc2, Option.bind_some, e3, Option.bind_some]
  simp only
  rw [e4, Option.bind_some, e5, Option.bind_some]
  by_cases hex : ∃ d, drumOk d ∧ s = dtx d
  · obtain ⟨d, hd, rfl⟩ := hex
    obtain ⟨l1, l2, l3⟩ := dtx_len hd
    have hx : strings_Cut (dtx d) [120] = some (txt d.Round, txt d.High ++ 47 :: txt d.Slits, true) := Cut_app (no120 _) (by simp; omega)
    rw [hc] at hx; simp only [Option.some.injEq, Prod.mk.injEq] at hx
    obtain ⟨rfl, rfl, rfl⟩ := hx
    have hy : strings_Cut (txt d.High ++ 47 :: txt d.Slits) [47] = some (txt d.High, txt d.Slits, true) := Cut_app (no47 _) (by omega)
    rw [hc2] at hy; simp only [Option.some.injEq, Prod.mk.injEq] at hy
    obtain ⟨rfl, rfl, rfl⟩ := hy
    obtain ⟨h1, h2, h3⟩ := hd
    have q3 := p3.unique (.inl ⟨d.Round, by omega, by omega, rfl, rfl⟩)
    have q4 := p4.unique (.inl ⟨d.High, by omega, by omega, rfl, rfl⟩)
    have q5 := p5.unique (.inl ⟨d.Slits, by omega, by omega, rfl, rfl⟩)
    subst q3 q4 q5
    refine ⟨(d, true), ?_, .inl ⟨d, ⟨h1, h2, h3⟩, rfl, rfl⟩⟩
    simp only [if_true]
    rw [DrumText_eq]
    unfold dtR
    rw [if_pos (show drumOk (GDrum.mk d.Round d.High d.Slits) from ⟨h1, h2, h3⟩)]
    simp [dtx]
  · have hno : ∀ d, drumOk d → s ≠ dtx d := fun d hd e => hex ⟨d, hd, e⟩
    refine ⟨(GDrum.mk 0 0 0, false), ?_, .inr ⟨hno, rfl⟩⟩
    by_cases g3 : r3.2 = true
    · rw [if_pos g3]
      by_cases g4 : r4.2 = true
      · rw [if_pos g4]
        by_cases g5 : r5.2 = true
        · rw [if_pos g5, DrumText_eq, Option.bind_some]
          have hne : (dtR (GDrum.mk r3.1 r4.1 r5.1) == s) = false := by
            refine beq_eq_false_iff_ne.2 fun he => ?_
            unfold dtR at he
            split at he
            · rename_i hd; exact hno _ hd he.symm
            · -- nothing reads as nothing
              subst he
              rcases hf with ⟨_, e0⟩ | ⟨_, _, e0, _⟩
              · simp at e0
              · subst e0
                rcases p3 with ⟨n, _, _, e1, _⟩ | ⟨_, e1⟩
                · exact txt_ne n e1.symm
                · rw [e1] at g3; cases g3
          rw [hne]; rfl
        · rw [if_neg g5]; rfl
      · rw [if_neg g4]; rfl
    · rw [if_neg g3]; rfl
theorem spec_ReadDrum_ok (s : List UInt8) (hl : s.length ≤ 1000000) : ∃ r, spec_ReadDrum s = some r ∧ RDr s r := by
  unfold spec_ReadDrum
  have h47 := l01Split_eq (c := 47) hl
  have h47' : spec_l01Split s 47 = some (spl 47 s) := h47
  rw [h47', Option.bind_some]
  -- a drum's text has two parts, and these
  have hparts : ∀ d, drumOk d → s = dtx d → spl 47 s = [txt d.Round ++ 120 :: txt d.High, txt d.Slits] ∧ spl 120 (txt d.Round ++ 120 :: txt d.High) = [txt d.Round, txt d.High] := by
    intro d hd e
    refine ⟨?_, by rw [spl_app (no120 _), spl_no (no120 _)]⟩
    rw [e, dtx, show txt d.Round ++ 120 :: (txt d.High ++ 47 :: txt d.Slits) = (txt d.Round ++ 120 :: txt d.High) ++ 47 :: txt d.Slits by simp, spl_app (by
      simp only [List.mem_append, List.mem_cons, not_or]
      exact ⟨no47 _, by decide, no47 _⟩), spl_no (no47 _)]
  by_cases h2 : ((spl 47 s).length : Int) = 2
  · rw [if_pos h2]
    obtain ⟨u, v, huv⟩ : ∃ u v, spl 47 s = [u, v] := by
      match hq : spl 47 s, h2 with
      | [u, v], _ => exact ⟨u, v, rfl⟩
      | [], h => simp at h
      | [_], h => simp at h
      | _ :: _ :: _ :: _, h => simp at h; omega
    obtain ⟨es, hu, hv⟩ := spl_two huv
    have hul : u.length ≤ 1000000 := by rw [es] at hl; simp at hl; omega
    have hvl : v.length ≤ 1000000 := by rw [es] at hl; simp at hl; omega
    have a0 : at? (spl 47 s) 0 = some u := by rw [huv]; rfl
    have a1 : at? (spl 47 s) 1 = some v := by rw [huv]; rfl
    rw [a0, Option.bind_some]
    have h120 : spec_l01Split u 120 = some (spl 120 u) := l01Split_eq (c := 120) hul
    rw [h120, Option.bind_some]
    by_cases h3 : ((spl 120 u).length : Int) = 2
    · rw [if_pos h3]
      obtain ⟨x, y, hxy⟩ : ∃ x y, spl 120 u = [x, y] := by
        match hq : spl 120 u, h3 with
        | [x, y], _ => exact ⟨x, y, rfl⟩
        | [], h => simp at h
        | [_], h => simp at h
        | _ :: _ :: _ :: _, h => simp at h; omega
      obtain ⟨eu, hx, hy⟩ := spl_two hxy
      have b0 : at? (spl 120 u) 0 = some x := by rw [hxy]; rfl
      have b1 : at? (spl 120 u) 1 = some y := by rw [hxy]; rfl
      obtain ⟨r3, e3, p3⟩ := l01Number_ok x (by rw [eu] at hul; simp at hul; omega)
      obtain ⟨r4, e4, p4⟩ := l01Number_ok y (by rw [eu] at hul; simp at hul; omega)
      obtain ⟨r5, e5, p5⟩ := l01Number_ok v hvl
      rw [b0, Option.bind_some, e3, Option.bind_some, b1, Option.bind_some, e4, Option.bind_some, a1, Option.bind_some, e5, Option.bind_some, l07Ok_eq]
      simp only [Option.bind_some]
      by_cases hex : ∃ d, drumOk d ∧ s = dtx d
      · obtain ⟨d, hd, hs⟩ := hex
        obtain ⟨q1, q2⟩ := hparts d hd hs
        rw [huv] at q1
        simp only [List.cons.injEq, and_true] at q1
        obtain ⟨rfl, rfl⟩ := q1
        rw [hxy] at q2
        simp only [List.cons.injEq, and_true] at q2
        obtain ⟨rfl, rfl⟩ := q2
        have hd' := hd
        obtain ⟨h1, h2, h3⟩ := hd'
        have q3 := p3.unique (.inl ⟨d.Round, by omega, by omega, rfl, rfl⟩)
        have q4 := p4.unique (.inl ⟨d.High, by omega, by omega, rfl, rfl⟩)
        have q5 := p5.unique (.inl ⟨d.Slits, by omega, by omega, rfl, rfl⟩)
        subst q3 q4 q5
        refine ⟨(d, true), ?_, .inl ⟨d, hd, hs, rfl⟩⟩
        simp only [if_true]
        rw [decide_eq_true (show drumOk (GDrum.mk d.Round d.High d.Slits) from ⟨h1, h2, h3⟩)]
        rfl
      · have hno : ∀ d, drumOk d → s ≠ dtx d := fun d hd e => hex ⟨d, hd, e⟩
        refine ⟨(GDrum.mk 0 0 0, false), ?_, .inr ⟨hno, rfl⟩⟩
        by_cases g3 : r3.2 = true
        · rw [if_pos g3]
          by_cases g4 : r4.2 = true
          · rw [if_pos g4]
            by_cases g5 : r5.2 = true
            · rw [if_pos g5]
              have hnd : ¬ drumOk (GDrum.mk r3.1 r4.1 r5.1) := by
                intro hd
                refine hno _ hd ?_
                rcases p3 with ⟨n3, _, _, i3, rfl⟩ | ⟨_, i3⟩
                · rcases p4 with ⟨n4, _, _, i4, rfl⟩ | ⟨_, i4⟩
                  · rcases p5 with ⟨n5, _, _, i5, rfl⟩ | ⟨_, i5⟩
                    · rw [es, eu, i3, i4, i5]; simp [dtx]
                    · rw [i5] at g5; cases g5
                  · rw [i4] at g4; cases g4
                · rw [i3] at g3; cases g3
              rw [decide_eq_false hnd]; rfl
            · rw [if_neg g5]; rfl
          · rw [if_neg g4]; rfl
        · rw [if_neg g3]; rfl
    · rw [if_neg h3]
      refine ⟨_, rfl, .inr ⟨fun d hd e => h3 ?_, rfl⟩⟩
      obtain ⟨q1, q2⟩ := hparts d hd e
      rw [huv] at q1
      simp only [List.cons.injEq, and_true] at q1
      rw [q1.1, q2]; rfl
  · rw [if_neg h2]
    refine ⟨_, rfl, .inr ⟨fun d hd e => h2 ?_, rfl⟩⟩
    rw [(hparts d hd e).1]; rfl
/- draws -/
theorem DrawPlacesOf_ok {code : List Int} (hc : okL (okI .u8) code) (hl : code.length ≤ 1000000) : ∃ d n, spec_DrawPlacesOf code = some (d, n) := by
  have key : wp (spec_DrawPlacesOf code) fun _ => True := by
    unfold spec_DrawPlacesOf spec_l07With
    rw [Option.bind_assoc]
    refine wp_from hc hl fun s h => ?_
    obtain ⟨d, s1, e1, h1⟩ := l07Bent_ok h (by omega)
    rw [Option.bind_assoc, e1, Option.bind_some, Option.bind_assoc]
    refine wp_one h1 (by omega) fun b s2 h2 => ?_
    simp only
    cases b with
    | true =>
      simp only [if_true]
      rw [Option.bind_assoc]
      exact wp_among h2 (by omega) (by simp) (by simp) fun v s3 _ _ => wp_some trivial
    | false =>
      simp only [Bool.false_eq_true, if_false]
      rw [Option.bind_assoc]
      exact wp_pick h2 (by omega) fun v s3 _ _ _ => wp_some trivial
  obtain ⟨⟨d, n⟩, h, _⟩ := key
  exact ⟨d, n, h⟩
theorem DrawPiecesFor_ok {code : List Int} (hc : okL (okI .u8) code) (hl : code.length ≤ 1000000) : ∃ d g n, spec_DrawPiecesFor code = some (d, g, n) := by
  have key : wp (spec_DrawPiecesFor code) fun _ => True := by
    unfold spec_DrawPiecesFor
    refine wp_from hc hl fun s h => ?_
    obtain ⟨d, s1, e1, h1⟩ := l07Bent_ok h (by omega)
    rw [e1, Option.bind_some]
    obtain ⟨g, s2, e2, h2⟩ := l07DrawGlue_ok h1 (by omega)
    simp only
    rw [e2, Option.bind_some]
    refine wp_one h2 (by omega) fun b s3 h3 => ?_
    refine wp_bif (fun _ => ?_) (fun _ => ?_)
    · exact wp_among h3 (by omega) (by simp) (by simp) fun v s4 _ _ => wp_some trivial
    · exact wp_pick h3 (by omega) fun v s4 _ _ _ => wp_some trivial
  obtain ⟨⟨d, g, n⟩, h, _⟩ := key
  exact ⟨d, g, n, h⟩
theorem wp_textD {α : Type} {B : Int} {s : GL00Src} {l : List (List UInt8)} {k : List UInt8 × GL00Src → Option α} {Q : α → Prop} (h : SrcOk B s) (hB : B ≤ 4611686018427387000) (hl : 1 ≤ l.length) (hl2 : l.length ≤ 1000) (hk : ∀ v s', v ∈ l → SrcOk (B + 2) s' → wp (k (v, s')) Q) : wp ((spec_l00Src_text s l).bind k) Q := by
  unfold spec_l00Src_text
  rw [Option.bind_assoc]
  refine wp_pick h hB fun v s' v0 v1 h2 => ?_
  have hv : v.toNat < l.length := by omega
  rw [at_ok v0 hv, Option.bind_some, Option.bind_some]
  exact hk _ _ (List.getElem_mem hv) h2
theorem l01Spoil_ok {B : Int} {s : GL00Src} {t : List UInt8} (h : SrcOk B s) (hB : B ≤ 1000000) (ht : t.length ≤ 100000) : wp (spec_l01Spoil s t) fun r => r.1.length ≤ t.length + 1 ∧ SrcOk (B + 6) r.2 := by
  unfold spec_l01Spoil
  refine wp_pick h (by omega) fun a s1 a0 a1 h1 => ?_
  refine wp_ite (fun _ => ?_) (fun _ => ?_)
  · rw [w64_id (by omega) (by omega)]
    refine wp_pick h1 (by omega) fun b s2 b0 b1 h2 => ?_
    simp only
    rw [sub_ok (by omega) (by omega) (by omega), Option.bind_some]
    refine wp_textD h2 (by omega) (by simp) (by simp) fun x s3 hx h3 => ?_
    have hxl : x.length = 1 := by
      simp only [List.mem_cons, List.not_mem_nil, or_false] at hx
      rcases hx with rfl | rfl | rfl | rfl | rfl | rfl | rfl <;> rfl
    simp only
    rw [app_ok (by simp; omega), Option.bind_some, sub_ok (by omega) (by omega) (by omega), Option.bind_some, app_ok (by simp; omega), Option.bind_some]
    exact wp_some ⟨by simp; omega, h3.mono (by omega)⟩
  · refine wp_ite (fun _ => ?_) (fun _ => wp_some ⟨by simp, h1.mono (by omega)⟩)
    refine wp_bif (fun _ => wp_some ⟨by simp, h1.mono (by omega)⟩) (fun hne => ?_)
    have hpos : 1 ≤ t.length := by
      cases t with
      | nil => simp at hne
      | cons x t => simp
    refine wp_pick h1 (by omega) fun b s2 b0 b1 h2 => ?_
    simp only
    rw [sub_ok (by omega) (by omega) (by omega), Option.bind_some, w64_id (by omega) (by omega), sub_ok (by omega) (by omega) (by omega), Option.bind_some, app_ok (by simp; omega), Option.bind_some]
    exact wp_some ⟨by simp; omega, h2.mono (by omega)⟩
theorem DrawReadDrum_ok {code : List Int} (hc : okL (okI .u8) code) (hl : code.length ≤ 1000000) : wp (spec_DrawReadDrum code) fun s => s.length ≤ 1000000 := by
  unfold spec_DrawReadDrum
  refine wp_from hc hl fun s h => ?_
  unfold spec_l07New
  simp only [Option.bind_assoc]
  refine wp_pick h (by omega) fun a s1 a0 a1 h1 => wp_pick h1 (by omega) fun b s2 b0 b1 h2 => wp_pick h2 (by omega) fun c s3 c0 c1 h3 => ?_
  simp only [Option.bind_some]
  rw [w64_id (n := 10 * a) (by omega) (by omega), w64_id (n := 300 + 10 * a) (by omega) (by omega), w64_id (n := 10 * b) (by omega) (by omega), w64_id (n := 60 + 10 * b) (by omega) (by omega), w64_id (n := 1 + c) (by omega) (by omega)]
  have hd : drumOk (GDrum.mk (300 + 10 * a) (60 + 10 * b) (1 + c)) := ⟨by simp only; omega, by simp only; omega, by simp only; omega⟩
  obtain ⟨l1, l2, l3⟩ := dtx_len hd
  have hlen : (dtx (GDrum.mk (300 + 10 * a) (60 + 10 * b) (1 + c))).length ≤ 60 := by
    simp only [dtx, List.length_append, List.length_cons] at l1 l2 l3 ⊢; omega
  rw [l07Text_eq hd, Option.bind_some]
  refine wp_one h3 (by omega) fun q s4 h4 => ?_
  refine wp_bif (fun _ => ?_) (fun _ => wp_some (by omega))
  refine wp_seq (l01Spoil_ok h4 (by omega) (by omega)) ?_
  rintro ⟨x, s5⟩ ⟨hx, _⟩
  exact wp_some (by simp only at hx ⊢; omega)
theorem f6intsD (a b : List Int) (ha : a.length < 9223372036854775807) : laws_f6ints a b = some (decide (a = b)) := by
  have := eqSp a b ha
  unfold laws_f6ints
  exact this
theorem laws_FnDrums_true {code : List Int} (hc : okL (okI .u8) code) : laws_FnDrums code = some true := by
  refine eq_of_wp ?_
  unfold laws_FnDrums laws_f6big
  rw [Option.bind_some]
  refine wp_bif (fun _ => wp_some rfl) (fun hbig => ?_)
  have hl : code.length ≤ 1000000 := by simp at hbig; omega
  obtain ⟨d, n, e2⟩ := DrawPlacesOf_ok hc hl
  rw [e2, Option.bind_some]
  simp only
  rw [(PlacesOf_eq d n).1, Option.bind_some, (PlacesOf_eq d n).2, Option.bind_some, (SlitPlaces_eq d).1, Option.bind_some, (SlitPlaces_eq d).2, Option.bind_some]
  obtain ⟨a, g, l, e7⟩ := DrawPiecesFor_ok hc hl
  rw [e7, Option.bind_some]
  simp only
  obtain ⟨r8, e8, e9, hP⟩ := PiecesFor_same a g l
  rw [e8, Option.bind_some, e9, Option.bind_some, (WorstSlit_eq d n).1, Option.bind_some, (WorstSlit_eq d n).2, Option.bind_some]
  obtain ⟨b, e12⟩ : ∃ b, spec_DrawDrumText code = some b := by
    unfold spec_DrawDrumText
    rw [l00From_eq, Option.bind_some]
    obtain ⟨b, s1, e1, _⟩ := l07Bent_ok (srcOk_from hc hl) (by omega)
    rw [e1]; exact ⟨b, rfl⟩
  rw [e12, Option.bind_some, DrumText_eq, Option.bind_some]
  have hbl : (dtR b).length ≤ 1000000 := by
    unfold dtR
    split
    · rename_i hb
      obtain ⟨l1, l2, l3⟩ := dtx_len hb
      simp only [dtx, List.length_append, List.length_cons]; omega
    · simp
  obtain ⟨r14, e14, p14⟩ := ReadDrum_ok (dtR b) hbl
  rw [e14, Option.bind_some]
  refine wp_seq (DrawReadDrum_ok hc hl) ?_
  intro s hs
  obtain ⟨r16, e16, p16⟩ := ReadDrum_ok s hs
  obtain ⟨r17, e17, p17⟩ := spec_ReadDrum_ok s hs
  have h1617 := p16.unique p17
  subst h1617
  rw [e16, Option.bind_some, e17, Option.bind_some, f6intsD _ _ (by
    unfold plR; split
    · split
      · rename_i h1 h2; simp only; rw [pls_len]; omega
      · simp
    · simp), f6intsD _ _ (by
    unfold slR; split
    · rename_i h1; simp only; rw [pls_len]; have := h1.2.2; omega
    · simp), spec_DrumText_eq]
  have hvd : spec_ValidDrum d = some (decide (drumOk d)) := by unfold spec_ValidDrum; rw [l07Ok_eq]; rfl
  have h14 : (r14.2 == !(dtR b == [])) = true ∧ (r14.2 = true → r14.1 = b) := by
    by_cases hb : drumOk b
    · have hdt : dtR b = dtx b := if_pos hb
      have := p14.unique (.inl ⟨b, hb, hdt, rfl⟩)
      subst this
      refine ⟨?_, fun _ => rfl⟩
      rw [hdt]; simp [dtx]
    · have hdt : dtR b = [] := if_neg hb
      have := p14.unique (.inr ⟨fun e _ he => by rw [hdt] at he; simp [dtx] at he, rfl⟩)
      subst this
      rw [hdt]
      exact ⟨rfl, fun h => by simp at h⟩
  simp only [decide_true, if_true, Option.bind_some, beq_self_eq_true, h14.1, Bool.and_self]
  rw [ValidDrum_eq, hvd]
  simp only [Option.bind_some, beq_self_eq_true, Bool.not_true]
  have hx1 : (if r14.2 = true then (if (r14.1.Round == b.Round && (r14.1.High == b.High && (r14.1.Slits == b.Slits && true))) = true then some false else some true) else some false) = some false := by
    by_cases h : r14.2 = true
    · rw [if_pos h, h14.2 h]; simp
    · rw [if_neg h]
  rw [hx1, Option.bind_some]
  simp only [Bool.false_eq_true, if_false]
  -- pieces cover the drum
  have hx2 : (if r8.2 = 0 then (if w64 (r8.1 * w64 (l - g)) < a.Round then some true else some (decide (w64 (w64 (r8.1 - 1) * w64 (l - g)) ≥ a.Round))) else some false) = some false := by
    by_cases h : r8.2 = 0
    · obtain ⟨q1, q2, q3, q4, q5⟩ := hP h
      obtain ⟨⟨r1, r2⟩, _⟩ := q1
      have m1 := mul_bd (a := r8.1) (b := l - g) (A := 20000) (B := 10000) (by omega) (by omega) (by omega) (by omega)
      have m2 := mul_bd (a := r8.1 - 1) (b := l - g) (A := 20000) (B := 10000) (by omega) (by omega) (by omega) (by omega)
      rw [if_pos h, w64_id (n := l - g) (by omega) (by omega), w64_id (n := r8.1 * (l - g)) (by omega) (by omega), w64_id (n := r8.1 - 1) (by omega) (by omega), w64_id (n := (r8.1 - 1) * (l - g)) (by omega) (by omega), if_neg (by omega), decide_eq_false (by omega)]
    · rw [if_neg h]
  rw [hx2, Option.bind_some]
  simp only [Bool.false_eq_true, if_false]
  -- the worst slit
  have hx3 : (if (wsR d n).2.2 = 0 then (if (wsR d n).2.1 < 0 then some true else if w64 (2 * (wsR d n).2.1) > w64 (d.Round + 1) then some true else some (decide ((wsR d n).1 ≥ d.Slits))) else some false) = some false := by
    by_cases h : (wsR d n).2.2 = 0
    · unfold wsR at h ⊢
      by_cases hd : drumOk d
      · rw [if_pos hd] at h ⊢
        by_cases hn : 1 ≤ n ∧ n ≤ 48
        · rw [if_pos hn]
          obtain ⟨r1, r2⟩ := hd.1
          obtain ⟨s1, s2⟩ := hd.2.2
          have hw := ws_bd (f := fun i => nr d.Round n (plc d.Round d.Slits i) n.toNat) (M := d.Round / 2) (k := d.Slits.toNat) (fun i hi => by
            have := nr_bd hd.1 hn (plc_bd hd.1 hd.2.2 (k := i) (by omega)) (k := n.toNat) (by omega)
            have h3 := this.2.2 (by omega)
            exact ⟨this.1, by omega⟩) (by omega)
          rw [if_pos rfl]
          generalize ws (fun i => nr d.Round n (plc d.Round d.Slits i) n.toNat) d.Slits.toNat = w at hw ⊢
          simp only
          rw [if_neg (by omega), w64_id (n := 2 * w.2) (by omega) (by omega), w64_id (n := d.Round + 1) (by omega) (by omega), if_neg (by omega), decide_eq_false (by omega)]
        · rw [if_neg hn] at h; simp at h
      · rw [if_neg hd] at h; simp at h
    · rw [if_neg h]
  rw [hx3, Option.bind_some]
  simp only [Bool.false_eq_true, if_false]
  -- places rise
  refine wp_ite (fun h => ?_) (fun _ => wp_some rfl)
  unfold plR at h ⊢
  by_cases hd : drumOk d
  · rw [if_pos hd] at h ⊢
    by_cases hn : 1 ≤ n ∧ n ≤ 48
    · rw [if_pos hn]
      have hlen := pls_len (R := d.Round) (n := n)
      simp only
      rw [if_pos (by omega), rising_pls hd.1 hn, Option.bind_some, if_pos rfl]
      have a0 : at? (pls d.Round n) 0 = some 0 := by
        have a0 := pls_at (R := d.Round) hn (k := 0) (by omega)
        rw [plc_zero hn] at a0
        exact a0
      rw [a0, Option.bind_some, if_pos rfl, w64_id (by omega) (by omega)]
      have e1 : (((pls d.Round n).length : Nat) : Int) - 1 = ((n.toNat - 1 : Nat) : Int) := by omega
      rw [e1, pls_at hn (by omega), Option.bind_some]
      have := plc_bd hd.1 hn (k := n.toNat - 1) (by omega)
      exact wp_some (by simpa using this.2)
    · rw [if_neg hn] at h; simp at h
  · rw [if_neg hd] at h; simp at h
end Go.Vs.G

