/- Plain facts about the typed functions, up to the law: no program in sight. No conditions. -/
import Derived.Test.YtiefnapeghkjnaaV5
import Derived.Test.YtiefnapeghkjnaaDLLoops
namespace Go.Vs
open Go

section
variable {α β S B R : Type}

open Classical in
/-- a loop that looks at each round for a reason to stop -/
theorem scan {body : Int → Option (Step Int Unit R)} {kb : Unit → Option β} {kr : R → Option β} {s n : Nat} {c : Nat → Bool} {r : R} (hs : s ≤ n) (hn : n < 9223372036854775807)
    (hb : ∀ i : Nat, s ≤ i → i < n → body (i : Int) = some (if c i = true then .next ((i : Int) + 1) else .ret r)) (he : body (n : Int) = some (.brk ())) :
    onL (loop body loopLim (s : Int)) kb kr = if ∀ i, s ≤ i → i < n → c i = true then kb () else kr r := by
  by_cases h : ∀ i, s ≤ i → i < n → c i = true
  · rw [if_pos h]
    have := loop_brk (body := body) (fun j => ((s + j : Nat) : Int)) (b := ()) (n - s) (by omega) (fun j hj => by
      rw [hb (s + j) (by omega) (by omega), if_pos (h _ (by omega) (by omega))]; congr 2) (by rw [show s + (n - s) = n by omega]; exact he)
    simp only [Nat.add_zero] at this
    rw [this]; rfl
  · rw [if_neg h]
    have hex : ∃ k, s ≤ k ∧ k < n ∧ c k = false := by
      refine Classical.byContradiction fun hc => h fun i h1 h2 => ?_
      cases hci : c i with
      | true => rfl
      | false => exact absurd ⟨i, h1, h2, hci⟩ hc
    -- the first of them
    have hleast : ∃ k, (s ≤ k ∧ k < n ∧ c k = false) ∧ ∀ j, s ≤ j → j < k → c j = true := by
      obtain ⟨k, hk⟩ := hex
      induction k using Nat.strongRecOn with
      | _ k ih =>
        by_cases hall : ∀ j, s ≤ j → j < k → c j = true
        · exact ⟨k, hk, hall⟩
        · have : ∃ j, s ≤ j ∧ j < k ∧ c j = false := by
            refine Classical.byContradiction fun hc => hall fun i h1 h2 => ?_
            cases hci : c i with
            | true => rfl
            | false => exact absurd ⟨i, h1, h2, hci⟩ hc
          obtain ⟨j, h1, h2, h3⟩ := this
          exact ih j h2 ⟨h1, by omega, h3⟩
    obtain ⟨k, ⟨h1, h2, h3⟩, h4⟩ := hleast
    have := loop_ret' (body := body) (fun j => ((s + j : Nat) : Int)) (r := r) (k - s) (by omega) (fun j hj => by
      rw [hb (s + j) (by omega) (by omega), if_pos (h4 _ (by omega) (by omega))]; congr 2) (by
      rw [show s + (k - s) = k by omega, hb k h1 h2, h3]; rfl)
    simp only [Nat.add_zero] at this
    rw [this]; rfl
theorem w64_succ {i n : Nat} (h : i < n) (hn : n < 9223372036854775807) : w64 ((i : Int) + 1) = (i : Int) + 1 := w64_id (by omega) (by omega)
theorem at_of {l : List α} {i : Nat} (h : i < l.length) : at? l (i : Int) = some l[i] := at_nat h
/-- comparisons element by element -/
theorem eqS {f : α → α → Option Bool} {c : α → α → Bool} (a b : List α) (hf : ∀ x, x ∈ a → ∀ y, y ∈ b → f x y = some (c x y)) (ha : a.length < 9223372036854775807) :
    (if (a.length : Int) = (b.length : Int) then (onL (loop (S := Int) (B := Unit) (R := Bool) (fun (i1 : Int) => if i1 < (a.length : Int) then
      ((at? a i1).bind fun v1 => (at? b i1).bind fun v2 => (f v1 v2).bind fun r1 => if r1 then (some (.next (w64 (i1 + 1)))) else some (.ret false)) else some (.brk ())) loopLim 0) (fun (_ : Unit) => some true) (fun r => some r)) else some false)
      = some (decide (a.length = b.length) && (List.zipWith c a b).all id) := by
  by_cases hl : a.length = b.length
  · rw [if_pos (by omega)]
    have := scan (body := fun (i1 : Int) => if i1 < (a.length : Int) then
      ((at? a i1).bind fun v1 => (at? b i1).bind fun v2 => (f v1 v2).bind fun r1 => if r1 then (some (.next (w64 (i1 + 1)))) else some (.ret false)) else some (.brk ()))
      (kb := fun (_ : Unit) => some true) (kr := fun r => some r) (s := 0) (n := a.length) (c := fun i => if h : i < a.length ∧ i < b.length then c a[i] b[i] else true) (r := false) (by omega) ha ?_ (by simp)
    · simp only [Int.natCast_zero] at this
      refine this.trans ?_
      split
      · rename_i h
        congr 1
        symm
        simp only [Bool.and_eq_true, decide_eq_true_eq, hl, true_and, List.all_eq_true, id]
        intro x hx
        obtain ⟨i, hi, rfl⟩ := List.getElem_of_mem hx
        simp only [List.length_zipWith] at hi
        have := h i (by omega) (by omega)
        simpa [show i < a.length ∧ i < b.length by omega] using this
      · rename_i h
        congr 1
        symm
        simp only [Bool.and_eq_false_iff]
        right
        refine Classical.byContradiction fun hc => h fun i _ hi => ?_
        have hall : (List.zipWith c a b).all id = true := by simpa using hc
        rw [List.all_eq_true] at hall
        have hi2 : i < a.length ∧ i < b.length := ⟨hi, by omega⟩
        have := hall (c a[i] b[i]) (by
          rw [List.mem_iff_getElem]
          exact ⟨i, by simp; omega, by simp⟩)
        simpa [hi2] using this
    · intro i _ hi
      have hib : i < b.length := by omega
      have h1 : (i : Int) < (a.length : Int) := by omega
      simp only [h1, if_true, at_of hi, at_of hib, Option.bind_some, hf _ (List.getElem_mem hi) _ (List.getElem_mem hib), hi, hib, and_self, dite_true]
      split
      · rw [w64_id (by omega) (by omega)]
      · rfl
  · rw [if_neg (by omega)]
    simp [hl]
theorem zip_eq [DecidableEq α] {c : α → α → Bool} (hc : ∀ x y, c x y = decide (x = y)) : ∀ (a b : List α), (decide (a.length = b.length) && (List.zipWith c a b).all id) = decide (a = b)
  | [], [] => by simp
  | [], _ :: _ => by simp
  | _ :: _, [] => by simp
  | x :: a, y :: b => by
    have ih := zip_eq hc a b
    simp only [List.length_cons, Nat.add_right_cancel_iff, List.zipWith_cons_cons, List.all_cons, id, List.cons.injEq, hc] at ih ⊢
    by_cases hxy : x = y
    · simp [hxy, ih]
    · simp [hxy]
end
/-- the same with a proposition for a test -/
theorem eqSp {α : Type} [DecidableEq α] (a b : List α) (ha : a.length < 9223372036854775807) :
    (if (a.length : Int) = (b.length : Int) then (onL (loop (S := Int) (B := Unit) (R := Bool) (fun (i1 : Int) => if i1 < (a.length : Int) then
      ((at? a i1).bind fun v1 => (at? b i1).bind fun v2 => if v1 = v2 then (some (.next (w64 (i1 + 1)))) else some (.ret false)) else some (.brk ())) loopLim 0) (fun (_ : Unit) => some true) (fun r => some r)) else some false)
      = some (decide (a = b)) := by
  rw [← zip_eq (c := fun x y => decide (x = y)) (fun _ _ => rfl), ← eqS (f := fun x y => some (decide (x = y))) (c := fun x y => decide (x = y)) a b (fun _ _ _ _ => rfl) ha]
  congr 3
  funext i
  split
  · congr 1; funext v1; congr 1; funext v2
    simp only [Option.bind_some, decide_eq_true_eq]
  · rfl
end Go.Vs

namespace Go.Vs.G
open Go Go.Vs

/-- a source that can still be asked; B bounds the place that it has come to -/
structure SrcOk (B : Int) (s : GL00Src) : Prop where
  bytes : ∀ x, x ∈ s.code → 0 ≤ x ∧ x ≤ 255
  len : s.code.length ≤ 1000000
  at0 : 0 ≤ s.at_
  atB : s.at_ ≤ B
theorem SrcOk.mono {B B' : Int} {s : GL00Src} (h : SrcOk B s) (hB : B ≤ B') : SrcOk B' s := ⟨h.bytes, h.len, h.at0, Int.le_trans h.atB hB⟩
theorem srcOk_from {code : List Int} (h : okL (okI .u8) code) (hl : code.length ≤ 1000000) : SrcOk 0 (GL00Src.mk code 0 0) :=
  ⟨fun x hx => okU8 (h.2 x hx), hl, by simp, by simp⟩
theorem shr40 (n : Int) : shr? .u64 n 40 = some (n.fdiv (2 ^ 40)) := by
  simp [shr?, IntKind.bits]
theorem and255 (n : Int) : 0 ≤ bit_and .u64 n 255 ∧ bit_and .u64 n 255 ≤ 255 := by
  unfold bit_and
  rw [wu64_def]
  have h : (BitVec.ofInt IntKind.u64.bits n &&& BitVec.ofInt IntKind.u64.bits 255).toNat ≤ 255 := by
    rw [BitVec.toNat_and]
    exact Nat.le_trans Nat.and_le_right (by decide)
  omega
theorem next_ok {B : Int} {s : GL00Src} (h : SrcOk B s) (hB : B ≤ 4611686018427387904) : ∃ v s', spec_l00Src_next s = some (v, s') ∧ 0 ≤ v ∧ v ≤ 255 ∧ SrcOk (B + 1) s' := by
  have h1 := h.at0
  have h2 := h.atB
  have h3 := h.len
  have hat : w64 (s.at_ + 1) = s.at_ + 1 := w64_id (by omega) (by omega)
  have hb : ∃ b, (if s.at_ < (s.code.length : Int) then ((at? s.code s.at_).bind fun v1 => some (w64 v1)) else some 0) = some b ∧ 0 ≤ b ∧ b ≤ 255 := by
    split
    · rename_i hlt
      rw [at_ok h1 (by omega), Option.bind_some]
      obtain ⟨g1, g2⟩ := h.bytes s.code[s.at_.toNat] (List.getElem_mem (by omega))
      exact ⟨_, rfl, by rw [w64_id (by omega) (by omega)]; omega, by rw [w64_id (by omega) (by omega)]; omega⟩
    · exact ⟨0, rfl, by omega, by omega⟩
  obtain ⟨b, hb, b0, b1⟩ := hb
  unfold spec_l00Src_next
  rw [hb, Option.bind_some, hat]
  split
  · exact ⟨_, _, rfl, b0, b1, ⟨h.bytes, h.len, by simp only; omega, by simp only; omega⟩⟩
  · rw [shr40, Option.bind_some]
    have := and255 ((IntKind.wrap .u64 ((IntKind.wrap .u64 ((IntKind.wrap .u64 (s.seed * 6364136223846793005)) + (IntKind.wrap .u64 b))) + 1442695040888963407)).fdiv (2 ^ 40))
    exact ⟨_, _, rfl, by rw [w64_id (by omega) (by omega)]; omega, by rw [w64_id (by omega) (by omega)]; omega, ⟨h.bytes, h.len, by simp only; omega, by simp only; omega⟩⟩
theorem pick_ok {B : Int} {s : GL00Src} (h : SrcOk B s) (hB : B ≤ 4611686018427387000) (n : Int) : ∃ v s', spec_l00Src_pick s n = some (v, s') ∧ 0 ≤ v ∧ (v = 0 ∨ v < n) ∧ SrcOk (B + 2) s' := by
  unfold spec_l00Src_pick
  by_cases hn : n ≤ 1
  · rw [if_pos hn]; exact ⟨0, s, rfl, by omega, .inl rfl, h.mono (by omega)⟩
  · rw [if_neg hn]
    obtain ⟨v, s1, e1, v0, v1, k1⟩ := next_ok h (by omega)
    rw [e1, Option.bind_some]
    by_cases h2 : n > 200
    · rw [if_pos h2]
      obtain ⟨u, s2, e2, u0, u1, k2⟩ := next_ok k1 (by omega)
      simp only
      rw [e2, Option.bind_some, mod_ok (by omega), Option.bind_some, w64_id (n := v * 256) (by omega) (by omega), w64_id (by simp only; omega) (by simp only; omega)]
      have e : (v * 256 + u).tmod n = (v * 256 + u) % n := Int.tmod_eq_emod_of_nonneg (by omega)
      refine ⟨_, _, rfl, ?_, ?_, by rw [show B + 2 = B + 1 + 1 by omega]; exact k2⟩
      · simp only [e]; exact Int.emod_nonneg _ (by omega)
      · simp only [e]; right; exact Int.emod_lt_of_pos _ (by omega)
    · rw [if_neg h2, mod_ok (by omega), Option.bind_some]
      simp only
      have e : v.tmod n = v % n := Int.tmod_eq_emod_of_nonneg (by omega)
      refine ⟨_, _, rfl, ?_, ?_, k1.mono (by omega)⟩
      · rw [e]; exact Int.emod_nonneg _ (by omega)
      · rw [e]; right; exact Int.emod_lt_of_pos _ (by omega)
/-- one of some numbers -/
theorem among_ok {B : Int} {s : GL00Src} (h : SrcOk B s) (hB : B ≤ 4611686018427387000) {l : List Int} (hl : 1 ≤ l.length) (hl2 : l.length ≤ 1000) : ∃ v s', spec_l00Src_among s l = some (v, s') ∧ v ∈ l ∧ SrcOk (B + 2) s' := by
  unfold spec_l00Src_among
  obtain ⟨v, s1, e1, v0, v1, k1⟩ := pick_ok h hB (l.length : Int)
  rw [e1, Option.bind_some]
  simp only
  rw [at_ok v0 (by omega), Option.bind_some]
  exact ⟨_, _, rfl, List.getElem_mem _, k1⟩
end Go.Vs.G

namespace Go.Vs.G
open Go Go.Vs

theorem gcd_tmod (a b : Int) : Int.gcd b (a.tmod b) = Int.gcd a b := by
  rw [Int.gcd_comm b, Int.gcd, Int.natAbs_tmod, Int.gcd, Nat.gcd_comm a.natAbs, Nat.gcd_rec b.natAbs a.natAbs]
theorem tmod_lt (a b : Int) (hb : b ≠ 0) : (a.tmod b).natAbs < b.natAbs := by
  rw [Int.natAbs_tmod]; exact Nat.mod_lt _ (by omega)
theorem gcdLoop {a b : Int} {kb : Int → Option Int} {kr : Empty → Option Int} {Q : Int → Prop} (hb : b.natAbs < 9223372036854775808)
    (hk : ∀ g : Int, g.natAbs = Int.gcd a b → (0 ≤ a → 0 ≤ b → 0 ≤ g) → wp (kb g) Q) :
    wp (onL (loop (S := (Int × Int)) (B := Int) (R := Empty) (fun ((a2, b2) : Int × Int) => if b2 = 0 then (some (.brk a2)) else (mod? a2 b2).bind fun q1 => some (.next (b2, q1))) loopLim (a, b)) kb kr) Q := by
  refine wp_loop (fun s : Int × Int => Int.gcd s.1 s.2 = Int.gcd a b ∧ s.2.natAbs ≤ b.natAbs ∧ (0 ≤ a → 0 ≤ b → 0 ≤ s.1 ∧ 0 ≤ s.2)) (fun s => s.2.natAbs) ⟨rfl, Nat.le_refl _, fun h1 h2 => ⟨h1, h2⟩⟩ (by simp only; omega) ?_
  rintro ⟨a2, b2⟩ ⟨h1, h2, h3⟩
  simp only at h1 h2 h3 ⊢
  refine wp_ite (fun h => ?_) (fun h => ?_)
  · subst h
    exact wp_some (hk a2 (by rw [← h1]; simp) (fun g1 g2 => (h3 g1 g2).1))
  · rw [mod_ok h, Option.bind_some]
    have ht := tmod_lt a2 b2 h
    refine wp_some ⟨⟨by simp only; rw [gcd_tmod, h1], by simp only; omega, fun g1 g2 => ⟨(h3 g1 g2).2, Int.tmod_nonneg _ (h3 g1 g2).1⟩⟩, by simp only; omega⟩
theorem gcd_le {a b : Int} {B : Nat} (ha : a.natAbs ≤ B) (hb : b.natAbs ≤ B) : Int.gcd a b ≤ B := by
  by_cases h : a = 0
  · subst h; simpa using hb
  · exact Nat.le_trans (Nat.gcd_le_left _ (by omega)) ha
theorem impl_gcd_eq {a b : Int} (ha : a.natAbs ≤ 9223372036854775807) (hb : b.natAbs ≤ 9223372036854775807) : impl_gcd a b = some (Int.gcd a b : Int) := by
  refine eq_of_wp ?_
  unfold impl_gcd
  refine gcdLoop (by omega) fun g hg _ => wp_some ?_
  have := gcd_le ha hb
  rw [imax_def, w64_id (by omega) (by omega)]; omega
theorem spec_l00Gcd_eq {a b : Int} (ha : 0 ≤ a) (hb : 0 ≤ b) (hb2 : b.natAbs ≤ 9223372036854775807) : spec_l00Gcd a b = some (Int.gcd a b : Int) := by
  refine eq_of_wp ?_
  unfold spec_l00Gcd
  refine gcdLoop (by omega) fun g hg h0 => wp_some ?_
  have := h0 ha hb
  omega
/-- f is n / d in lowest terms -/
structure Red (n d : Int) (f : GFraction) : Prop where
  pos : 0 < f.Den
  cop : Int.gcd f.Num f.Den = 1
  eq : f.Num * d = n * f.Den
theorem dvd_of_cop {a b c : Int} (h : Int.gcd a b = 1) (hd : b ∣ a * c) : b ∣ c := by
  rw [← Int.natAbs_dvd_natAbs] at hd ⊢
  rw [Int.natAbs_mul] at hd
  have : Nat.Coprime b.natAbs a.natAbs := by rw [Nat.coprime_comm]; exact h
  exact this.dvd_of_dvd_mul_left hd
theorem Red.unique {f g : GFraction} (hf : 0 < f.Den) (hg : 0 < g.Den) (cf : Int.gcd f.Num f.Den = 1) (cg : Int.gcd g.Num g.Den = 1) (h : f.Num * g.Den = g.Num * f.Den) : f = g := by
  have h1 : f.Den ∣ g.Den := dvd_of_cop cf ⟨g.Num, by rw [h, Int.mul_comm]⟩
  have h2 : g.Den ∣ f.Den := dvd_of_cop cg ⟨f.Num, by rw [← h, Int.mul_comm]⟩
  have hd : f.Den = g.Den := Int.le_antisymm (Int.le_of_dvd hg h1) (Int.le_of_dvd hf h2)
  have hn : f.Num = g.Num := by
    rw [hd] at h
    exact Int.eq_of_mul_eq_mul_right (by omega) h
  cases f; cases g
  simp_all
theorem pos_of_mul {g q : Int} (hg : 0 < g) (h : 0 < g * q) : 0 < q := by
  refine Classical.byContradiction fun hc => ?_
  have := Int.mul_nonneg (a := g) (b := -q) (by omega) (by omega)
  rw [Int.mul_neg] at this
  omega
theorem div_gcd {a b : Int} (g : Int) (hg : 0 < g) (hgd : g = (Int.gcd a b : Int)) : ∃ p q, a = g * p ∧ b = g * q ∧ Int.gcd p q = 1 := by
  have h1 : g ∣ a := by rw [hgd]; exact Int.gcd_dvd_left ..
  have h2 : g ∣ b := by rw [hgd]; exact Int.gcd_dvd_right ..
  obtain ⟨p, rfl⟩ := h1
  obtain ⟨q, rfl⟩ := h2
  refine ⟨p, q, rfl, rfl, ?_⟩
  rw [Int.gcd_mul_left] at hgd
  have h3 : (g.natAbs : Int) = g := by omega
  have h4 : g.natAbs * 1 = g.natAbs * p.gcd q := by
    have : (g.natAbs * p.gcd q : Nat) = g.natAbs := by omega
    omega
  exact (Nat.eq_of_mul_eq_mul_left (by omega) h4).symm
end Go.Vs.G

namespace Go.Vs.G
open Go Go.Vs

theorem Red.same {n d : Int} {f g : GFraction} (hf : Red n d f) (hg : Red n d g) (hd : d ≠ 0) : f = g := by
  refine Red.unique hf.pos hg.pos hf.cop hg.cop ?_
  have e1 := hf.eq
  have e2 := hg.eq
  refine Int.eq_of_mul_eq_mul_left (a := d) hd ?_
  calc d * (f.Num * g.Den) = (f.Num * d) * g.Den := by simp only [Int.mul_assoc, Int.mul_comm, Int.mul_left_comm]
    _ = (g.Num * d) * f.Den := by rw [e1, e2]; simp only [Int.mul_assoc, Int.mul_comm, Int.mul_left_comm]
    _ = d * (g.Num * f.Den) := by simp only [Int.mul_assoc, Int.mul_comm, Int.mul_left_comm]
/- counting -/
/- the same on both sides -/
/- draws -/
theorem one_ok {B : Int} {s : GL00Src} (h : SrcOk B s) (hB : B ≤ 4611686018427387000) (n : Int) : ∃ v s', spec_l00Src_one s n = some (v, s') ∧ SrcOk (B + 2) s' := by
  unfold spec_l00Src_one
  obtain ⟨v, s1, e1, _, _, k1⟩ := pick_ok h hB n
  rw [e1]; exact ⟨_, _, rfl, k1⟩
end Go.Vs.G

namespace Go.Vs
open Go

section
variable {α β γ R : Type}

/-- the same, with a start -/
theorem mapS' {f : Int → Option β} (g : Nat → β) (n : Nat) (hf : ∀ i : Nat, i < n → f (i : Int) = some (g i)) (hl : n ≤ 4294967296)
    {body : List β × Int → Option (Step (List β × Int) (List β) R)} {kb : List β → Option γ} {kr : R → Option γ}
    (hb : ∀ (out : List β) (i : Int), body (out, i) = if i < (n : Int) then ((f i).bind fun r => (app? out ([r] : List β)).bind fun l1 => some (.next (l1, w64 (i + 1)))) else some (.brk out)) :
    onL (loop body loopLim ([], 0)) kb kr = kb (tab g n) := by
  have := loop_brk (body := body) (fun j : Nat => (tab g j, (j : Int))) (b := tab g n) n (by omega) (fun j hj => by
    rw [hb, if_pos (by omega), hf j hj, Option.bind_some, app_ok (by simp; omega), Option.bind_some, w64_id (by omega) (by omega), tab_succ]
    congr 3) (by rw [hb, if_neg (by omega)])
  simp only [tab_zero, Int.natCast_zero] at this
  rw [this]; rfl
/-- a list of which all fit, asked by a loop -/
theorem allS {f : α → Option Bool} (c : α → Bool) (l : List α) (hf : ∀ x, x ∈ l → f x = some (c x)) (hl : l.length < 9223372036854775807) {r : R}
    {body : Int → Option (Step Int Unit R)} {kb : Unit → Option γ} {kr : R → Option γ}
    (hb : ∀ (i : Int), body i = if i < (l.length : Int) then ((at? l i).bind fun v => (f v).bind fun q => if q = true then some (.next (w64 (i + 1))) else some (.ret r)) else some (.brk ())) :
    onL (loop body loopLim 0) kb kr = if ∀ x, x ∈ l → c x = true then kb () else kr r := by
  have := scan (body := body) (kb := kb) (kr := kr) (s := 0) (n := l.length) (c := fun i => if h : i < l.length then c l[i] else true) (r := r) (by omega) hl (fun i _ hi => by
    rw [hb, if_pos (by omega), at_of hi, Option.bind_some, hf _ (List.getElem_mem hi), Option.bind_some, w64_id (by omega) (by omega)]
    simp only [hi, dif_pos]
    cases c l[i] <;> rfl) (by rw [hb, if_neg (by omega)])
  simp only [Int.natCast_zero] at this
  rw [this]
  have e : (∀ i, 0 ≤ i → i < l.length → (if h : i < l.length then c l[i] else true) = true) ↔ ∀ x, x ∈ l → c x = true := by
    constructor
    · intro h x hx
      obtain ⟨i, hi, rfl⟩ := List.getElem_of_mem hx
      have := h i (by omega) hi
      simpa [hi] using this
    · intro h i _ hi
      simp [hi, h _ (List.getElem_mem hi)]
  split
  · rename_i h; rw [if_pos (e.1 h)]
  · rename_i h; rw [if_neg (fun h2 => h (e.2 h2))]
/-- the library's IndexFunc -/
theorem idxFS {f : α → Option Bool} (c : α → Bool) (l : List α) (hf : ∀ x, x ∈ l → f x = some (c x)) (hl : l.length < 9223372036854775807)
    {body : Int → Option (Step Int Unit Int)}
    (hb : ∀ (i : Int), body i = if i < (l.length : Int) then ((at? l i).bind fun v => (f v).bind fun r => if r = true then some (.ret i) else some (.next (w64 (i + 1)))) else some (.brk ())) :
    wp (onL (loop body loopLim 0) (fun (_ : Unit) => some (-1 : Int)) (fun r => some r)) fun r => (r = -1 ∧ l.any c = false) ∨ (∃ k : Nat, r = (k : Int) ∧ ∃ h : k < l.length, c l[k] = true ∧ (∀ j (h2 : j < k), c (l[j]'(by omega)) = false) ∧ l.any c = true) := by
  refine wp_loop (fun t : Int => ∃ k : Nat, t = (k : Int) ∧ k ≤ l.length ∧ ∀ j (h2 : j < k) (h3 : j < l.length), c l[j] = false) (fun t => (l.length - t).toNat) ⟨0, rfl, by omega, fun j hj => by omega⟩ (by omega) ?_
  rintro i ⟨k, rfl, hk, hall⟩
  rw [hb]
  refine wp_ite (fun h => ?_) (fun h => ?_)
  · have hk2 : k < l.length := by omega
    rw [at_of hk2, Option.bind_some, hf _ (List.getElem_mem hk2), Option.bind_some]
    refine wp_ite (fun h3 => ?_) (fun h3 => ?_)
    · exact wp_some (wp_some (.inr ⟨k, rfl, hk2, h3, fun j hj => hall j hj (by omega), List.any_eq_true.2 ⟨_, List.getElem_mem hk2, h3⟩⟩))
    · rw [w64_succ hk2 (by omega)]
      refine wp_some ⟨⟨k + 1, rfl, by omega, fun j hj hj2 => ?_⟩, by omega⟩
      rcases Nat.lt_or_ge j k with h4 | h4
      · exact hall j h4 hj2
      · obtain rfl : j = k := by omega
        simpa using h3
  · obtain rfl : k = l.length := by omega
    refine wp_some (wp_some (.inl ⟨rfl, ?_⟩))
    refine Bool.eq_false_iff.2 fun hc => ?_
    obtain ⟨x, hx, hx2⟩ := List.any_eq_true.1 hc
    obtain ⟨j, hj, rfl⟩ := List.getElem_of_mem hx
    rw [hall j hj hj] at hx2
    cases hx2
/-- the library's ContainsFunc -/
theorem contS {f : α → Option Bool} (c : α → Bool) (l : List α) (hf : ∀ x, x ∈ l → f x = some (c x)) (hl : l.length < 9223372036854775807)
    {body : Int → Option (Step Int Unit Int)}
    (hb : ∀ (i : Int), body i = if i < (l.length : Int) then ((at? l i).bind fun v => (f v).bind fun r => if r = true then some (.ret i) else some (.next (w64 (i + 1)))) else some (.brk ())) :
    ((onL (loop body loopLim 0) (fun (_ : Unit) => some (-1 : Int)) (fun r => some r)).bind fun r => some (decide (r ≥ 0))) = some (l.any c) := by
  obtain ⟨r, h1, h2⟩ := idxFS c l hf hl hb
  rw [h1, Option.bind_some]
  rcases h2 with ⟨rfl, h⟩ | ⟨k, rfl, _, _, _, h⟩
  · rw [h]; rfl
  · rw [h, decide_eq_true (by omega)]
/-- a loop whose state at each round is told -/
theorem wp_cnt {S B : Type} {Q : γ → Prop} {body : S → Option (Step S B R)} {kb : B → Option γ} {kr : R → Option γ} {s0 : S} (st : Nat → S) (n : Nat) (h0 : s0 = st 0) (hn : n < 18446744073709551616)
    (hs : ∀ k, k < n → body (st k) = some (.next (st (k + 1)))) {b : B} (he : body (st n) = some (.brk b)) (hq : wp (kb b) Q) : wp (onL (loop body loopLim s0) kb kr) Q := by
  rw [h0, loop_brk st n hn hs he]; exact hq
end
end Go.Vs

namespace Go.Vs
theorem wp_seq {α β : Type} {A : Option β} {k : β → Option α} {P : β → Prop} {Q : α → Prop} (h : wp A P) (hk : ∀ x, P x → wp (k x) Q) : wp (A.bind k) Q := by
  obtain ⟨x, rfl, hx⟩ := h; exact hk x hx
end Go.Vs
namespace Go.Vs.G
open Go Go.Vs

section
variable {α : Type} {Q : α → Prop} {B : Int} {s : GL00Src}
theorem wp_pick {n : Int} {k : Int × GL00Src → Option α} (h : SrcOk B s) (hB : B ≤ 4611686018427387000) (hk : ∀ v s', 0 ≤ v → (v = 0 ∨ v < n) → SrcOk (B + 2) s' → wp (k (v, s')) Q) : wp ((spec_l00Src_pick s n).bind k) Q := by
  obtain ⟨v, s', e, h0, h1, h2⟩ := pick_ok h hB n
  rw [e]; exact hk v s' h0 h1 h2
theorem wp_one {n : Int} {k : Bool × GL00Src → Option α} (h : SrcOk B s) (hB : B ≤ 4611686018427387000) (hk : ∀ v s', SrcOk (B + 2) s' → wp (k (v, s')) Q) : wp ((spec_l00Src_one s n).bind k) Q := by
  obtain ⟨v, s', e, h2⟩ := one_ok h hB n
  rw [e]; exact hk v s' h2
theorem wp_among {l : List Int} {k : Int × GL00Src → Option α} (h : SrcOk B s) (hB : B ≤ 4611686018427387000) (hl : 1 ≤ l.length) (hl2 : l.length ≤ 1000) (hk : ∀ v s', v ∈ l → SrcOk (B + 2) s' → wp (k (v, s')) Q) : wp ((spec_l00Src_among s l).bind k) Q := by
  obtain ⟨v, s', e, h1, h2⟩ := among_ok h hB hl hl2
  rw [e]; exact hk v s' h1 h2
theorem wp_from {code : List Int} {k : GL00Src → Option α} (h : okL (okI .u8) code) (hl : code.length ≤ 1000000) (hk : ∀ s, SrcOk 0 s → wp (k s) Q) : wp ((spec_l00From code).bind k) Q := hk _ (srcOk_from h hl)
theorem wp_bif {b : Bool} {A A' : Option α} (h1 : b = true → wp A Q) (h2 : b = false → wp A' Q) : wp (if b = true then A else A') Q := by
  cases b
  · exact h2 rfl
  · exact h1 rfl
end
end Go.Vs.G

namespace Go.Vs
open Go
section
variable {α : Type} [Inhabited α]
def gd (l : List α) (i : Nat) : α := l.getD i default
theorem gd_of {l : List α} {i : Nat} (h : i < l.length) : gd l i = l[i] := by unfold gd; simp [h]
theorem at_gd {l : List α} {i : Nat} (h : i < l.length) : at? l (i : Int) = some (gd l i) := by rw [at_of h, gd_of h]
theorem gd_mem {l : List α} {i : Nat} (h : i < l.length) : gd l i ∈ l := by rw [gd_of h]; exact List.getElem_mem h
theorem mem_gd {l : List α} {x : α} (h : x ∈ l) : ∃ i, i < l.length ∧ x = gd l i := by
  obtain ⟨i, hi, rfl⟩ := List.getElem_of_mem h; exact ⟨i, hi, (gd_of hi).symm⟩
theorem gd_tab {f : Nat → α} {n i : Nat} (h : i < n) : gd (tab f n) i = f i := by rw [gd_of (by simpa using h)]; simp [tab]
theorem gd_append {l m : List α} {i : Nat} : gd (l ++ m) i = if i < l.length then gd l i else gd m (i - l.length) := by
  unfold gd; rw [List.getD_eq_getElem?_getD, List.getElem?_append]; split <;> rfl
theorem ext_gd {l m : List α} (hl : l.length = m.length) (h : ∀ i, i < l.length → gd l i = gd m i) : l = m := by
  refine List.ext_getElem hl fun i h1 h2 => ?_
  have := h i h1
  rwa [gd_of h1, gd_of h2] at this
theorem tab_gd (l : List α) : tab (gd l) l.length = l := (eq_tab l default).symm
end
end Go.Vs
namespace Go.Vs.G
open Go Go.Vs
def vpt (p : GPoint) : Bool := decide (0 ≤ p.X ∧ p.X ≤ 1000) && decide (0 ≤ p.Y ∧ p.Y ≤ 1000)
def vps (j : List GPoint) : Bool := decide (1 ≤ j.length ∧ j.length ≤ 8) && j.all vpt
theorem within_d (n a b : Int) : impl_within n a b = some (decide (a ≤ n ∧ n ≤ b)) := by
  unfold impl_within
  by_cases h : n ≥ a
  · rw [if_pos h]; exact congrArg some (decide_eq_decide.2 (by omega))
  · rw [if_neg h, decide_eq_false (by omega)]
theorem l00In_d (n a b : Int) : spec_l00In n a b = some (decide (a ≤ n ∧ n ≤ b)) := by
  unfold spec_l00In
  by_cases h : n ≥ a
  · rw [if_pos h]; exact congrArg some (decide_eq_decide.2 (by omega))
  · rw [if_neg h, decide_eq_false (by omega)]
/- what lies between -/
section
variable {a b : List GPoint} (ha : vps a = true) (hb : vps b = true) (hl : a.length = b.length) {p n : Int} (hp : 0 ≤ p ∧ p ≤ n) (hn : 1 ≤ n ∧ n ≤ 10000)
include ha hb hl hp hn
end
end Go.Vs.G

namespace Go.Vs
open Go
/-- a sum -/
def sm (f : Nat → Int) : Nat → Int
  | 0 => 0
  | k + 1 => sm f k + f k
theorem sm_bd {f : Nat → Int} {lo hi : Int} : ∀ {k : Nat}, (∀ i, i < k → lo ≤ f i ∧ f i ≤ hi) → lo * k ≤ sm f k ∧ sm f k ≤ hi * k
  | 0, _ => by simp [sm]
  | k + 1, h => by
    have h1 := sm_bd (k := k) fun i hi => h i (by omega)
    have h2 := h k (by omega)
    rw [sm, Int.natCast_succ, Int.mul_add, Int.mul_add]; omega
theorem sm_congr {f g : Nat → Int} : ∀ {k : Nat}, (∀ i, i < k → f i = g i) → sm f k = sm g k
  | 0, _ => rfl
  | k + 1, h => by rw [sm, sm, sm_congr fun i hi => h i (by omega), h k (by omega)]
/-- steps around a ring add up to nothing -/
theorem sm_ring (g : Nat → Int) (n : Nat) : ∀ k, k < n → sm (fun i => g ((i + 1) % n) - g i) k = g k - g 0
  | 0, _ => by simp [sm]
  | k + 1, h => by rw [sm, sm_ring g n k (by omega), Nat.mod_eq_of_lt h]; omega
theorem sm_ring0 (g : Nat → Int) {n : Nat} (hn : 1 ≤ n) : sm (fun i => g ((i + 1) % n) - g i) n = 0 := by
  obtain ⟨k, rfl⟩ : ∃ k, n = k + 1 := ⟨n - 1, by omega⟩
  rw [sm, sm_ring g (k + 1) k (by omega), Nat.mod_self]; omega
/-- a loop that adds up -/
theorem sumL {γ R : Type} (f : Nat → Int) (n : Nat) (hf : ∀ i, i < n → -2000 ≤ f i ∧ f i ≤ 2000) (hn : n ≤ 1000)
    {body : Int × Int → Option (Step (Int × Int) Int R)} {kb : Int → Option γ} {kr : R → Option γ}
    (hb : ∀ (k : Nat) (s : Int), k < n → body (s, (k : Int)) = some (.next (w64 (s + f k), w64 ((k : Int) + 1)))) (he : ∀ s : Int, body (s, (n : Int)) = some (.brk s)) :
    onL (loop body loopLim (0, 0)) kb kr = kb (sm f n) := by
  have := loop_brk (body := body) (fun k : Nat => (sm f k, (k : Int))) (b := sm f n) n (by omega) (fun k hk => by
    have h1 := sm_bd (k := k) fun i hi => hf i (by omega)
    have h2 := hf k hk
    rw [hb k _ hk, w64_id (by omega) (by omega), w64_id (by omega) (by omega)]; rfl) (he _)
  simp only [sm, Int.natCast_zero] at this
  rw [this]; rfl
/-- the first least -/
def am (S : Nat → Int) : Nat → Int × Int
  | 0 => (0, -1)
  | k + 1 => if (am S k).2 < 0 ∨ S k < (am S k).2 then ((k : Int), S k) else am S k
theorem am_spec {S : Nat → Int} (hS : ∀ i, 0 ≤ S i) : ∀ k, 1 ≤ k → ∃ y : Nat, y < k ∧ am S k = ((y : Int), S y) ∧ ∀ z, z < k → S y ≤ S z
  | 0, h => by omega
  | 1, _ => ⟨0, by omega, by rw [am, if_pos (.inl (by rw [am]; omega))], fun z hz => by obtain rfl : z = 0 := by omega
                                                                                        omega⟩
  | k + 2, _ => by
    obtain ⟨y, h1, h2, h3⟩ := am_spec hS (k + 1) (by omega)
    rw [am]
    have := hS y
    by_cases hc : (am S (k + 1)).2 < 0 ∨ S (k + 1) < (am S (k + 1)).2
    · rw [if_pos hc]
      rw [h2] at hc
      simp only at hc
      refine ⟨k + 1, by omega, rfl, fun z hz => ?_⟩
      rcases Nat.lt_or_ge z (k + 1) with hz2 | hz2
      · have := h3 z hz2; omega
      · obtain rfl : z = k + 1 := by omega
        omega
    · rw [if_neg hc, h2]
      rw [h2] at hc
      simp only at hc
      refine ⟨y, by omega, rfl, fun z hz => ?_⟩
      rcases Nat.lt_or_ge z (k + 1) with hz2 | hz2
      · exact h3 z hz2
      · obtain rfl : z = k + 1 := by omega
        omega
theorem at_mem {α : Type} {l : List α} {i : Int} {v : α} (h : at? l i = some v) : v ∈ l := by
  unfold at? at h
  split at h
  · exact List.mem_of_getElem? h
  · cases h
def ab (x : Int) : Int := if x < 0 then 0 - x else x
end Go.Vs
namespace Go.Vs.G
open Go Go.Vs
theorem apart_eq {a b : Int} (ha : -100000 ≤ a ∧ a ≤ 100000) (hb : -100000 ≤ b ∧ b ≤ 100000) : impl_apart a b = some (ab (a - b)) := by
  unfold impl_apart ab imax
  rw [w64_id (by omega) (by omega), w64_id (by omega) (by omega)]
  refine congrArg some ?_
  split <;> split <;> omega
theorem l00Size_eq {n : Int} (h : -1000000 ≤ n ∧ n ≤ 1000000) : spec_l00Size n = some (ab n) := by
  unfold spec_l00Size ab
  split
  · rw [w64_id (by omega) (by omega)]
  · rfl
theorem f6abs_eq {n : Int} (h : -1000000 ≤ n ∧ n ≤ 1000000) : laws_f6abs n = some (ab n) := by
  unfold laws_f6abs ab
  split
  · rw [w64_id (by omega) (by omega)]
  · rfl
def vlp (l : List Int) : Bool := decide (1 ≤ l.length ∧ l.length ≤ 60) && l.all fun x => decide (0 ≤ x ∧ x ≤ 1000)
theorem ValidLoop_eq {l : List Int} (hl : l.length ≤ 1000000) : impl_ValidLoop l = some (vlp l) := by
  unfold impl_ValidLoop vlp
  have hcf : slices_ContainsFunc_int64_int64_796 l (fun a0 => impl_ValidLoop_1 a0) = some (l.any fun p => !decide (0 ≤ p ∧ p ≤ 1000)) := by
    unfold slices_ContainsFunc_int64_int64_796 slices_IndexFunc_int64_int64_818
    refine contS (fun p => !decide (0 ≤ p ∧ p ≤ 1000)) l (fun p hp => ?_) (by omega) (fun _ => rfl)
    unfold impl_ValidLoop_1
    rw [within_d, Option.bind_some]
  rw [hcf, Option.bind_some]
  have e : (!l.any fun p => !decide (0 ≤ p ∧ p ≤ 1000)) = l.all fun p => decide (0 ≤ p ∧ p ≤ 1000) := by rw [List.not_any_eq_all_not]; simp
  rw [e]
  by_cases h1 : 1 ≤ l.length
  · by_cases h2 : l.length ≤ 60
    · rw [if_pos (by omega), if_pos (by omega), decide_eq_true ⟨h1, h2⟩, Bool.true_and]
    · rw [if_pos (by omega), if_neg (by omega), decide_eq_false (by omega), Bool.false_and]
  · rw [if_neg (by omega), decide_eq_false (by omega), Bool.false_and]
theorem l05Ok_eq {l : List Int} (hl : l.length ≤ 1000000) : spec_l05Ok l = some (vlp l) := by
  unfold spec_l05Ok
  rw [allS (fun x => decide (0 ≤ x ∧ x ≤ 1000)) l (f := fun x => some (decide (0 ≤ x ∧ x ≤ 1000))) (fun _ _ => rfl) (by omega) (r := false)]
  · rw [l00In_d, Option.bind_some]
    unfold vlp
    by_cases h : ∀ x, x ∈ l → decide (0 ≤ x ∧ x ≤ 1000) = true
    · rw [if_pos h, List.all_eq_true.2 h, Bool.and_true]; exact congrArg some (decide_eq_decide.2 (by omega))
    · rw [if_neg h]
      have : (l.all fun x => decide (0 ≤ x ∧ x ≤ 1000)) = false := by rw [Bool.eq_false_iff]; exact fun hc => h (List.all_eq_true.1 hc)
      rw [this, Bool.and_false]
  · intro i
    by_cases hi : i < (l.length : Int)
    · rw [if_pos hi, if_pos hi]
      cases ha : at? l i with
      | none => rfl
      | some v => simp only [Option.bind_some, l00In_d]
    · rw [if_neg hi, if_neg hi]
theorem vlp_len {l : List Int} (h : vlp l = true) : 1 ≤ l.length ∧ l.length ≤ 60 := by
  unfold vlp at h
  simp only [Bool.and_eq_true, decide_eq_true_eq, List.all_eq_true] at h
  exact h.1
theorem vlp_mem {l : List Int} (h : vlp l = true) {x : Int} (hx : x ∈ l) : 0 ≤ x ∧ x ≤ 1000 := by
  unfold vlp at h
  simp only [Bool.and_eq_true, decide_eq_true_eq, List.all_eq_true] at h
  exact h.2 x hx
theorem vlp_gd {l : List Int} (h : vlp l = true) {i : Nat} (hi : i < l.length) : 0 ≤ gd l i ∧ gd l i ≤ 1000 := vlp_mem h (gd_mem hi)
/- turned -/
def trn (l : List Int) (k : Nat) : List Int := tab (fun i => gd l ((i + k) % l.length)) l.length
theorem trn_len (l : List Int) (k : Nat) : (trn l k).length = l.length := by simp [trn]
theorem gd_trn {l : List Int} {k i : Nat} (hi : i < l.length) : gd (trn l k) i = gd l ((i + k) % l.length) := gd_tab hi
theorem trn_zero (l : List Int) : trn l 0 = l := by
  unfold trn
  refine Eq.trans (tab_congr fun i hi => ?_) (tab_gd l)
  rw [Nat.add_zero, Nat.mod_eq_of_lt hi]
theorem trn_bd {l : List Int} (h : vlp l = true) {k i : Nat} (hi : i < l.length) : 0 ≤ gd (trn l k) i ∧ gd (trn l k) i ≤ 1000 := by
  rw [gd_trn hi]; exact vlp_gd h (Nat.mod_lt _ (by omega))
theorem Concat2 {a b : List Int} (h1 : 1 ≤ a.length + b.length) (h2 : a.length + b.length ≤ 1000) : slices_Concat_int64_int64_793 [a, b] = some (a ++ b) := by
  unfold slices_Concat_int64_int64_793
  refine eq_of_wp ?_
  refine wp_cnt (fun k => match k with | 0 => ((0 : Int), (0 : Int)) | 1 => ((a.length : Int), 1) | _ => ((a.length + b.length : Int), 2)) 2 rfl (by omega) (fun k hk => ?_) (b := (a.length + b.length : Int)) ?_ ?_
  · match k, hk with
    | 0, _ =>
      simp only [List.length_cons, List.length_nil]
      rw [if_pos (by decide), show at? [a, b] 0 = some a from rfl, Option.bind_some, w64_id (n := (0 : Int) + a.length) (by omega) (by omega), if_neg (by omega), Int.zero_add]; rfl
    | 1, _ =>
      simp only [List.length_cons, List.length_nil]
      rw [if_pos (by decide), show at? [a, b] 1 = some b from rfl, Option.bind_some, w64_id (n := (a.length : Int) + b.length) (by omega) (by omega), if_neg (by omega)]; rfl
  · rfl
  · have hg : slices_Grow_int64 (a.length + b.length : Int) = some [] := by unfold slices_Grow_int64; rw [if_pos (by omega)]
    rw [hg, Option.bind_some]
    refine wp_cnt (fun k => match k with | 0 => (([] : List Int), (0 : Int)) | 1 => (a, 1) | _ => (a ++ b, 2)) 2 rfl (by omega) (fun k hk => ?_) (b := a ++ b) ?_ (wp_some rfl)
    · match k, hk with
      | 0, _ =>
        simp only [List.length_cons, List.length_nil]
        rw [if_pos (by decide), show at? [a, b] 0 = some a from rfl, Option.bind_some, app_ok (by simp; omega), Option.bind_some, List.nil_append]; rfl
      | 1, _ =>
        simp only [List.length_cons, List.length_nil]
        rw [if_pos (by decide), show at? [a, b] 1 = some b from rfl, Option.bind_some, app_ok (by omega), Option.bind_some]; rfl
    · rfl
theorem turnLoop_eq {l : List Int} (h1 : 1 ≤ l.length) (h2 : l.length ≤ 100) (k : Nat) : impl_turnLoop l (k : Int) = some (trn l k) := by
  unfold impl_turnLoop
  have hm : k % l.length < l.length := Nat.mod_lt _ (by omega)
  rw [mod_ok (by omega), show ((k : Int).tmod (l.length : Int)) = ((k % l.length : Nat) : Int) from rfl, Option.bind_some, sub_ok (by omega) (by omega) (by omega), sub_ok (by omega) (by omega) (by omega), Option.bind_some, Option.bind_some,
    Concat2 (by simp; omega) (by simp; omega), Option.bind_some]
  refine congrArg some (ext_gd (by rw [trn_len]; simp; omega) fun i hi => ?_)
  have hi : i < l.length := by simp at hi; omega
  rw [gd_trn hi]
  simp only [Int.toNat_natCast, List.take_length, Int.toNat_zero, List.drop_zero]
  rw [gd_append]
  split
  · rename_i hc
    rw [List.length_drop] at hc
    rw [show (i + k) % l.length = k % l.length + i by
      rw [Nat.add_mod, Nat.mod_eq_of_lt hi, Nat.mod_eq_of_lt (by omega)]; omega]
    unfold gd; rw [List.getD_eq_getElem?_getD, List.getD_eq_getElem?_getD, List.getElem?_drop]
  · rename_i hc
    rw [List.length_drop] at hc ⊢
    have e : (i + k) % l.length = i - (l.length - k % l.length) := by
      rw [Nat.add_mod, Nat.mod_eq_of_lt hi, show i + k % l.length = (i - (l.length - k % l.length)) + l.length by omega, Nat.add_mod_right, Nat.mod_eq_of_lt (by omega)]
    rw [e]
    unfold gd; rw [List.getD_eq_getElem?_getD, List.getD_eq_getElem?_getD, List.getElem?_take_of_lt (by omega)]
theorem l05Turned_eq {l : List Int} (h1 : 1 ≤ l.length) (h2 : l.length ≤ 100) {k : Nat} (hk : k ≤ 100) : spec_l05Turned l (k : Int) = some (trn l k) := by
  unfold spec_l05Turned trn
  refine mapS' (f := fun i => (mod? (w64 (i + (k : Int))) (l.length : Int)).bind fun q1 => at? l q1) (fun i => gd l ((i + k) % l.length)) l.length (fun i hi => ?_) (by omega) (fun out i => ?_)
  · rw [w64_id (by omega) (by omega), mod_ok (by omega), Option.bind_some, show ((i : Int) + (k : Int)).tmod (l.length : Int) = (((i + k) % l.length : Nat) : Int) from rfl]
    exact at_gd (Nat.mod_lt _ (by omega))
  · by_cases hi : i < (l.length : Int)
    · simp only [if_pos hi, Option.bind_assoc]
    · simp only [if_neg hi]
end Go.Vs.G

namespace Go.Vs.G
open Go Go.Vs
def stp (l : List Int) : List Int := tab (fun i => gd l ((i + 1) % l.length) - gd l i) l.length
theorem stp_len (l : List Int) : (stp l).length = l.length := by simp [stp]
theorem stp_bd {l : List Int} (h : vlp l = true) {i : Nat} (hi : i < l.length) : -1000 ≤ gd (stp l) i ∧ gd (stp l) i ≤ 1000 := by
  unfold stp
  rw [gd_tab hi]
  have h1 := vlp_gd h hi
  have h2 := vlp_gd h (Nat.mod_lt (i + 1) (show 0 < l.length by omega))
  omega
section
variable {l : List Int} (h : vlp l = true)
include h
theorem stepsOf_eq : impl_stepsOf l = some (stp l) := by
  obtain ⟨l1, l2⟩ := vlp_len h
  unfold impl_stepsOf stp
  refine mapS' (f := fun i => (at? l i).bind fun v1 => (mod? (w64 (i + 1)) (l.length : Int)).bind fun q1 => (at? l q1).bind fun v2 => some (w64 (v2 - v1))) (fun i => gd l ((i + 1) % l.length) - gd l i) l.length (fun i hi => ?_) (by omega) (fun out i => ?_)
  · have h1 := vlp_gd h hi
    have hm := Nat.mod_lt (i + 1) (show 0 < l.length by omega)
    have h2 := vlp_gd h hm
    rw [at_gd hi, Option.bind_some, w64_id (n := (i : Int) + 1) (by omega) (by omega), mod_ok (by omega), Option.bind_some, show ((i : Int) + 1).tmod (l.length : Int) = (((i + 1) % l.length : Nat) : Int) from rfl, at_gd hm, Option.bind_some, w64_id (by omega) (by omega)]
  · by_cases hi : i < (l.length : Int)
    · simp only [if_pos hi, Option.bind_assoc, Option.bind_some]
    · simp only [if_neg hi]
theorem l05Steps_eq : spec_l05Steps l = some (stp l) := by
  obtain ⟨l1, l2⟩ := vlp_len h
  unfold spec_l05Steps stp
  refine mapS' (f := fun i => (mod? (w64 (i + 1)) (l.length : Int)).bind fun q1 => (at? l q1).bind fun v1 => (at? l i).bind fun v2 => some (w64 (v1 - v2))) (fun i => gd l ((i + 1) % l.length) - gd l i) l.length (fun i hi => ?_) (by omega) (fun out i => ?_)
  · have h1 := vlp_gd h hi
    have hm := Nat.mod_lt (i + 1) (show 0 < l.length by omega)
    have h2 := vlp_gd h hm
    rw [w64_id (n := (i : Int) + 1) (by omega) (by omega), mod_ok (by omega), Option.bind_some, show ((i : Int) + 1).tmod (l.length : Int) = (((i + 1) % l.length : Nat) : Int) from rfl, at_gd hm, at_gd hi, Option.bind_some, Option.bind_some, w64_id (by omega) (by omega)]
  · by_cases hi : i < (l.length : Int)
    · simp only [if_pos hi, Option.bind_assoc, Option.bind_some]
    · simp only [if_neg hi]
theorem f6sum_stp : laws_f6sum (stp l) = some 0 := by
  obtain ⟨l1, l2⟩ := vlp_len h
  unfold laws_f6sum
  rw [sumL (fun i => gd (stp l) i) l.length (fun i hi => by have := stp_bd h hi; omega) (by omega) (fun k s hk => by
    simp only; rw [stp_len, if_pos (by omega), at_gd (by rw [stp_len]; exact hk), Option.bind_some]) (fun s => by simp only; rw [stp_len, if_neg (by omega)])]
  refine congrArg some ?_
  rw [sm_congr (g := fun i => gd l ((i + 1) % l.length) - gd l i) (fun i hi => by unfold stp; rw [gd_tab hi])]
  exact sm_ring0 (gd l) l1
end
theorem StepsOfLoop_same {l : List Int} (hl : l.length ≤ 1000) : ∃ r : List Int × Int, impl_StepsOfLoop l = some r ∧ spec_StepsOfLoop l = some r ∧ (r.2 = 0 → vlp l = true ∧ r.1 = stp l) ∧ r.1.length ≤ 1000 := by
  unfold impl_StepsOfLoop spec_StepsOfLoop
  rw [ValidLoop_eq (by omega), l05Ok_eq (by omega), Option.bind_some, Option.bind_some]
  by_cases hv : vlp l = true
  · rw [if_pos hv, if_pos hv, stepsOf_eq hv, l05Steps_eq hv]
    exact ⟨_, rfl, rfl, fun _ => ⟨hv, rfl⟩, by simpa [stp] using hl⟩
  · rw [if_neg hv, if_neg hv]
    exact ⟨_, rfl, rfl, fun hc => absurd hc (by decide), by simp⟩
theorem Roughest_same {l : List Int} (hl : l.length ≤ 1000) : ∃ r, impl_RoughestStep l = some r ∧ spec_RoughestStep l = some r := by
  unfold impl_RoughestStep spec_RoughestStep
  rw [ValidLoop_eq (by omega), l05Ok_eq (by omega), Option.bind_some, Option.bind_some]
  by_cases hv : vlp l = true
  · rw [if_pos hv, if_pos hv, stepsOf_eq hv, l05Steps_eq hv, Option.bind_some, Option.bind_some]
    obtain ⟨l1, l2⟩ := vlp_len hv
    have hb : ∀ x, x ∈ stp l → -1000 ≤ x ∧ x ≤ 1000 := by
      intro x hx
      obtain ⟨i, hi, rfl⟩ := mem_gd hx
      exact stp_bd hv (by rw [stp_len] at hi; exact hi)
    have key : wp (onL (loop (S := (Int × Int × Int)) (B := (Int × Int)) (R := Empty) (fun ((best1, most1, x1) : Int × Int × Int) =>
 if x1 < ((stp l).length : Int) then
 ((at? (stp l) x1).bind fun v1 =>
 (mod? (w64 ((w64 (x1 + ((stp l).length : Int))) - 1)) ((stp l).length : Int)).bind fun q1 =>
 (at? (stp l) q1).bind fun v2 =>
 (impl_apart v1 v2).bind fun r3 =>
 if r3 > most1 then
 (some (.next (x1, r3, w64 (x1 + 1))))
 else
 some (.next (best1, most1, w64 (x1 + 1))))
 else
 some (.brk (best1, most1))) loopLim (0, (-1), 0))
 (fun ((best2, most2) : Int × Int) => some (best2, most2, (0 : Int))) Empty.elim) fun _ => True := by
      refine wp_loop (fun s : Int × Int × Int => ∃ k : Nat, s.2.2 = (k : Int) ∧ k ≤ l.length) (fun s => (l.length - s.2.2).toNat) ⟨0, rfl, by omega⟩ (by simp only; omega) ?_
      rintro ⟨b, m, x⟩ ⟨k, rfl, hk⟩
      simp only
      rw [stp_len]
      refine wp_ite (fun hx => ?_) (fun hx => wp_some (wp_some trivial))
      have hk2 : k < l.length := by omega
      have hm : ((k : Int) + l.length - 1).tmod (l.length : Int) = (((k + l.length - 1) % l.length : Nat) : Int) := by
        rw [show ((k : Int) + l.length - 1) = ((k + l.length - 1 : Nat) : Int) by omega]; rfl
      have hml := Nat.mod_lt (k + l.length - 1) (show 0 < l.length by omega)
      have b1 := stp_bd hv hk2
      have b2 := stp_bd hv hml
      rw [at_gd (by rw [stp_len]; exact hk2), Option.bind_some, w64_id (n := (k : Int) + l.length) (by omega) (by omega), w64_id (n := (k : Int) + l.length - 1) (by omega) (by omega), mod_ok (by omega), Option.bind_some, hm, at_gd (by rw [stp_len]; exact hml), Option.bind_some,
        apart_eq (by omega) (by omega), Option.bind_some, w64_id (n := (k : Int) + 1) (by omega) (by omega)]
      refine wp_ite (fun _ => wp_some ?_) (fun _ => wp_some ?_)
      · exact ⟨⟨k + 1, by simp only; omega, by omega⟩, by simp only; omega⟩
      · exact ⟨⟨k + 1, by simp only; omega, by omega⟩, by simp only; omega⟩
    obtain ⟨r, hr, _⟩ := key
    refine ⟨r, hr, ?_⟩
    rw [← hr]
    congr 2
    funext ⟨b, m, x⟩
    simp only
    split
    · cases h1 : at? (stp l) x with
      | none => rfl
      | some v1 =>
        simp only [Option.bind_some]
        cases h2 : mod? (w64 ((w64 (x + ((stp l).length : Int))) - 1)) ((stp l).length : Int) with
        | none => rfl
        | some q =>
          simp only [Option.bind_some]
          cases h3 : at? (stp l) q with
          | none => rfl
          | some v2 =>
            have b1 := hb v1 (at_mem h1)
            have b2 := hb v2 (at_mem h3)
            simp only [Option.bind_some]
            rw [apart_eq (by omega) (by omega), w64_id (n := v1 - v2) (by omega) (by omega), l00Size_eq (by omega)]
    · rfl
  · rw [if_neg hv, if_neg hv]
    exact ⟨_, rfl, rfl⟩
/- the best turn -/
def far (a b : List Int) (k : Nat) : Int := sm (fun i => ab (gd (trn a k) i - gd b i)) b.length
section
variable {a b : List Int} (ha : vlp a = true) (hb : vlp b = true) (hl : a.length = b.length)
include ha hb hl
theorem ab_bd {k i : Nat} (hi : i < b.length) : 0 ≤ ab (gd (trn a k) i - gd b i) ∧ ab (gd (trn a k) i - gd b i) ≤ 1000 := by
  have h1 := trn_bd ha (k := k) (i := i) (by omega)
  have h2 := vlp_gd hb hi
  unfold ab; split <;> omega
theorem far_nn (k : Nat) : 0 ≤ far a b k := by
  have := (sm_bd (lo := 0) (hi := 1000) fun i (hi : i < b.length) => ab_bd ha hb hl (k := k) hi).1
  unfold far; omega
theorem BestTurn_impl : impl_BestTurn a b = some ((am (far a b) b.length).1, (am (far a b) b.length).2, 0) := by
  obtain ⟨l1, l2⟩ := vlp_len hb
  unfold impl_BestTurn
  simp only [ValidLoop_eq (l := a) (by omega), ValidLoop_eq (l := b) (by omega), ha, hb, Option.bind_some, if_true, Bool.not_true, Bool.false_eq_true, if_false]
  rw [if_pos (by omega)]
  refine eq_of_wp ?_
  refine wp_cnt (fun k => ((am (far a b) k).1, (am (far a b) k).2, (k : Int))) b.length rfl (by omega) (fun k hk => ?_) (b := am (far a b) b.length) ?_ (wp_some rfl)
  · simp only
    rw [if_pos (by omega), turnLoop_eq (by omega) (by omega), Option.bind_some]
    rw [sumL (fun i => ab (gd (trn a k) i - gd b i)) b.length (fun i hi => by have := ab_bd ha hb hl (k := k) hi; omega) (by omega) (fun i s hi => by
      have h1 := trn_bd ha (k := k) (i := i) (by omega)
      have h2 := vlp_gd hb hi
      simp only
      rw [trn_len, if_pos (by omega), at_gd (by rw [trn_len]; omega), at_gd hi, Option.bind_some, Option.bind_some, apart_eq (by omega) (by omega), Option.bind_some]) (fun s => by simp only; rw [trn_len, if_neg (by omega)])]
    rw [show sm (fun i => ab (gd (trn a k) i - gd b i)) b.length = far a b k from rfl, w64_id (n := (k : Int) + 1) (by omega) (by omega), am]
    by_cases h1 : (am (far a b) k).2 < 0
    · rw [if_pos h1, Option.bind_some, if_pos rfl, if_pos (.inl h1)]; rfl
    · rw [if_neg h1, Option.bind_some]
      by_cases h2 : far a b k < (am (far a b) k).2
      · rw [if_pos (decide_eq_true h2), if_pos (.inr h2)]; rfl
      · rw [if_neg (by simpa using h2), if_neg (fun hc => hc.elim h1 h2)]; rfl
  · simp only; rw [if_neg (by omega)]
theorem BestTurn_spec : spec_BestTurn a b = some ((am (far a b) b.length).1, (am (far a b) b.length).2, 0) := by
  obtain ⟨l1, l2⟩ := vlp_len hb
  unfold spec_BestTurn
  simp only [l05Ok_eq (l := a) (by omega), l05Ok_eq (l := b) (by omega), ha, hb, Option.bind_some, if_true, Bool.not_true, Bool.false_eq_true, if_false]
  rw [if_pos (by omega)]
  refine eq_of_wp ?_
  refine wp_cnt (fun k => ((am (far a b) k).1, (am (far a b) k).2, (k : Int))) b.length rfl (by omega) (fun k hk => ?_) (b := am (far a b) b.length) ?_ (wp_some rfl)
  · simp only
    rw [if_pos (by omega), l05Turned_eq (by omega) (by omega) (by omega), Option.bind_some]
    rw [sumL (fun i => ab (gd (trn a k) i - gd b i)) b.length (fun i hi => by have := ab_bd ha hb hl (k := k) hi; omega) (by omega) (fun i s hi => by
      have h1 := trn_bd ha (k := k) (i := i) (by omega)
      have h2 := vlp_gd hb hi
      simp only
      rw [if_pos (by omega), at_gd (by rw [trn_len]; omega), at_gd hi, Option.bind_some, Option.bind_some, w64_id (n := gd (trn a k) i - gd b i) (by omega) (by omega), l00Size_eq (by omega), Option.bind_some]) (fun s => by simp only; rw [if_neg (by omega)])]
    rw [show sm (fun i => ab (gd (trn a k) i - gd b i)) b.length = far a b k from rfl, w64_id (n := (k : Int) + 1) (by omega) (by omega), am]
    by_cases h1 : (am (far a b) k).2 < 0
    · rw [if_pos h1, Option.bind_some, if_pos rfl, if_pos (.inl h1)]; rfl
    · rw [if_neg h1, Option.bind_some]
      by_cases h2 : far a b k < (am (far a b) k).2
      · rw [if_pos (decide_eq_true h2), if_pos (.inr h2)]; rfl
      · rw [if_neg (by simpa using h2), if_neg (fun hc => hc.elim h1 h2)]; rfl
  · simp only; rw [if_neg (by omega)]
end
theorem BestTurn_same {a b : List Int} (h1 : a.length ≤ 1000) (h2 : b.length ≤ 1000) : ∃ r : Int × Int × Int, impl_BestTurn a b = some r ∧ spec_BestTurn a b = some r ∧
    (r.2.2 = 0 → vlp a = true ∧ vlp b = true ∧ a.length = b.length ∧ r = ((am (far a b) b.length).1, (am (far a b) b.length).2, 0)) := by
  by_cases ha : vlp a = true
  · by_cases hb : vlp b = true
    · by_cases hl : a.length = b.length
      · exact ⟨_, BestTurn_impl ha hb hl, BestTurn_spec ha hb hl, fun _ => ⟨ha, hb, hl, rfl⟩⟩
      · refine ⟨(0, 0, 8), ?_, ?_, fun hc => absurd hc (by decide)⟩
        · unfold impl_BestTurn
          simp only [ValidLoop_eq (l := a) (by omega), ValidLoop_eq (l := b) (by omega), ha, hb, Option.bind_some, if_true, Bool.not_true, Bool.false_eq_true, if_false]
          rw [if_neg (by omega)]
        · unfold spec_BestTurn
          simp only [l05Ok_eq (l := a) (by omega), l05Ok_eq (l := b) (by omega), ha, hb, Option.bind_some, if_true, Bool.not_true, Bool.false_eq_true, if_false]
          rw [if_neg (by omega)]
    · have hb : vlp b = false := by simpa using hb
      refine ⟨(0, 0, 1), ?_, ?_, fun hc => absurd hc (by decide)⟩
      · unfold impl_BestTurn
        simp only [ValidLoop_eq (l := a) (by omega), ValidLoop_eq (l := b) (by omega), ha, hb, Option.bind_some, if_true, Bool.not_false]
      · unfold spec_BestTurn
        simp only [l05Ok_eq (l := a) (by omega), l05Ok_eq (l := b) (by omega), ha, hb, Option.bind_some, if_true, Bool.not_false]
  · have ha : vlp a = false := by simpa using ha
    refine ⟨(0, 0, 1), ?_, ?_, fun hc => absurd hc (by decide)⟩
    · unfold impl_BestTurn
      simp only [ValidLoop_eq (l := a) (by omega), ha, Option.bind_some, Bool.false_eq_true, if_false, if_true]
    · unfold spec_BestTurn
      simp only [l05Ok_eq (l := a) (by omega), ha, Option.bind_some, Bool.false_eq_true, if_false, if_true]
/- the common length -/
theorem common_eq {a b : Int} (ha : 1 ≤ a ∧ a ≤ 60) (hb : 1 ≤ b ∧ b ≤ 60) : ∃ m, impl_commonLength a b = some m ∧ spec_l05Common a b = some m ∧ m.tmod a = 0 ∧ m.tmod b = 0 ∧ 1 ≤ m ∧ m ≤ a * b := by
  have hg : 0 < (Int.gcd a b : Int) := by
    have := Int.gcd_pos_of_ne_zero_left b (show a ≠ 0 by omega)
    omega
  obtain ⟨p, q, h1, h2, _⟩ := div_gcd (a := a) (b := b) _ hg rfl
  have hp := pos_of_mul hg (show 0 < (Int.gcd a b : Int) * p by omega)
  have hq := pos_of_mul hg (show 0 < (Int.gcd a b : Int) * q by omega)
  have hd : a.tdiv (Int.gcd a b : Int) = p := by
    rw [Int.tdiv_eq_ediv_of_nonneg (by omega)]
    exact Int.ediv_eq_of_eq_mul_right (by omega) h1
  have hpa : p ≤ a := by
    have := Int.mul_le_mul_of_nonneg_right (show (1 : Int) ≤ (Int.gcd a b : Int) by omega) (show 0 ≤ p by omega)
    omega
  have hm1 : 0 < p * b := Int.mul_pos hp (by omega)
  have hm2 : p * b ≤ a * b := Int.mul_le_mul_of_nonneg_right hpa (by omega)
  have hm3 : a * b ≤ 60 * 60 := Int.mul_le_mul ha.2 hb.2 (by omega) (by omega)
  refine ⟨p * b, ?_, ?_, ?_, ?_, by omega, hm2⟩
  · unfold impl_commonLength
    rw [impl_gcd_eq (by omega) (by omega), Option.bind_some, div_ok (by omega), Option.bind_some, hd]
    show some (w64 (w64 p * b)) = _
    rw [w64_id (n := p) (by omega) (by omega), w64_id (by omega) (by omega)]
  · unfold spec_l05Common
    rw [spec_l00Gcd_eq (by omega) (by omega) (by omega), Option.bind_some, div_ok (by omega), Option.bind_some, hd]
    show some (w64 (w64 p * b)) = _
    rw [w64_id (n := p) (by omega) (by omega), w64_id (by omega) (by omega)]
  · refine Int.tmod_eq_zero_of_dvd ⟨q, ?_⟩
    calc p * b = p * ((Int.gcd a b : Int) * q) := by rw [← h2]
      _ = ((Int.gcd a b : Int) * p) * q := by simp only [Int.mul_assoc, Int.mul_comm, Int.mul_left_comm]
      _ = a * q := by rw [← h1]
  · exact Int.tmod_eq_zero_of_dvd ⟨p, Int.mul_comm _ _⟩
theorem Common_same (a b : Int) : ∃ r : Int × Int, impl_CommonLength a b = some r ∧ spec_CommonLength a b = some r ∧ (r.2 = 0 → a ≠ 0 ∧ b ≠ 0 ∧ r.1.tmod a = 0 ∧ r.1.tmod b = 0 ∧ 1 ≤ r.1 ∧ r.1 ≤ w64 (a * b)) := by
  unfold impl_CommonLength spec_CommonLength
  rw [within_d, l00In_d, within_d, l00In_d]
  by_cases ha : 1 ≤ a ∧ a ≤ 60
  · by_cases hb : 1 ≤ b ∧ b ≤ 60
    · obtain ⟨m, e1, e2, e3, e4, e5, e6⟩ := common_eq ha hb
      have hm3 : a * b ≤ 60 * 60 := Int.mul_le_mul ha.2 hb.2 (by omega) (by omega)
      rw [decide_eq_true ha, decide_eq_true hb]
      simp only [Option.bind_some, if_true, Bool.not_true, Bool.false_eq_true, if_false, e1, e2]
      exact ⟨_, rfl, rfl, fun _ => ⟨by omega, by omega, e3, e4, e5, by rw [w64_id (by omega) (by omega)]; exact e6⟩⟩
    · rw [decide_eq_true ha, decide_eq_false hb]
      simp only [Option.bind_some, if_true, Bool.not_false]
      exact ⟨_, rfl, rfl, fun hc => absurd hc (by decide)⟩
  · rw [decide_eq_false ha]
    simp only [Option.bind_some, Bool.false_eq_true, if_false, if_true]
    exact ⟨_, rfl, rfl, fun hc => absurd hc (by decide)⟩
end Go.Vs.G

namespace Go.Vs.G
open Go Go.Vs
theorem l00Max_some (a b : Int) : ∃ v, spec_l00Max a b = some v := by
  unfold spec_l00Max; split
  · exact ⟨_, rfl⟩
  · exact ⟨_, rfl⟩
theorem l05New_ok {B n : Int} {s : GL00Src} (h : SrcOk B s) (hB : B ≤ 1000000) (hn : n ≤ 100) : wp (spec_l05New s n) fun r => SrcOk (B + 300) r.2 ∧ (r.1.length : Int) = max 0 n := by
  unfold spec_l05New
  refine wp_pick h (by omega) fun v s' _ _ h1 => ?_
  simp only
  refine wp_loop (fun q : GL00Src × List Int × Int × Int => SrcOk (B + 2 + 2 * (q.2.1.length : Int)) q.1 ∧ (q.2.1.length : Int) + max 0 q.2.2.2 = max 0 n) (fun q => q.2.2.2.toNat) ⟨by simpa using h1, by simp⟩ (by simp only; omega) ?_
  rintro ⟨s2, out, at1, k⟩ ⟨h2, h3⟩
  simp only at h2 h3 ⊢
  refine wp_ite (fun hk => ?_) (fun hk => ?_)
  · rw [app_ok (by simp; omega), Option.bind_some]
    refine wp_pick h2 (by omega) fun v2 s3 _ _ h4 => ?_
    obtain ⟨m, hm⟩ := l00Max_some 0 (w64 ((w64 (at1 + v2)) - 14))
    simp only
    rw [hm, Option.bind_some, w64_id (n := k - 1) (by omega) (by omega)]
    refine wp_some ⟨⟨h4.mono (by simp; omega), ?_⟩, by simp only; omega⟩
    simp; omega
  · refine wp_some (wp_some ⟨h2.mono (by omega), ?_⟩)
    simp only; omega
theorem l05Draw_ok {B : Int} {s : GL00Src} (h : SrcOk B s) (hB : B ≤ 100000) : wp (spec_l05Draw s) fun r => SrcOk (B + 400) r.2 ∧ r.1.length ≤ 61 := by
  unfold spec_l05Draw
  refine wp_pick h (by omega) fun v s1 v0 v1 h1 => ?_
  refine wp_one h1 (by omega) fun b1 s2 h2 => ?_
  simp only
  refine wp_seq (P := fun q : GL00Src × Int => SrcOk (B + 6) q.1 ∧ q.2 ≤ 61) ?_ ?_
  · refine wp_ite (fun _ => ?_) (fun _ => wp_some ⟨h2.mono (by omega), ?_⟩)
    · refine wp_among h2 (by omega) (by simp) (by simp) fun x s3 hx h3 => wp_some ⟨h3.mono (by omega), ?_⟩
      simp only [List.mem_cons, List.not_mem_nil, or_false] at hx
      rcases hx with rfl | rfl | rfl | rfl <;> simp
    · simp only; rw [w64_id (by omega) (by omega)]; omega
  · rintro ⟨s3, n⟩ ⟨h3, hn⟩
    simp only at h3 hn ⊢
    refine wp_seq (l05New_ok h3 (by omega) (by omega)) ?_
    rintro ⟨l, s4⟩ ⟨h4, hl⟩
    simp only at h4 hl ⊢
    refine wp_seq (P := fun q : GL00Src × Bool => SrcOk (B + 310) q.1 ∧ (q.2 = true → 0 < n)) ?_ ?_
    · refine wp_ite (fun hn0 => ?_) (fun _ => wp_some ⟨h4.mono (by omega), fun hc => by simp at hc⟩)
      refine wp_one h4 (by omega) fun b s5 h5 => wp_some ⟨h5.mono (by omega), fun _ => hn0⟩
    · rintro ⟨s5, b⟩ ⟨h5, hb⟩
      simp only at h5 hb ⊢
      refine wp_bif (fun hbt => ?_) (fun _ => wp_some ⟨h5.mono (by omega), by simp only; omega⟩)
      have hn0 := hb hbt
      refine wp_pick h5 (by omega) fun j s6 j0 j1 h6 => ?_
      refine wp_among h6 (by omega) (by simp) (by simp) fun x s7 _ h7 => ?_
      simp only
      rw [at_ok j0 (by omega), Option.bind_some]
      exact wp_some ⟨h7.mono (by omega), by simp; omega⟩
section
variable {code : List Int} (hc : okL (okI .u8) code) (hl : code.length ≤ 4096)
include hc hl
theorem DrawSteps_ok : wp (spec_DrawStepsOfLoop code) fun r => r.length ≤ 61 := by
  unfold spec_DrawStepsOfLoop
  refine wp_from hc (by omega) fun s h => ?_
  refine wp_seq (l05Draw_ok h (by omega)) ?_
  rintro ⟨l, s1⟩ ⟨_, h1⟩
  exact wp_some h1
theorem DrawBest_ok : wp (spec_DrawBestTurn code) fun r => r.1.length ≤ 61 ∧ r.2.length ≤ 61 := by
  unfold spec_DrawBestTurn
  refine wp_from hc (by omega) fun s h => ?_
  refine wp_seq (l05Draw_ok h (by omega)) ?_
  rintro ⟨l, s1⟩ ⟨h1, hl1⟩
  simp only at h1 hl1 ⊢
  refine wp_one h1 (by omega) fun b s2 h2 => ?_
  refine wp_bif (fun _ => ?_) (fun _ => ?_)
  · refine wp_seq (l05Draw_ok h2 (by omega)) ?_
    rintro ⟨m, s3⟩ ⟨_, hm⟩
    exact wp_some ⟨hl1, hm⟩
  · simp only
    refine wp_seq (P := fun q : GL00Src × Bool => SrcOk 500 q.1 ∧ (q.2 = true → 0 < l.length)) ?_ ?_
    · refine wp_one h2 (by omega) fun b3 s3 h3 => ?_
      refine wp_bif (fun _ => wp_some ⟨h3.mono (by omega), fun hq => ?_⟩) (fun _ => wp_some ⟨h3.mono (by omega), fun hq => by simp at hq⟩)
      have := of_decide_eq_true hq; omega
    · rintro ⟨s3, b3⟩ ⟨h3, hb3⟩
      simp only at h3 hb3 ⊢
      refine wp_bif (fun hb => ?_) (fun _ => ?_)
      · have := hb3 hb
        refine wp_pick h3 (by omega) fun k s4 k0 k1 h4 => ?_
        simp only
        rw [show k = ((k.toNat : Nat) : Int) by omega, l05Turned_eq (by omega) (by omega) (by omega), Option.bind_some]
        exact wp_some ⟨hl1, by rw [trn_len]; exact hl1⟩
      · refine wp_seq (l05New_ok h3 (by omega) (by omega)) ?_
        rintro ⟨m, s4⟩ ⟨_, hm⟩
        simp only at hm
        exact wp_some ⟨hl1, by simp only; omega⟩
theorem DrawCommon_ok : wp (spec_DrawCommonLength code) fun _ => True := by
  unfold spec_DrawCommonLength
  refine wp_from hc (by omega) fun s h => ?_
  refine wp_pick h (by omega) fun v s1 v0 v1 h1 => ?_
  refine wp_one h1 (by omega) fun b1 s2 h2 => ?_
  simp only
  refine wp_seq (P := fun q : GL00Src × Int => SrcOk 6 q.1) ?_ ?_
  · refine wp_bif (fun _ => ?_) (fun _ => wp_some (h2.mono (by omega)))
    exact wp_among h2 (by omega) (by simp) (by simp) fun x s3 hx h3 => wp_some (h3.mono (by omega))
  · rintro ⟨s3, a⟩ h3
    simp only at h3 ⊢
    refine wp_one h3 (by omega) fun b s4 h4 => ?_
    refine wp_bif (fun _ => ?_) (fun _ => ?_)
    · exact wp_among h4 (by omega) (by simp) (by simp) fun x s5 hx h5 => wp_some trivial
    · exact wp_pick h4 (by omega) fun v s5 _ _ h5 => wp_some trivial
end
theorem f6intsO (a b : List Int) (ha : a.length < 9223372036854775807) : laws_f6ints a b = some (decide (a = b)) := by
  unfold laws_f6ints; exact eqSp a b ha
theorem laws_FnLoops_true {code : List Int} (hc : okL (okI .u8) code) : laws_FnLoops code = some true := by
  refine eq_of_wp ?_
  unfold laws_FnLoops laws_f6big
  rw [Option.bind_some]
  by_cases hl : code.length ≤ 4096
  case neg => rw [if_pos (decide_eq_true (by omega))]; exact wp_some rfl
  rw [if_neg (by simp; omega)]
  refine wp_seq (DrawSteps_ok hc hl) fun l hl1 => ?_
  obtain ⟨r3, e3, e4, f3, g3⟩ := StepsOfLoop_same (l := l) (by omega)
  rw [e3, e4, Option.bind_some, Option.bind_some]
  refine wp_seq (DrawBest_ok hc hl) fun r5 ⟨ha1, hb1⟩ => ?_
  obtain ⟨r6, e6, e7, f6⟩ := BestTurn_same (a := r5.1) (b := r5.2) (by omega) (by omega)
  rw [e6, e7, Option.bind_some, Option.bind_some]
  refine wp_seq (DrawCommon_ok hc hl) fun r8 _ => ?_
  obtain ⟨r9, e9, e10, f9⟩ := Common_same r8.1 r8.2
  rw [e9, e10, Option.bind_some, Option.bind_some]
  obtain ⟨r11, e11, e12⟩ := Roughest_same (l := l) (by omega)
  rw [e11, e12, Option.bind_some, Option.bind_some]
  simp only [if_true, f6intsO _ _ (show r3.1.length < 9223372036854775807 by omega), decide_true, Option.bind_some, ValidLoop_eq (show l.length ≤ 1000000 by omega)]
  unfold spec_ValidLoop
  simp only [l05Ok_eq (show l.length ≤ 1000000 by omega), Option.bind_some, beq_self_eq_true, Bool.not_true, Bool.false_eq_true, if_false]
  have hx2 : ((if r9.2 = 0 then
      ((mod? r9.1 r8.1).bind fun q1 => if q1 = 0 then ((mod? r9.1 r8.2).bind fun q2 => if q2 = 0 then (if r9.1 < 1 then (some true) else some (decide (r9.1 > (w64 (r8.1 * r8.2))))) else some true) else some true)
      else some false) : Option Bool) = some false := by
    by_cases h0 : r9.2 = 0
    · obtain ⟨q1, q2, q3, q4, q5, q6⟩ := f9 h0
      rw [if_pos h0, mod_ok q1, Option.bind_some, if_pos q3, mod_ok q2, Option.bind_some, if_pos q4, if_neg (by omega), decide_eq_false (by omega)]
    · rw [if_neg h0]
  rw [hx2, Option.bind_some]
  simp only [Bool.false_eq_true, if_false]
  refine wp_onS ?_
  have fin : wp (if r3.2 = 0 then ((laws_f6sum r3.1).bind fun r19 => if r19 = 0 then (some (decide ((r3.1.length : Int) = (l.length : Int)))) else some false) else some true) fun y => y = true := by
    refine wp_ite (fun h0 => ?_) (fun _ => wp_some rfl)
    obtain ⟨hv, hs⟩ := f3 h0
    rw [hs, f6sum_stp hv, Option.bind_some, if_pos rfl, stp_len, decide_eq_true rfl]
    exact wp_some rfl
  refine wp_ite (fun h0 => ?_) (fun _ => wp_some fin)
  obtain ⟨ha, hb, hlen, hr⟩ := f6 h0
  obtain ⟨l1, l2⟩ := vlp_len ha
  obtain ⟨y, hy, hy2, hy3⟩ := am_spec (far_nn ha hb hlen) r5.2.length (by omega)
  rw [hy2] at hr
  simp only at hr
  have ht : impl_TurnLoop r5.1 r6.1 = some (trn r5.1 y, 0) := by
    unfold impl_TurnLoop
    rw [ValidLoop_eq (by omega), Option.bind_some, if_pos ha, hr]
    simp only
    rw [within_d, Option.bind_some, decide_eq_true (by omega), if_pos rfl, turnLoop_eq (by omega) (by omega), Option.bind_some]
  rw [ht, Option.bind_some]
  simp only [if_true, trn_len]
  rw [decide_eq_true (by omega)]
  simp only [Option.bind_some, Bool.not_true, Bool.false_eq_true, if_false]
  rw [sumL (fun i => ab (gd (trn r5.1 y) i - gd r5.2 i)) r5.2.length (fun i hi => by have := ab_bd ha hb hlen (k := y) hi; omega) (by omega) (fun i s hi => by
      have h1 := trn_bd ha (k := y) (i := i) (by omega)
      have h2 := vlp_gd hb hi
      simp only
      rw [if_pos (by omega), at_gd (by rw [trn_len]; omega), at_gd hi, Option.bind_some, Option.bind_some, w64_id (n := gd (trn r5.1 y) i - gd r5.2 i) (by omega) (by omega), f6abs_eq (by omega), Option.bind_some]) (fun s => by simp only; rw [if_neg (by omega)])]
  rw [sumL (fun i => ab (gd (trn r5.1 0) i - gd r5.2 i)) r5.2.length (fun i hi => by have := ab_bd ha hb hlen (k := 0) hi; omega) (by omega) (fun i s hi => by
      have h1 := trn_bd ha (k := 0) (i := i) (by omega)
      have h2 := vlp_gd hb hi
      rw [trn_zero] at h1 ⊢
      simp only
      rw [if_pos (by omega), at_gd (by omega), at_gd hi, Option.bind_some, Option.bind_some, w64_id (n := gd r5.1 i - gd r5.2 i) (by omega) (by omega), f6abs_eq (by omega), Option.bind_some]) (fun s => by simp only; rw [if_neg (by omega)])]
  have hle := hy3 0 (by omega)
  unfold far at hle hr
  rw [hr]
  simp only
  rw [if_pos trivial, if_neg (by omega)]
  exact wp_some fin
end Go.Vs.G

