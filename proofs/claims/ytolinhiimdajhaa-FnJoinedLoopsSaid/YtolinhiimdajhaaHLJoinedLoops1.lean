/- Plain facts about the typed functions, up to the law: no program in sight. No conditions. -/
import Derived.Test.YtolinhiimdajhaaV5
import Derived.Test.YtolinhiimdajhaaDLJoinedLoops
namespace Go.Vs
open Go

section
variable {α β S B R : Type}

open Classical in
/-- a loop that looks at each round for a reason to stop -/
theorem scan {body : Int → Option (Step Int Unit R)} {kb : Unit → Option β} {kr : R → Option β} {s n : Nat} {c : Nat → Bool} {r : R} (hs : s ≤ n) (hn : n < 9223372036854775807)
    (hb : ∀ i : Nat, s ≤ i → i < n → body (i : Int) = some (if c i = true then .next ((i : Int) + 1) else .ret r)) (he : body (n : Int) = some (.brk ())) :
    onL (loop body loopLim (s : Int)) kb kr = if ∀ i, s ≤ i → i < n → c i = true then kb () else kr r := by
  by_cases h : ∀ i, s ≤ i → i < n → c i = true
  · rw [if_pos h]
    have := loop_brk (body := body) (fun j => ((s + j : Nat) : Int)) (b := ()) (n - s) (by omega) (fun j hj => by
      rw [hb (s + j) (by omega) (by omega), if_pos (h _ (by omega) (by omega))]; congr 2) (by rw [show s + (n - s) = n by omega]; exact he)
    simp only [Nat.add_zero] at this
    rw [this]; rfl
  · rw [if_neg h]
    have hex : ∃ k, s ≤ k ∧ k < n ∧ c k = false := by
      refine Classical.byContradiction fun hc => h fun i h1 h2 => ?_
      cases hci : c i with
      | true => rfl
      | false => exact absurd ⟨i, h1, h2, hci⟩ hc
    -- the first of them
    have hleast : ∃ k, (s ≤ k ∧ k < n ∧ c k = false) ∧ ∀ j, s ≤ j → j < k → c j = true := by
      obtain ⟨k, hk⟩ := hex
      induction k using Nat.strongRecOn with
      | _ k ih =>
        by_cases hall : ∀ j, s ≤ j → j < k → c j = true
        · exact ⟨k, hk, hall⟩
        · have : ∃ j, s ≤ j ∧ j < k ∧ c j = false := by
            refine Classical.byContradiction fun hc => hall fun i h1 h2 => ?_
            cases hci : c i with
            | true => rfl
            | false => exact absurd ⟨i, h1, h2, hci⟩ hc
          obtain ⟨j, h1, h2, h3⟩ := this
          exact ih j h2 ⟨h1, by omega, h3⟩
    obtain ⟨k, ⟨h1, h2, h3⟩, h4⟩ := hleast
    have := loop_ret' (body := body) (fun j => ((s + j : Nat) : Int)) (r := r) (k - s) (by omega) (fun j hj => by
      rw [hb (s + j) (by omega) (by omega), if_pos (h4 _ (by omega) (by omega))]; congr 2) (by
      rw [show s + (k - s) = k by omega, hb k h1 h2, h3]; rfl)
    simp only [Nat.add_zero] at this
    rw [this]; rfl
theorem w64_succ {i n : Nat} (h : i < n) (hn : n < 9223372036854775807) : w64 ((i : Int) + 1) = (i : Int) + 1 := w64_id (by omega) (by omega)
theorem at_of {l : List α} {i : Nat} (h : i < l.length) : at? l (i : Int) = some l[i] := at_nat h
/-- comparisons element by element -/
theorem eqS {f : α → α → Option Bool} {c : α → α → Bool} (a b : List α) (hf : ∀ x, x ∈ a → ∀ y, y ∈ b → f x y = some (c x y)) (ha : a.length < 9223372036854775807) :
    (if (a.length : Int) = (b.length : Int) then (onL (loop (S := Int) (B := Unit) (R := Bool) (fun (i1 : Int) => if i1 < (a.length : Int) then
      ((at? a i1).bind fun v1 => (at? b i1).bind fun v2 => (f v1 v2).bind fun r1 => if r1 then (some (.next (w64 (i1 + 1)))) else some (.ret false)) else some (.brk ())) loopLim 0) (fun (_ : Unit) => some true) (fun r => some r)) else some false)
      = some (decide (a.length = b.length) && (List.zipWith c a b).all id) := by
  by_cases hl : a.length = b.length
  · rw [if_pos (by omega)]
    have := scan (body := fun (i1 : Int) => if i1 < (a.length : Int) then
      ((at? a i1).bind fun v1 => (at? b i1).bind fun v2 => (f v1 v2).bind fun r1 => if r1 then (some (.next (w64 (i1 + 1)))) else some (.ret false)) else some (.brk ()))
      (kb := fun (_ : Unit) => some true) (kr := fun r => some r) (s := 0) (n := a.length) (c := fun i => if h : i < a.length ∧ i < b.length then c a[i] b[i] else true) (r := false) (by omega) ha ?_ (by simp)
    · simp only [Int.natCast_zero] at this
      refine this.trans ?_
      split
      · rename_i h
        congr 1
        symm
        simp only [Bool.and_eq_true, decide_eq_true_eq, hl, true_and, List.all_eq_true, id]
        intro x hx
        obtain ⟨i, hi, rfl⟩ := List.getElem_of_mem hx
        simp only [List.length_zipWith] at hi
        have := h i (by omega) (by omega)
        simpa [show i < a.length ∧ i < b.length by omega] using this
      · rename_i h
        congr 1
        symm
        simp only [Bool.and_eq_false_iff]
        right
        refine Classical.byContradiction fun hc => h fun i _ hi => ?_
        have hall : (List.zipWith c a b).all id = true := by simpa using hc
        rw [List.all_eq_true] at hall
        have hi2 : i < a.length ∧ i < b.length := ⟨hi, by omega⟩
        have := hall (c a[i] b[i]) (by
          rw [List.mem_iff_getElem]
          exact ⟨i, by simp; omega, by simp⟩)
        simpa [hi2] using this
    · intro i _ hi
      have hib : i < b.length := by omega
      have h1 : (i : Int) < (a.length : Int) := by omega
      simp only [h1, if_true, at_of hi, at_of hib, Option.bind_some, hf _ (List.getElem_mem hi) _ (List.getElem_mem hib), hi, hib, and_self, dite_true]
      split
      · rw [w64_id (by omega) (by omega)]
      · rfl
  · rw [if_neg (by omega)]
    simp [hl]
theorem zip_eq [DecidableEq α] {c : α → α → Bool} (hc : ∀ x y, c x y = decide (x = y)) : ∀ (a b : List α), (decide (a.length = b.length) && (List.zipWith c a b).all id) = decide (a = b)
  | [], [] => by simp
  | [], _ :: _ => by simp
  | _ :: _, [] => by simp
  | x :: a, y :: b => by
    have ih := zip_eq hc a b
    simp only [List.length_cons, Nat.add_right_cancel_iff, List.zipWith_cons_cons, List.all_cons, id, List.cons.injEq, hc] at ih ⊢
    by_cases hxy : x = y
    · simp [hxy, ih]
    · simp [hxy]
end
/-- the same with a proposition for a test -/
theorem eqSp {α : Type} [DecidableEq α] (a b : List α) (ha : a.length < 9223372036854775807) :
    (if (a.length : Int) = (b.length : Int) then (onL (loop (S := Int) (B := Unit) (R := Bool) (fun (i1 : Int) => if i1 < (a.length : Int) then
      ((at? a i1).bind fun v1 => (at? b i1).bind fun v2 => if v1 = v2 then (some (.next (w64 (i1 + 1)))) else some (.ret false)) else some (.brk ())) loopLim 0) (fun (_ : Unit) => some true) (fun r => some r)) else some false)
      = some (decide (a = b)) := by
  rw [← zip_eq (c := fun x y => decide (x = y)) (fun _ _ => rfl), ← eqS (f := fun x y => some (decide (x = y))) (c := fun x y => decide (x = y)) a b (fun _ _ _ _ => rfl) ha]
  congr 3
  funext i
  split
  · congr 1; funext v1; congr 1; funext v2
    simp only [Option.bind_some, decide_eq_true_eq]
  · rfl
end Go.Vs

namespace Go.Vs.G
open Go Go.Vs

/-- a source that can still be asked; B bounds the place that it has come to -/
structure SrcOk (B : Int) (s : GL00Src) : Prop where
  bytes : ∀ x, x ∈ s.code → 0 ≤ x ∧ x ≤ 255
  len : s.code.length ≤ 1000000
  at0 : 0 ≤ s.at_
  atB : s.at_ ≤ B
theorem SrcOk.mono {B B' : Int} {s : GL00Src} (h : SrcOk B s) (hB : B ≤ B') : SrcOk B' s := ⟨h.bytes, h.len, h.at0, Int.le_trans h.atB hB⟩
theorem srcOk_from {code : List Int} (h : okL (okI .u8) code) (hl : code.length ≤ 1000000) : SrcOk 0 (GL00Src.mk code 0 0) :=
  ⟨fun x hx => okU8 (h.2 x hx), hl, by simp, by simp⟩
theorem shr40 (n : Int) : shr? .u64 n 40 = some (n.fdiv (2 ^ 40)) := by
  simp [shr?, IntKind.bits]
theorem and255 (n : Int) : 0 ≤ bit_and .u64 n 255 ∧ bit_and .u64 n 255 ≤ 255 := by
  unfold bit_and
  rw [wu64_def]
  have h : (BitVec.ofInt IntKind.u64.bits n &&& BitVec.ofInt IntKind.u64.bits 255).toNat ≤ 255 := by
    rw [BitVec.toNat_and]
    exact Nat.le_trans Nat.and_le_right (by decide)
  omega
theorem next_ok {B : Int} {s : GL00Src} (h : SrcOk B s) (hB : B ≤ 4611686018427387904) : ∃ v s', spec_l00Src_next s = some (v, s') ∧ 0 ≤ v ∧ v ≤ 255 ∧ SrcOk (B + 1) s' := by
  have h1 := h.at0
  have h2 := h.atB
  have h3 := h.len
  have hat : w64 (s.at_ + 1) = s.at_ + 1 := w64_id (by omega) (by omega)
  have hb : ∃ b, (if s.at_ < (s.code.length : Int) then ((at? s.code s.at_).bind fun v1 => some (w64 v1)) else some 0) = some b ∧ 0 ≤ b ∧ b ≤ 255 := by
    split
    · rename_i hlt
      rw [at_ok h1 (by omega), Option.bind_some]
      obtain ⟨g1, g2⟩ := h.bytes s.code[s.at_.toNat] (List.getElem_mem (by omega))
      exact ⟨_, rfl, by rw [w64_id (by omega) (by omega)]; omega, by rw [w64_id (by omega) (by omega)]; omega⟩
    · exact ⟨0, rfl, by omega, by omega⟩
  obtain ⟨b, hb, b0, b1⟩ := hb
  unfold spec_l00Src_next
  rw [hb, Option.bind_some, hat]
  split
  · exact ⟨_, _, rfl, b0, b1, ⟨h.bytes, h.len, by simp only; omega, by simp only; omega⟩⟩
  · rw [shr40, Option.bind_some]
    have := and255 ((IntKind.wrap .u64 ((IntKind.wrap .u64 ((IntKind.wrap .u64 (s.seed * 6364136223846793005)) + (IntKind.wrap .u64 b))) + 1442695040888963407)).fdiv (2 ^ 40))
    exact ⟨_, _, rfl, by rw [w64_id (by omega) (by omega)]; omega, by rw [w64_id (by omega) (by omega)]; omega, ⟨h.bytes, h.len, by simp only; omega, by simp only; omega⟩⟩
theorem pick_ok {B : Int} {s : GL00Src} (h : SrcOk B s) (hB : B ≤ 4611686018427387000) (n : Int) : ∃ v s', spec_l00Src_pick s n = some (v, s') ∧ 0 ≤ v ∧ (v = 0 ∨ v < n) ∧ SrcOk (B + 2) s' := by
  unfold spec_l00Src_pick
  by_cases hn : n ≤ 1
  · rw [if_pos hn]; exact ⟨0, s, rfl, by omega, .inl rfl, h.mono (by omega)⟩
  · rw [if_neg hn]
    obtain ⟨v, s1, e1, v0, v1, k1⟩ := next_ok h (by omega)
    rw [e1, Option.bind_some]
    by_cases h2 : n > 200
    · rw [if_pos h2]
      obtain ⟨u, s2, e2, u0, u1, k2⟩ := next_ok k1 (by omega)
      simp only
      rw [e2, Option.bind_some, mod_ok (by omega), Option.bind_some, w64_id (n := v * 256) (by omega) (by omega), w64_id (by simp only; omega) (by simp only; omega)]
      have e : (v * 256 + u).tmod n = (v * 256 + u) % n := Int.tmod_eq_emod_of_nonneg (by omega)
      refine ⟨_, _, rfl, ?_, ?_, by rw [show B + 2 = B + 1 + 1 by omega]; exact k2⟩
      · simp only [e]; exact Int.emod_nonneg _ (by omega)
      · simp only [e]; right; exact Int.emod_lt_of_pos _ (by omega)
    · rw [if_neg h2, mod_ok (by omega), Option.bind_some]
      simp only
      have e : v.tmod n = v % n := Int.tmod_eq_emod_of_nonneg (by omega)
      refine ⟨_, _, rfl, ?_, ?_, k1.mono (by omega)⟩
      · rw [e]; exact Int.emod_nonneg _ (by omega)
      · rw [e]; right; exact Int.emod_lt_of_pos _ (by omega)
/-- one of some numbers -/
theorem among_ok {B : Int} {s : GL00Src} (h : SrcOk B s) (hB : B ≤ 4611686018427387000) {l : List Int} (hl : 1 ≤ l.length) (hl2 : l.length ≤ 1000) : ∃ v s', spec_l00Src_among s l = some (v, s') ∧ v ∈ l ∧ SrcOk (B + 2) s' := by
  unfold spec_l00Src_among
  obtain ⟨v, s1, e1, v0, v1, k1⟩ := pick_ok h hB (l.length : Int)
  rw [e1, Option.bind_some]
  simp only
  rw [at_ok v0 (by omega), Option.bind_some]
  exact ⟨_, _, rfl, List.getElem_mem _, k1⟩
end Go.Vs.G

namespace Go.Vs.G
open Go Go.Vs

theorem gcd_tmod (a b : Int) : Int.gcd b (a.tmod b) = Int.gcd a b := by
  rw [Int.gcd_comm b, Int.gcd, Int.natAbs_tmod, Int.gcd, Nat.gcd_comm a.natAbs, Nat.gcd_rec b.natAbs a.natAbs]
theorem tmod_lt (a b : Int) (hb : b ≠ 0) : (a.tmod b).natAbs < b.natAbs := by
  rw [Int.natAbs_tmod]; exact Nat.mod_lt _ (by omega)
theorem gcdLoop {a b : Int} {kb : Int → Option Int} {kr : Empty → Option Int} {Q : Int → Prop} (hb : b.natAbs < 9223372036854775808)
    (hk : ∀ g : Int, g.natAbs = Int.gcd a b → (0 ≤ a → 0 ≤ b → 0 ≤ g) → wp (kb g) Q) :
    wp (onL (loop (S := (Int × Int)) (B := Int) (R := Empty) (fun ((a2, b2) : Int × Int) => if b2 = 0 then (some (.brk a2)) else (mod? a2 b2).bind fun q1 => some (.next (b2, q1))) loopLim (a, b)) kb kr) Q := by
  refine wp_loop (fun s : Int × Int => Int.gcd s.1 s.2 = Int.gcd a b ∧ s.2.natAbs ≤ b.natAbs ∧ (0 ≤ a → 0 ≤ b → 0 ≤ s.1 ∧ 0 ≤ s.2)) (fun s => s.2.natAbs) ⟨rfl, Nat.le_refl _, fun h1 h2 => ⟨h1, h2⟩⟩ (by simp only; omega) ?_
  rintro ⟨a2, b2⟩ ⟨h1, h2, h3⟩
  simp only at h1 h2 h3 ⊢
  refine wp_ite (fun h => ?_) (fun h => ?_)
  · subst h
    exact wp_some (hk a2 (by rw [← h1]; simp) (fun g1 g2 => (h3 g1 g2).1))
  · rw [mod_ok h, Option.bind_some]
    have ht := tmod_lt a2 b2 h
    refine wp_some ⟨⟨by simp only; rw [gcd_tmod, h1], by simp only; omega, fun g1 g2 => ⟨(h3 g1 g2).2, Int.tmod_nonneg _ (h3 g1 g2).1⟩⟩, by simp only; omega⟩
theorem gcd_le {a b : Int} {B : Nat} (ha : a.natAbs ≤ B) (hb : b.natAbs ≤ B) : Int.gcd a b ≤ B := by
  by_cases h : a = 0
  · subst h; simpa using hb
  · exact Nat.le_trans (Nat.gcd_le_left _ (by omega)) ha
theorem impl_gcd_eq {a b : Int} (ha : a.natAbs ≤ 9223372036854775807) (hb : b.natAbs ≤ 9223372036854775807) : impl_gcd a b = some (Int.gcd a b : Int) := by
  refine eq_of_wp ?_
  unfold impl_gcd
  refine gcdLoop (by omega) fun g hg _ => wp_some ?_
  have := gcd_le ha hb
  rw [imax_def, w64_id (by omega) (by omega)]; omega
theorem spec_l00Gcd_eq {a b : Int} (ha : 0 ≤ a) (hb : 0 ≤ b) (hb2 : b.natAbs ≤ 9223372036854775807) : spec_l00Gcd a b = some (Int.gcd a b : Int) := by
  refine eq_of_wp ?_
  unfold spec_l00Gcd
  refine gcdLoop (by omega) fun g hg h0 => wp_some ?_
  have := h0 ha hb
  omega
/-- f is n / d in lowest terms -/
structure Red (n d : Int) (f : GFraction) : Prop where
  pos : 0 < f.Den
  cop : Int.gcd f.Num f.Den = 1
  eq : f.Num * d = n * f.Den
theorem dvd_of_cop {a b c : Int} (h : Int.gcd a b = 1) (hd : b ∣ a * c) : b ∣ c := by
  rw [← Int.natAbs_dvd_natAbs] at hd ⊢
  rw [Int.natAbs_mul] at hd
  have : Nat.Coprime b.natAbs a.natAbs := by rw [Nat.coprime_comm]; exact h
  exact this.dvd_of_dvd_mul_left hd
theorem Red.unique {f g : GFraction} (hf : 0 < f.Den) (hg : 0 < g.Den) (cf : Int.gcd f.Num f.Den = 1) (cg : Int.gcd g.Num g.Den = 1) (h : f.Num * g.Den = g.Num * f.Den) : f = g := by
  have h1 : f.Den ∣ g.Den := dvd_of_cop cf ⟨g.Num, by rw [h, Int.mul_comm]⟩
  have h2 : g.Den ∣ f.Den := dvd_of_cop cg ⟨f.Num, by rw [← h, Int.mul_comm]⟩
  have hd : f.Den = g.Den := Int.le_antisymm (Int.le_of_dvd hg h1) (Int.le_of_dvd hf h2)
  have hn : f.Num = g.Num := by
    rw [hd] at h
    exact Int.eq_of_mul_eq_mul_right (by omega) h
  cases f; cases g
  simp_all
theorem pos_of_mul {g q : Int} (hg : 0 < g) (h : 0 < g * q) : 0 < q := by
  refine Classical.byContradiction fun hc => ?_
  have := Int.mul_nonneg (a := g) (b := -q) (by omega) (by omega)
  rw [Int.mul_neg] at this
  omega
theorem div_gcd {a b : Int} (g : Int) (hg : 0 < g) (hgd : g = (Int.gcd a b : Int)) : ∃ p q, a = g * p ∧ b = g * q ∧ Int.gcd p q = 1 := by
  have h1 : g ∣ a := by rw [hgd]; exact Int.gcd_dvd_left ..
  have h2 : g ∣ b := by rw [hgd]; exact Int.gcd_dvd_right ..
  obtain ⟨p, rfl⟩ := h1
  obtain ⟨q, rfl⟩ := h2
  refine ⟨p, q, rfl, rfl, ?_⟩
  rw [Int.gcd_mul_left] at hgd
  have h3 : (g.natAbs : Int) = g := by omega
  have h4 : g.natAbs * 1 = g.natAbs * p.gcd q := by
    have : (g.natAbs * p.gcd q : Nat) = g.natAbs := by omega
    omega
  exact (Nat.eq_of_mul_eq_mul_left (by omega) h4).symm
end Go.Vs.G

namespace Go.Vs.G
open Go Go.Vs

theorem Red.same {n d : Int} {f g : GFraction} (hf : Red n d f) (hg : Red n d g) (hd : d ≠ 0) : f = g := by
  refine Red.unique hf.pos hg.pos hf.cop hg.cop ?_
  have e1 := hf.eq
  have e2 := hg.eq
  refine Int.eq_of_mul_eq_mul_left (a := d) hd ?_
  calc d * (f.Num * g.Den) = (f.Num * d) * g.Den := by simp only [Int.mul_assoc, Int.mul_comm, Int.mul_left_comm]
    _ = (g.Num * d) * f.Den := by rw [e1, e2]; simp only [Int.mul_assoc, Int.mul_comm, Int.mul_left_comm]
    _ = d * (g.Num * f.Den) := by simp only [Int.mul_assoc, Int.mul_comm, Int.mul_left_comm]
/- counting -/
/- the same on both sides -/
/- draws -/
theorem one_ok {B : Int} {s : GL00Src} (h : SrcOk B s) (hB : B ≤ 4611686018427387000) (n : Int) : ∃ v s', spec_l00Src_one s n = some (v, s') ∧ SrcOk (B + 2) s' := by
  unfold spec_l00Src_one
  obtain ⟨v, s1, e1, _, _, k1⟩ := pick_ok h hB n
  rw [e1]; exact ⟨_, _, rfl, k1⟩
end Go.Vs.G

namespace Go.Vs
open Go

section
variable {α β γ R : Type}

/-- the same, with a start -/
theorem mapS' {f : Int → Option β} (g : Nat → β) (n : Nat) (hf : ∀ i : Nat, i < n → f (i : Int) = some (g i)) (hl : n ≤ 4294967296)
    {body : List β × Int → Option (Step (List β × Int) (List β) R)} {kb : List β → Option γ} {kr : R → Option γ}
    (hb : ∀ (out : List β) (i : Int), body (out, i) = if i < (n : Int) then ((f i).bind fun r => (app? out ([r] : List β)).bind fun l1 => some (.next (l1, w64 (i + 1)))) else some (.brk out)) :
    onL (loop body loopLim ([], 0)) kb kr = kb (tab g n) := by
  have := loop_brk (body := body) (fun j : Nat => (tab g j, (j : Int))) (b := tab g n) n (by omega) (fun j hj => by
    rw [hb, if_pos (by omega), hf j hj, Option.bind_some, app_ok (by simp; omega), Option.bind_some, w64_id (by omega) (by omega), tab_succ]
    congr 3) (by rw [hb, if_neg (by omega)])
  simp only [tab_zero, Int.natCast_zero] at this
  rw [this]; rfl
/-- a list of which all fit, asked by a loop -/
theorem allS {f : α → Option Bool} (c : α → Bool) (l : List α) (hf : ∀ x, x ∈ l → f x = some (c x)) (hl : l.length < 9223372036854775807) {r : R}
    {body : Int → Option (Step Int Unit R)} {kb : Unit → Option γ} {kr : R → Option γ}
    (hb : ∀ (i : Int), body i = if i < (l.length : Int) then ((at? l i).bind fun v => (f v).bind fun q => if q = true then some (.next (w64 (i + 1))) else some (.ret r)) else some (.brk ())) :
    onL (loop body loopLim 0) kb kr = if ∀ x, x ∈ l → c x = true then kb () else kr r := by
  have := scan (body := body) (kb := kb) (kr := kr) (s := 0) (n := l.length) (c := fun i => if h : i < l.length then c l[i] else true) (r := r) (by omega) hl (fun i _ hi => by
    rw [hb, if_pos (by omega), at_of hi, Option.bind_some, hf _ (List.getElem_mem hi), Option.bind_some, w64_id (by omega) (by omega)]
    simp only [hi, dif_pos]
    cases c l[i] <;> rfl) (by rw [hb, if_neg (by omega)])
  simp only [Int.natCast_zero] at this
  rw [this]
  have e : (∀ i, 0 ≤ i → i < l.length → (if h : i < l.length then c l[i] else true) = true) ↔ ∀ x, x ∈ l → c x = true := by
    constructor
    · intro h x hx
      obtain ⟨i, hi, rfl⟩ := List.getElem_of_mem hx
      have := h i (by omega) hi
      simpa [hi] using this
    · intro h i _ hi
      simp [hi, h _ (List.getElem_mem hi)]
  split
  · rename_i h; rw [if_pos (e.1 h)]
  · rename_i h; rw [if_neg (fun h2 => h (e.2 h2))]
/-- the library's IndexFunc -/
theorem idxFS {f : α → Option Bool} (c : α → Bool) (l : List α) (hf : ∀ x, x ∈ l → f x = some (c x)) (hl : l.length < 9223372036854775807)
    {body : Int → Option (Step Int Unit Int)}
    (hb : ∀ (i : Int), body i = if i < (l.length : Int) then ((at? l i).bind fun v => (f v).bind fun r => if r = true then some (.ret i) else some (.next (w64 (i + 1)))) else some (.brk ())) :
    wp (onL (loop body loopLim 0) (fun (_ : Unit) => some (-1 : Int)) (fun r => some r)) fun r => (r = -1 ∧ l.any c = false) ∨ (∃ k : Nat, r = (k : Int) ∧ ∃ h : k < l.length, c l[k] = true ∧ (∀ j (h2 : j < k), c (l[j]'(by omega)) = false) ∧ l.any c = true) := by
  refine wp_loop (fun t : Int => ∃ k : Nat, t = (k : Int) ∧ k ≤ l.length ∧ ∀ j (h2 : j < k) (h3 : j < l.length), c l[j] = false) (fun t => (l.length - t).toNat) ⟨0, rfl, by omega, fun j hj => by omega⟩ (by omega) ?_
  rintro i ⟨k, rfl, hk, hall⟩
  rw [hb]
  refine wp_ite (fun h => ?_) (fun h => ?_)
  · have hk2 : k < l.length := by omega
    rw [at_of hk2, Option.bind_some, hf _ (List.getElem_mem hk2), Option.bind_some]
    refine wp_ite (fun h3 => ?_) (fun h3 => ?_)
    · exact wp_some (wp_some (.inr ⟨k, rfl, hk2, h3, fun j hj => hall j hj (by omega), List.any_eq_true.2 ⟨_, List.getElem_mem hk2, h3⟩⟩))
    · rw [w64_succ hk2 (by omega)]
      refine wp_some ⟨⟨k + 1, rfl, by omega, fun j hj hj2 => ?_⟩, by omega⟩
      rcases Nat.lt_or_ge j k with h4 | h4
      · exact hall j h4 hj2
      · obtain rfl : j = k := by omega
        simpa using h3
  · obtain rfl : k = l.length := by omega
    refine wp_some (wp_some (.inl ⟨rfl, ?_⟩))
    refine Bool.eq_false_iff.2 fun hc => ?_
    obtain ⟨x, hx, hx2⟩ := List.any_eq_true.1 hc
    obtain ⟨j, hj, rfl⟩ := List.getElem_of_mem hx
    rw [hall j hj hj] at hx2
    cases hx2
/-- the library's ContainsFunc -/
theorem contS {f : α → Option Bool} (c : α → Bool) (l : List α) (hf : ∀ x, x ∈ l → f x = some (c x)) (hl : l.length < 9223372036854775807)
    {body : Int → Option (Step Int Unit Int)}
    (hb : ∀ (i : Int), body i = if i < (l.length : Int) then ((at? l i).bind fun v => (f v).bind fun r => if r = true then some (.ret i) else some (.next (w64 (i + 1)))) else some (.brk ())) :
    ((onL (loop body loopLim 0) (fun (_ : Unit) => some (-1 : Int)) (fun r => some r)).bind fun r => some (decide (r ≥ 0))) = some (l.any c) := by
  obtain ⟨r, h1, h2⟩ := idxFS c l hf hl hb
  rw [h1, Option.bind_some]
  rcases h2 with ⟨rfl, h⟩ | ⟨k, rfl, _, _, _, h⟩
  · rw [h]; rfl
  · rw [h, decide_eq_true (by omega)]
/-- a loop whose state at each round is told -/
theorem wp_cnt {S B : Type} {Q : γ → Prop} {body : S → Option (Step S B R)} {kb : B → Option γ} {kr : R → Option γ} {s0 : S} (st : Nat → S) (n : Nat) (h0 : s0 = st 0) (hn : n < 18446744073709551616)
    (hs : ∀ k, k < n → body (st k) = some (.next (st (k + 1)))) {b : B} (he : body (st n) = some (.brk b)) (hq : wp (kb b) Q) : wp (onL (loop body loopLim s0) kb kr) Q := by
  rw [h0, loop_brk st n hn hs he]; exact hq
end
end Go.Vs

namespace Go.Vs
theorem wp_seq {α β : Type} {A : Option β} {k : β → Option α} {P : β → Prop} {Q : α → Prop} (h : wp A P) (hk : ∀ x, P x → wp (k x) Q) : wp (A.bind k) Q := by
  obtain ⟨x, rfl, hx⟩ := h; exact hk x hx
end Go.Vs
namespace Go.Vs.G
open Go Go.Vs

section
variable {α : Type} {Q : α → Prop} {B : Int} {s : GL00Src}
theorem wp_pick {n : Int} {k : Int × GL00Src → Option α} (h : SrcOk B s) (hB : B ≤ 4611686018427387000) (hk : ∀ v s', 0 ≤ v → (v = 0 ∨ v < n) → SrcOk (B + 2) s' → wp (k (v, s')) Q) : wp ((spec_l00Src_pick s n).bind k) Q := by
  obtain ⟨v, s', e, h0, h1, h2⟩ := pick_ok h hB n
  rw [e]; exact hk v s' h0 h1 h2
theorem wp_one {n : Int} {k : Bool × GL00Src → Option α} (h : SrcOk B s) (hB : B ≤ 4611686018427387000) (hk : ∀ v s', SrcOk (B + 2) s' → wp (k (v, s')) Q) : wp ((spec_l00Src_one s n).bind k) Q := by
  obtain ⟨v, s', e, h2⟩ := one_ok h hB n
  rw [e]; exact hk v s' h2
theorem wp_among {l : List Int} {k : Int × GL00Src → Option α} (h : SrcOk B s) (hB : B ≤ 4611686018427387000) (hl : 1 ≤ l.length) (hl2 : l.length ≤ 1000) (hk : ∀ v s', v ∈ l → SrcOk (B + 2) s' → wp (k (v, s')) Q) : wp ((spec_l00Src_among s l).bind k) Q := by
  obtain ⟨v, s', e, h1, h2⟩ := among_ok h hB hl hl2
  rw [e]; exact hk v s' h1 h2
theorem wp_from {code : List Int} {k : GL00Src → Option α} (h : okL (okI .u8) code) (hl : code.length ≤ 1000000) (hk : ∀ s, SrcOk 0 s → wp (k s) Q) : wp ((spec_l00From code).bind k) Q := hk _ (srcOk_from h hl)
theorem wp_bif {b : Bool} {A A' : Option α} (h1 : b = true → wp A Q) (h2 : b = false → wp A' Q) : wp (if b = true then A else A') Q := by
  cases b
  · exact h2 rfl
  · exact h1 rfl
end
end Go.Vs.G

namespace Go.Vs
open Go
section
variable {α : Type} [Inhabited α]
def gd (l : List α) (i : Nat) : α := l.getD i default
theorem gd_of {l : List α} {i : Nat} (h : i < l.length) : gd l i = l[i] := by unfold gd; simp [h]
theorem at_gd {l : List α} {i : Nat} (h : i < l.length) : at? l (i : Int) = some (gd l i) := by rw [at_of h, gd_of h]
theorem gd_mem {l : List α} {i : Nat} (h : i < l.length) : gd l i ∈ l := by rw [gd_of h]; exact List.getElem_mem h
theorem gd_tab {f : Nat → α} {n i : Nat} (h : i < n) : gd (tab f n) i = f i := by rw [gd_of (by simpa using h)]; simp [tab]
theorem gd_append {l m : List α} {i : Nat} : gd (l ++ m) i = if i < l.length then gd l i else gd m (i - l.length) := by
  unfold gd; rw [List.getD_eq_getElem?_getD, List.getElem?_append]; split <;> rfl
theorem ext_gd {l m : List α} (hl : l.length = m.length) (h : ∀ i, i < l.length → gd l i = gd m i) : l = m := by
  refine List.ext_getElem hl fun i h1 h2 => ?_
  have := h i h1
  rwa [gd_of h1, gd_of h2] at this
theorem tab_gd (l : List α) : tab (gd l) l.length = l := (eq_tab l default).symm
end
end Go.Vs
namespace Go.Vs.G
open Go Go.Vs
def vpt (p : GPoint) : Bool := decide (0 ≤ p.X ∧ p.X ≤ 1000) && decide (0 ≤ p.Y ∧ p.Y ≤ 1000)
def vps (j : List GPoint) : Bool := decide (1 ≤ j.length ∧ j.length ≤ 8) && j.all vpt
theorem within_d (n a b : Int) : impl_within n a b = some (decide (a ≤ n ∧ n ≤ b)) := by
  unfold impl_within
  by_cases h : n ≥ a
  · rw [if_pos h]; exact congrArg some (decide_eq_decide.2 (by omega))
  · rw [if_neg h, decide_eq_false (by omega)]
theorem l00In_d (n a b : Int) : spec_l00In n a b = some (decide (a ≤ n ∧ n ≤ b)) := by
  unfold spec_l00In
  by_cases h : n ≥ a
  · rw [if_pos h]; exact congrArg some (decide_eq_decide.2 (by omega))
  · rw [if_neg h, decide_eq_false (by omega)]
/- what lies between -/
def rnd (u d : Int) : Int := (2 * u + d) / (2 * d)
theorem rounded_eq {u d : Int} (h0 : 0 ≤ u) (h1 : u ≤ 1000000000) (d0 : 1 ≤ d) (d1 : d ≤ 1000000) : impl_rounded u d = some (rnd u d) := by
  unfold impl_rounded rnd
  rw [w64_id (n := 2 * u) (by omega) (by omega), w64_id (n := 2 * u + d) (by omega) (by omega), w64_id (n := 2 * d) (by omega) (by omega), div_ok (by omega), mod_ok (by omega), Option.bind_some, Option.bind_some]
  have e1 : (2 * u + d).tdiv (2 * d) = (2 * u + d) / (2 * d) := Int.tdiv_eq_ediv_of_nonneg (by omega)
  have e2 : (2 * u + d).tmod (2 * d) = (2 * u + d) % (2 * d) := Int.tmod_eq_emod_of_nonneg (by omega)
  have g1 : 0 ≤ (2 * u + d) / (2 * d) := Int.ediv_nonneg (by omega) (by omega)
  have g2 : (2 * u + d) / (2 * d) ≤ 2 * u + d := Int.ediv_le_self _ (by omega)
  have g3 : 0 ≤ (2 * u + d) % (2 * d) := Int.emod_nonneg _ (by omega)
  rw [e1, e2, if_neg (by omega)]
  exact congrArg some (w64_id (by omega) (by omega))
section
variable {a b : List GPoint} (ha : vps a = true) (hb : vps b = true) (hl : a.length = b.length) {p n : Int} (hp : 0 ≤ p ∧ p ≤ n) (hn : 1 ≤ n ∧ n ≤ 10000)
include ha hb hl hp hn
end
end Go.Vs.G

namespace Go.Vs
open Go
/-- a sum -/
def sm (f : Nat → Int) : Nat → Int
  | 0 => 0
  | k + 1 => sm f k + f k
theorem sm_bd {f : Nat → Int} {lo hi : Int} : ∀ {k : Nat}, (∀ i, i < k → lo ≤ f i ∧ f i ≤ hi) → lo * k ≤ sm f k ∧ sm f k ≤ hi * k
  | 0, _ => by simp [sm]
  | k + 1, h => by
    have h1 := sm_bd (k := k) fun i hi => h i (by omega)
    have h2 := h k (by omega)
    rw [sm, Int.natCast_succ, Int.mul_add, Int.mul_add]; omega
/-- a loop that adds up -/
theorem sumL {γ R : Type} (f : Nat → Int) (n : Nat) (hf : ∀ i, i < n → -2000 ≤ f i ∧ f i ≤ 2000) (hn : n ≤ 1000)
    {body : Int × Int → Option (Step (Int × Int) Int R)} {kb : Int → Option γ} {kr : R → Option γ}
    (hb : ∀ (k : Nat) (s : Int), k < n → body (s, (k : Int)) = some (.next (w64 (s + f k), w64 ((k : Int) + 1)))) (he : ∀ s : Int, body (s, (n : Int)) = some (.brk s)) :
    onL (loop body loopLim (0, 0)) kb kr = kb (sm f n) := by
  have := loop_brk (body := body) (fun k : Nat => (sm f k, (k : Int))) (b := sm f n) n (by omega) (fun k hk => by
    have h1 := sm_bd (k := k) fun i hi => hf i (by omega)
    have h2 := hf k hk
    rw [hb k _ hk, w64_id (by omega) (by omega), w64_id (by omega) (by omega)]; rfl) (he _)
  simp only [sm, Int.natCast_zero] at this
  rw [this]; rfl
end Go.Vs
namespace Go.Vs.G
open Go Go.Vs
def vlp (l : List Int) : Bool := decide (1 ≤ l.length ∧ l.length ≤ 60) && l.all fun x => decide (0 ≤ x ∧ x ≤ 1000)
theorem ValidLoop_eq {l : List Int} (hl : l.length ≤ 1000000) : impl_ValidLoop l = some (vlp l) := by
  unfold impl_ValidLoop vlp
  have hcf : slices_ContainsFunc_int64_int64_796 l (fun a0 => impl_ValidLoop_1 a0) = some (l.any fun p => !decide (0 ≤ p ∧ p ≤ 1000)) := by
    unfold slices_ContainsFunc_int64_int64_796 slices_IndexFunc_int64_int64_818
    refine contS (fun p => !decide (0 ≤ p ∧ p ≤ 1000)) l (fun p hp => ?_) (by omega) (fun _ => rfl)
    unfold impl_ValidLoop_1
    rw [within_d, Option.bind_some]
  rw [hcf, Option.bind_some]
  have e : (!l.any fun p => !decide (0 ≤ p ∧ p ≤ 1000)) = l.all fun p => decide (0 ≤ p ∧ p ≤ 1000) := by rw [List.not_any_eq_all_not]; simp
  rw [e]
  by_cases h1 : 1 ≤ l.length
  · by_cases h2 : l.length ≤ 60
    · rw [if_pos (by omega), if_pos (by omega), decide_eq_true ⟨h1, h2⟩, Bool.true_and]
    · rw [if_pos (by omega), if_neg (by omega), decide_eq_false (by omega), Bool.false_and]
  · rw [if_neg (by omega), decide_eq_false (by omega), Bool.false_and]
theorem l05Ok_eq {l : List Int} (hl : l.length ≤ 1000000) : spec_l05Ok l = some (vlp l) := by
  unfold spec_l05Ok
  rw [allS (fun x => decide (0 ≤ x ∧ x ≤ 1000)) l (f := fun x => some (decide (0 ≤ x ∧ x ≤ 1000))) (fun _ _ => rfl) (by omega) (r := false)]
  · rw [l00In_d, Option.bind_some]
    unfold vlp
    by_cases h : ∀ x, x ∈ l → decide (0 ≤ x ∧ x ≤ 1000) = true
    · rw [if_pos h, List.all_eq_true.2 h, Bool.and_true]; exact congrArg some (decide_eq_decide.2 (by omega))
    · rw [if_neg h]
      have : (l.all fun x => decide (0 ≤ x ∧ x ≤ 1000)) = false := by rw [Bool.eq_false_iff]; exact fun hc => h (List.all_eq_true.1 hc)
      rw [this, Bool.and_false]
  · intro i
    by_cases hi : i < (l.length : Int)
    · rw [if_pos hi, if_pos hi]
      cases ha : at? l i with
      | none => rfl
      | some v => simp only [Option.bind_some, l00In_d]
    · rw [if_neg hi, if_neg hi]
theorem vlp_len {l : List Int} (h : vlp l = true) : 1 ≤ l.length ∧ l.length ≤ 60 := by
  unfold vlp at h
  simp only [Bool.and_eq_true, decide_eq_true_eq, List.all_eq_true] at h
  exact h.1
theorem vlp_mem {l : List Int} (h : vlp l = true) {x : Int} (hx : x ∈ l) : 0 ≤ x ∧ x ≤ 1000 := by
  unfold vlp at h
  simp only [Bool.and_eq_true, decide_eq_true_eq, List.all_eq_true] at h
  exact h.2 x hx
theorem vlp_gd {l : List Int} (h : vlp l = true) {i : Nat} (hi : i < l.length) : 0 ≤ gd l i ∧ gd l i ≤ 1000 := vlp_mem h (gd_mem hi)
/- turned -/
def trn (l : List Int) (k : Nat) : List Int := tab (fun i => gd l ((i + k) % l.length)) l.length
theorem trn_len (l : List Int) (k : Nat) : (trn l k).length = l.length := by simp [trn]
theorem gd_trn {l : List Int} {k i : Nat} (hi : i < l.length) : gd (trn l k) i = gd l ((i + k) % l.length) := gd_tab hi
theorem trn_bd {l : List Int} (h : vlp l = true) {k i : Nat} (hi : i < l.length) : 0 ≤ gd (trn l k) i ∧ gd (trn l k) i ≤ 1000 := by
  rw [gd_trn hi]; exact vlp_gd h (Nat.mod_lt _ (by omega))
theorem Concat2 {a b : List Int} (h1 : 1 ≤ a.length + b.length) (h2 : a.length + b.length ≤ 1000) : slices_Concat_int64_int64_793 [a, b] = some (a ++ b) := by
  unfold slices_Concat_int64_int64_793
  refine eq_of_wp ?_
  refine wp_cnt (fun k => match k with | 0 => ((0 : Int), (0 : Int)) | 1 => ((a.length : Int), 1) | _ => ((a.length + b.length : Int), 2)) 2 rfl (by omega) (fun k hk => ?_) (b := (a.length + b.length : Int)) ?_ ?_
  · match k, hk with
    | 0, _ =>
      simp only [List.length_cons, List.length_nil]
      rw [if_pos (by decide), show at? [a, b] 0 = some a from rfl, Option.bind_some, w64_id (n := (0 : Int) + a.length) (by omega) (by omega), if_neg (by omega), Int.zero_add]; rfl
    | 1, _ =>
      simp only [List.length_cons, List.length_nil]
      rw [if_pos (by decide), show at? [a, b] 1 = some b from rfl, Option.bind_some, w64_id (n := (a.length : Int) + b.length) (by omega) (by omega), if_neg (by omega)]; rfl
  · rfl
  · have hg : slices_Grow_int64 (a.length + b.length : Int) = some [] := by unfold slices_Grow_int64; rw [if_pos (by omega)]
    rw [hg, Option.bind_some]
    refine wp_cnt (fun k => match k with | 0 => (([] : List Int), (0 : Int)) | 1 => (a, 1) | _ => (a ++ b, 2)) 2 rfl (by omega) (fun k hk => ?_) (b := a ++ b) ?_ (wp_some rfl)
    · match k, hk with
      | 0, _ =>
        simp only [List.length_cons, List.length_nil]
        rw [if_pos (by decide), show at? [a, b] 0 = some a from rfl, Option.bind_some, app_ok (by simp; omega), Option.bind_some, List.nil_append]; rfl
      | 1, _ =>
        simp only [List.length_cons, List.length_nil]
        rw [if_pos (by decide), show at? [a, b] 1 = some b from rfl, Option.bind_some, app_ok (by omega), Option.bind_some]; rfl
    · rfl
theorem turnLoop_eq {l : List Int} (h1 : 1 ≤ l.length) (h2 : l.length ≤ 100) (k : Nat) : impl_turnLoop l (k : Int) = some (trn l k) := by
  unfold impl_turnLoop
  have hm : k % l.length < l.length := Nat.mod_lt _ (by omega)
  rw [mod_ok (by omega), show ((k : Int).tmod (l.length : Int)) = ((k % l.length : Nat) : Int) from rfl, Option.bind_some, sub_ok (by omega) (by omega) (by omega), sub_ok (by omega) (by omega) (by omega), Option.bind_some, Option.bind_some,
    Concat2 (by simp; omega) (by simp; omega), Option.bind_some]
  refine congrArg some (ext_gd (by rw [trn_len]; simp; omega) fun i hi => ?_)
  have hi : i < l.length := by simp at hi; omega
  rw [gd_trn hi]
  simp only [Int.toNat_natCast, List.take_length, Int.toNat_zero, List.drop_zero]
  rw [gd_append]
  split
  · rename_i hc
    rw [List.length_drop] at hc
    rw [show (i + k) % l.length = k % l.length + i by
      rw [Nat.add_mod, Nat.mod_eq_of_lt hi, Nat.mod_eq_of_lt (by omega)]; omega]
    unfold gd; rw [List.getD_eq_getElem?_getD, List.getD_eq_getElem?_getD, List.getElem?_drop]
  · rename_i hc
    rw [List.length_drop] at hc ⊢
    have e : (i + k) % l.length = i - (l.length - k % l.length) := by
      rw [Nat.add_mod, Nat.mod_eq_of_lt hi, show i + k % l.length = (i - (l.length - k % l.length)) + l.length by omega, Nat.add_mod_right, Nat.mod_eq_of_lt (by omega)]
    rw [e]
    unfold gd; rw [List.getD_eq_getElem?_getD, List.getD_eq_getElem?_getD, List.getElem?_take_of_lt (by omega)]
theorem l05Turned_eq {l : List Int} (h1 : 1 ≤ l.length) (h2 : l.length ≤ 100) {k : Nat} (hk : k ≤ 100) : spec_l05Turned l (k : Int) = some (trn l k) := by
  unfold spec_l05Turned trn
  refine mapS' (f := fun i => (mod? (w64 (i + (k : Int))) (l.length : Int)).bind fun q1 => at? l q1) (fun i => gd l ((i + k) % l.length)) l.length (fun i hi => ?_) (by omega) (fun out i => ?_)
  · rw [w64_id (by omega) (by omega), mod_ok (by omega), Option.bind_some, show ((i : Int) + (k : Int)).tmod (l.length : Int) = (((i + k) % l.length : Nat) : Int) from rfl]
    exact at_gd (Nat.mod_lt _ (by omega))
  · by_cases hi : i < (l.length : Int)
    · simp only [if_pos hi, Option.bind_assoc]
    · simp only [if_neg hi]
end Go.Vs.G

namespace Go.Vs.G
open Go Go.Vs
section
variable {l : List Int} (h : vlp l = true)
include h
end
/- the best turn -/
section
variable {a b : List Int} (ha : vlp a = true) (hb : vlp b = true) (hl : a.length = b.length)
include ha hb hl
end
/- the common length -/
theorem common_eq {a b : Int} (ha : 1 ≤ a ∧ a ≤ 60) (hb : 1 ≤ b ∧ b ≤ 60) : ∃ m, impl_commonLength a b = some m ∧ spec_l05Common a b = some m ∧ m.tmod a = 0 ∧ m.tmod b = 0 ∧ 1 ≤ m ∧ m ≤ a * b := by
  have hg : 0 < (Int.gcd a b : Int) := by
    have := Int.gcd_pos_of_ne_zero_left b (show a ≠ 0 by omega)
    omega
  obtain ⟨p, q, h1, h2, _⟩ := div_gcd (a := a) (b := b) _ hg rfl
  have hp := pos_of_mul hg (show 0 < (Int.gcd a b : Int) * p by omega)
  have hq := pos_of_mul hg (show 0 < (Int.gcd a b : Int) * q by omega)
  have hd : a.tdiv (Int.gcd a b : Int) = p := by
    rw [Int.tdiv_eq_ediv_of_nonneg (by omega)]
    exact Int.ediv_eq_of_eq_mul_right (by omega) h1
  have hpa : p ≤ a := by
    have := Int.mul_le_mul_of_nonneg_right (show (1 : Int) ≤ (Int.gcd a b : Int) by omega) (show 0 ≤ p by omega)
    omega
  have hm1 : 0 < p * b := Int.mul_pos hp (by omega)
  have hm2 : p * b ≤ a * b := Int.mul_le_mul_of_nonneg_right hpa (by omega)
  have hm3 : a * b ≤ 60 * 60 := Int.mul_le_mul ha.2 hb.2 (by omega) (by omega)
  refine ⟨p * b, ?_, ?_, ?_, ?_, by omega, hm2⟩
  · unfold impl_commonLength
    rw [impl_gcd_eq (by omega) (by omega), Option.bind_some, div_ok (by omega), Option.bind_some, hd]
    show some (w64 (w64 p * b)) = _
    rw [w64_id (n := p) (by omega) (by omega), w64_id (by omega) (by omega)]
  · unfold spec_l05Common
    rw [spec_l00Gcd_eq (by omega) (by omega) (by omega), Option.bind_some, div_ok (by omega), Option.bind_some, hd]
    show some (w64 (w64 p * b)) = _
    rw [w64_id (n := p) (by omega) (by omega), w64_id (by omega) (by omega)]
  · refine Int.tmod_eq_zero_of_dvd ⟨q, ?_⟩
    calc p * b = p * ((Int.gcd a b : Int) * q) := by rw [← h2]
      _ = ((Int.gcd a b : Int) * p) * q := by simp only [Int.mul_assoc, Int.mul_comm, Int.mul_left_comm]
      _ = a * q := by rw [← h1]
  · exact Int.tmod_eq_zero_of_dvd ⟨p, Int.mul_comm _ _⟩
end Go.Vs.G

namespace Go.Vs.G
open Go Go.Vs
theorem l00Max_some (a b : Int) : ∃ v, spec_l00Max a b = some v := by
  unfold spec_l00Max; split
  · exact ⟨_, rfl⟩
  · exact ⟨_, rfl⟩
theorem l05New_ok {B n : Int} {s : GL00Src} (h : SrcOk B s) (hB : B ≤ 1000000) (hn : n ≤ 100) : wp (spec_l05New s n) fun r => SrcOk (B + 300) r.2 ∧ (r.1.length : Int) = max 0 n := by
  unfold spec_l05New
  refine wp_pick h (by omega) fun v s' _ _ h1 => ?_
  simp only
  refine wp_loop (fun q : GL00Src × List Int × Int × Int => SrcOk (B + 2 + 2 * (q.2.1.length : Int)) q.1 ∧ (q.2.1.length : Int) + max 0 q.2.2.2 = max 0 n) (fun q => q.2.2.2.toNat) ⟨by simpa using h1, by simp⟩ (by simp only; omega) ?_
  rintro ⟨s2, out, at1, k⟩ ⟨h2, h3⟩
  simp only at h2 h3 ⊢
  refine wp_ite (fun hk => ?_) (fun hk => ?_)
  · rw [app_ok (by simp; omega), Option.bind_some]
    refine wp_pick h2 (by omega) fun v2 s3 _ _ h4 => ?_
    obtain ⟨m, hm⟩ := l00Max_some 0 (w64 ((w64 (at1 + v2)) - 14))
    simp only
    rw [hm, Option.bind_some, w64_id (n := k - 1) (by omega) (by omega)]
    refine wp_some ⟨⟨h4.mono (by simp; omega), ?_⟩, by simp only; omega⟩
    simp; omega
  · refine wp_some (wp_some ⟨h2.mono (by omega), ?_⟩)
    simp only; omega
theorem l05Draw_ok {B : Int} {s : GL00Src} (h : SrcOk B s) (hB : B ≤ 100000) : wp (spec_l05Draw s) fun r => SrcOk (B + 400) r.2 ∧ r.1.length ≤ 61 := by
  unfold spec_l05Draw
  refine wp_pick h (by omega) fun v s1 v0 v1 h1 => ?_
  refine wp_one h1 (by omega) fun b1 s2 h2 => ?_
  simp only
  refine wp_seq (P := fun q : GL00Src × Int => SrcOk (B + 6) q.1 ∧ q.2 ≤ 61) ?_ ?_
  · refine wp_ite (fun _ => ?_) (fun _ => wp_some ⟨h2.mono (by omega), ?_⟩)
    · refine wp_among h2 (by omega) (by simp) (by simp) fun x s3 hx h3 => wp_some ⟨h3.mono (by omega), ?_⟩
      simp only [List.mem_cons, List.not_mem_nil, or_false] at hx
      rcases hx with rfl | rfl | rfl | rfl <;> simp
    · simp only; rw [w64_id (by omega) (by omega)]; omega
  · rintro ⟨s3, n⟩ ⟨h3, hn⟩
    simp only at h3 hn ⊢
    refine wp_seq (l05New_ok h3 (by omega) (by omega)) ?_
    rintro ⟨l, s4⟩ ⟨h4, hl⟩
    simp only at h4 hl ⊢
    refine wp_seq (P := fun q : GL00Src × Bool => SrcOk (B + 310) q.1 ∧ (q.2 = true → 0 < n)) ?_ ?_
    · refine wp_ite (fun hn0 => ?_) (fun _ => wp_some ⟨h4.mono (by omega), fun hc => by simp at hc⟩)
      refine wp_one h4 (by omega) fun b s5 h5 => wp_some ⟨h5.mono (by omega), fun _ => hn0⟩
    · rintro ⟨s5, b⟩ ⟨h5, hb⟩
      simp only at h5 hb ⊢
      refine wp_bif (fun hbt => ?_) (fun _ => wp_some ⟨h5.mono (by omega), by simp only; omega⟩)
      have hn0 := hb hbt
      refine wp_pick h5 (by omega) fun j s6 j0 j1 h6 => ?_
      refine wp_among h6 (by omega) (by simp) (by simp) fun x s7 _ h7 => ?_
      simp only
      rw [at_ok j0 (by omega), Option.bind_some]
      exact wp_some ⟨h7.mono (by omega), by simp; omega⟩
section
variable {code : List Int} (hc : okL (okI .u8) code) (hl : code.length ≤ 4096)
include hc hl
end
theorem f6intsO (a b : List Int) (ha : a.length < 9223372036854775807) : laws_f6ints a b = some (decide (a = b)) := by
  unfold laws_f6ints; exact eqSp a b ha
end Go.Vs.G

namespace Go.Vs
open Go
theorem sm_take (l : List Int) : ∀ k, k ≤ l.length → sm (gd l) k = (l.take k).sum
  | 0, _ => rfl
  | k + 1, h => by
    rw [sm, sm_take l k (by omega), List.take_add_one, List.getElem?_eq_getElem (show k < l.length by omega), List.sum_append, gd_of (show k < l.length by omega)]
    simp
theorem sm_sum (l : List Int) : sm (gd l) l.length = l.sum := by rw [sm_take l _ (Nat.le_refl _), List.take_length]
end Go.Vs
namespace Go.Vs.G
open Go Go.Vs
theorem trn_drop {l : List Int} (h1 : 1 ≤ l.length) (k : Nat) : l.drop (k % l.length) ++ l.take (k % l.length) = trn l k := by
  have hm : k % l.length < l.length := Nat.mod_lt _ (by omega)
  refine ext_gd (by rw [trn_len]; simp; omega) fun i hi => ?_
  have hi : i < l.length := by simp at hi; omega
  rw [gd_trn hi, gd_append]
  split
  · rename_i hc
    rw [List.length_drop] at hc
    rw [show (i + k) % l.length = k % l.length + i by
      rw [Nat.add_mod, Nat.mod_eq_of_lt hi, Nat.mod_eq_of_lt (by omega)]; omega]
    unfold gd; rw [List.getD_eq_getElem?_getD, List.getD_eq_getElem?_getD, List.getElem?_drop]
  · rename_i hc
    rw [List.length_drop] at hc ⊢
    have e : (i + k) % l.length = i - (l.length - k % l.length) := by
      rw [Nat.add_mod, Nat.mod_eq_of_lt hi, show i + k % l.length = (i - (l.length - k % l.length)) + l.length by omega, Nat.add_mod_right, Nat.mod_eq_of_lt (by omega)]
    rw [e]
    unfold gd; rw [List.getD_eq_getElem?_getD, List.getD_eq_getElem?_getD, List.getElem?_take_of_lt (by omega)]
theorem trn_sum {l : List Int} (h1 : 1 ≤ l.length) (k : Nat) : (trn l k).sum = l.sum := by
  rw [← trn_drop h1 k, List.sum_append, Int.add_comm, ← List.sum_append, List.take_append_drop]
theorem f6sum_eq {l : List Int} (hl : l.length ≤ 1000) (hb : ∀ i, i < l.length → 0 ≤ gd l i ∧ gd l i ≤ 1000) : laws_f6sum l = some l.sum := by
  unfold laws_f6sum
  rw [sumL (gd l) l.length (fun i hi => by have := hb i hi; omega) hl (fun k s hk => by
    simp only; rw [if_pos (by omega), at_gd hk, Option.bind_some]) (fun s => by simp only; rw [if_neg (by omega)]), sm_sum]
theorem TurnLoop_same {l : List Int} {b : Int} (hl : l.length ≤ 1000) : ∃ r : List Int × Int, impl_TurnLoop l b = some r ∧ spec_TurnLoop l b = some r ∧ r.1.length ≤ 1000 ∧ (r.2 = 0 → laws_f6sum r.1 = some l.sum ∧ laws_f6sum l = some l.sum) := by
  unfold impl_TurnLoop spec_TurnLoop
  rw [ValidLoop_eq (by omega), l05Ok_eq (by omega), within_d, l00In_d]
  by_cases hv : vlp l = true
  · obtain ⟨l1, l2⟩ := vlp_len hv
    by_cases hb : 0 ≤ b ∧ b ≤ 60
    · rw [decide_eq_true hb]
      simp only [hv, Option.bind_some, if_true]
      rw [show b = ((b.toNat : Nat) : Int) by omega, turnLoop_eq (by omega) (by omega), l05Turned_eq (by omega) (by omega) (by omega)]
      refine ⟨_, rfl, rfl, by simp only; rw [trn_len]; omega, fun _ => ⟨?_, f6sum_eq hl fun i hi => vlp_gd hv hi⟩⟩
      simp only
      rw [f6sum_eq (by rw [trn_len]; omega) fun i hi => trn_bd hv (by rw [trn_len] at hi; exact hi), trn_sum l1]
    · rw [decide_eq_false hb]
      simp only [hv, Option.bind_some, if_true, Bool.false_eq_true, if_false]
      exact ⟨_, rfl, rfl, by simp, fun hc => absurd hc (by decide)⟩
  · have hv : vlp l = false := by simpa using hv
    simp only [hv, Option.bind_some, Bool.false_eq_true, if_false]
    exact ⟨_, rfl, rfl, by simp, fun hc => absurd hc (by decide)⟩
/- thinned -/
theorem thin_eq {l : List Int} {e : Int} {kb : List Int → Option (List Int × Int)} (hl1 : 1 ≤ l.length) (hl : l.length ≤ 1000) (he : 1 ≤ e ∧ e ≤ 60) (hd : (l.length : Int).tmod e = 0) :
    ∃ out : List Int, (out.length : Int) * e = l.length ∧ onL (loop (S := ((List Int) × Int)) (B := (List Int)) (R := Empty) (fun ((out1, i1) : (List Int) × Int) =>
 if i1 < (l.length : Int) then
 ((at? l i1).bind fun v1 =>
 (app? out1 ([v1] : List Int)).bind fun l1 =>
 some (.next (l1, w64 (i1 + e))))
 else
 some (.brk out1)) loopLim ([], 0)) kb Empty.elim = kb out := by
  obtain ⟨q, hq⟩ := Int.dvd_of_tmod_eq_zero hd
  have hq0 : 0 < q := pos_of_mul (show 0 < e by omega) (by omega)
  have hqn : (q.toNat : Int) = q := by omega
  have hql : q ≤ l.length := by
    have := Int.mul_le_mul_of_nonneg_right (show (1 : Int) ≤ e by omega) (show 0 ≤ q by omega)
    omega
  have hlt : ∀ k : Nat, k < q.toNat → (k : Int) * e + e ≤ l.length := fun k hk => by
    have := Int.mul_le_mul_of_nonneg_right (show (k : Int) + 1 ≤ q by omega) (show 0 ≤ e by omega)
    rw [Int.add_mul, Int.one_mul, Int.mul_comm q e] at this
    omega
  refine ⟨tab (fun j => gd l ((j : Int) * e).toNat) q.toNat, by rw [tab_length, hqn, Int.mul_comm]; exact hq.symm, ?_⟩
  have := loop_brk (R := Empty) (body := fun ((out1, i1) : (List Int) × Int) =>
 if i1 < (l.length : Int) then
 ((at? l i1).bind fun v1 =>
 (app? out1 ([v1] : List Int)).bind fun l1 =>
 some (.next (l1, w64 (i1 + e))))
 else
 some (.brk out1)) (fun k : Nat => (tab (fun j => gd l ((j : Int) * e).toNat) k, (k : Int) * e)) (b := tab (fun j => gd l ((j : Int) * e).toNat) q.toNat) q.toNat (by omega) (fun k hk => by
    have h1 := hlt k hk
    have h0 : 0 ≤ (k : Int) * e := Int.mul_nonneg (by omega) (by omega)
    simp only
    rw [if_pos (by omega), show (k : Int) * e = ((((k : Int) * e).toNat : Nat) : Int) by omega, at_gd (by omega), Option.bind_some, app_ok (by simp; omega), Option.bind_some, w64_id (by omega) (by omega), tab_succ]
    congr 3
    rw [Int.natCast_succ, Int.add_mul, Int.one_mul]; omega) (by
    simp only
    rw [if_neg (by rw [hqn, Int.mul_comm]; omega)])
  simp only [tab_zero, Int.natCast_zero, Int.zero_mul] at this
  rw [this]; rfl
theorem Thin_same {l : List Int} {e : Int} (hl : l.length ≤ 1000) : ∃ r : List Int × Int, impl_ThinLoop l e = some r ∧ spec_ThinLoop l e = some r ∧ r.1.length ≤ 1000 ∧ (r.2 = 0 → w64 ((r.1.length : Int) * e) = l.length) := by
  unfold impl_ThinLoop spec_ThinLoop
  rw [ValidLoop_eq (by omega), l05Ok_eq (by omega), within_d, l00In_d]
  by_cases hv : vlp l = true
  · obtain ⟨l1, l2⟩ := vlp_len hv
    by_cases hb : 1 ≤ e ∧ e ≤ 60
    · rw [decide_eq_true hb]
      simp only [hv, Option.bind_some, if_true]
      rw [mod_ok (by omega), Option.bind_some]
      by_cases hd : (l.length : Int).tmod e = 0
      · rw [if_pos hd]
        obtain ⟨out, ho, hr⟩ := thin_eq (kb := fun out2 => some (out2, 0)) l1 hl hb hd
        refine ⟨(out, 0), hr, hr, ?_, fun _ => by simp only; rw [ho, w64_id (by omega) (by omega)]⟩
        have h2 := Int.mul_le_mul_of_nonneg_left (show (1 : Int) ≤ e by omega) (show (0 : Int) ≤ out.length by omega)
        simp only; omega
      · rw [if_neg hd]
        exact ⟨_, rfl, rfl, by simp, fun hc => absurd hc (by decide)⟩
    · rw [decide_eq_false hb]
      simp only [hv, Option.bind_some, if_true, Bool.false_eq_true, if_false]
      exact ⟨_, rfl, rfl, by simp, fun hc => absurd hc (by decide)⟩
  · have hv : vlp l = false := by simpa using hv
    simp only [hv, Option.bind_some, Bool.false_eq_true, if_false]
    exact ⟨_, rfl, rfl, by simp, fun hc => absurd hc (by decide)⟩
/- joined -/
def jn (a b : List Int) (m : Nat) : List (List Int) := tab (fun i => [gd a (i % a.length), gd b (i % b.length)]) m
theorem join_eq {a b : List Int} {m : Int} {kb : List (List Int) → Option (List (List Int) × Int)} (ha : 1 ≤ a.length) (hb : 1 ≤ b.length) (hm : 0 ≤ m ∧ m ≤ 360) :
    onL (loop (S := ((List (List Int)) × Int)) (B := (List (List Int))) (R := Empty) (fun ((out1, x2) : (List (List Int)) × Int) =>
 if x2 < m then
 ((mod? x2 (a.length : Int)).bind fun q1 =>
 (at? a q1).bind fun v1 =>
 (mod? x2 (b.length : Int)).bind fun q2 =>
 (at? b q2).bind fun v2 =>
 (app? out1 ([[v1, v2]] : List (List Int))).bind fun l1 =>
 some (.next (l1, w64 (x2 + 1))))
 else
 some (.brk out1)) loopLim ([], 0)) kb Empty.elim = kb (jn a b m.toNat) := by
  unfold jn
  refine mapS' (f := fun x => (mod? x (a.length : Int)).bind fun q1 => (at? a q1).bind fun v1 => (mod? x (b.length : Int)).bind fun q2 => (at? b q2).bind fun v2 => some [v1, v2]) (fun i => [gd a (i % a.length), gd b (i % b.length)]) m.toNat (fun i hi => ?_) (by omega) (fun out i => ?_)
  · have h1 := Nat.mod_lt i (show 0 < a.length by omega)
    have h2 := Nat.mod_lt i (show 0 < b.length by omega)
    rw [mod_ok (by omega), Option.bind_some, show (i : Int).tmod (a.length : Int) = ((i % a.length : Nat) : Int) from rfl, at_gd h1, Option.bind_some, mod_ok (by omega), Option.bind_some, show (i : Int).tmod (b.length : Int) = ((i % b.length : Nat) : Int) from rfl, at_gd h2, Option.bind_some]
  · rw [show ((m.toNat : Nat) : Int) = m by omega]
    by_cases hi : i < m
    · simp only [if_pos hi, Option.bind_assoc, Option.bind_some]
    · simp only [if_neg hi]
theorem Join_same {a b : List Int} (h1 : a.length ≤ 1000) (h2 : b.length ≤ 1000) : ∃ r : List (List Int) × Int, impl_JoinLoops a b = some r ∧ spec_JoinLoops a b = some r ∧
    ((r.2 ≠ 0 ∧ r.1 = []) ∨ (1 ≤ a.length ∧ 1 ≤ b.length ∧ ∃ m : Nat, m ≤ 360 ∧ r = (jn a b m, 0) ∧ (m : Int).tmod a.length = 0 ∧ (m : Int).tmod b.length = 0)) := by
  unfold impl_JoinLoops spec_JoinLoops
  rw [ValidLoop_eq (by omega), l05Ok_eq (by omega), ValidLoop_eq (by omega), l05Ok_eq (by omega)]
  by_cases ha : vlp a = true
  · by_cases hb : vlp b = true
    · obtain ⟨a1, a2⟩ := vlp_len ha
      obtain ⟨b1, b2⟩ := vlp_len hb
      obtain ⟨m, e1, e2, e3, e4, e5, e6⟩ := common_eq (a := a.length) (b := b.length) (by omega) (by omega)
      simp only [ha, hb, Option.bind_some, if_true, Bool.not_true, Bool.false_eq_true, if_false, e1, e2]
      by_cases hm : m > 360
      · rw [if_pos hm]
        exact ⟨_, rfl, rfl, .inl ⟨by decide, rfl⟩⟩
      · rw [if_neg hm]
        have := join_eq (a := a) (b := b) (m := m) (kb := fun out2 => some (out2, 0)) a1 b1 (by omega)
        refine ⟨(jn a b m.toNat, 0), this, this, .inr ⟨a1, b1, m.toNat, by omega, rfl, ?_, ?_⟩⟩
        · rw [show ((m.toNat : Nat) : Int) = m by omega]; exact e3
        · rw [show ((m.toNat : Nat) : Int) = m by omega]; exact e4
    · have hb : vlp b = false := by simpa using hb
      simp only [ha, hb, Option.bind_some, if_true, Bool.not_false]
      exact ⟨_, rfl, rfl, .inl ⟨by decide, rfl⟩⟩
  · have ha : vlp a = false := by simpa using ha
    simp only [ha, Option.bind_some, if_true, Bool.false_eq_true, if_false]
    exact ⟨_, rfl, rfl, .inl ⟨by decide, rfl⟩⟩
/- closed -/
theorem rounded_some {u d : Int} (hu : -1000000 ≤ u ∧ u ≤ 1000000) (hd : 1 ≤ d ∧ d ≤ 1000) : ∃ v, impl_rounded u d = some v ∧ spec_l00Round u d = some v ∧ -3000000 ≤ v ∧ v ≤ 3000000 ∧ (u = 0 → v = 0) := by
  have h0 : ∃ v, impl_rounded u d = some v ∧ -3000000 ≤ v ∧ v ≤ 3000000 := by
    unfold impl_rounded
    rw [w64_id (n := 2 * u) (by omega) (by omega), w64_id (n := 2 * u + d) (by omega) (by omega), w64_id (n := 2 * d) (by omega) (by omega), div_ok (by omega), mod_ok (by omega), Option.bind_some, Option.bind_some]
    have hb : ((2 * u + d).tdiv (2 * d)).natAbs ≤ (2 * u + d).natAbs := by rw [Int.natAbs_tdiv]; exact Nat.div_le_self _ _
    show ∃ v, (if (2 * u + d).tmod (2 * d) < 0 then some (w64 (w64 ((2 * u + d).tdiv (2 * d)) - 1)) else some (w64 ((2 * u + d).tdiv (2 * d)))) = some v ∧ _
    rw [w64_id (n := (2 * u + d).tdiv (2 * d)) (by omega) (by omega), w64_id (n := (2 * u + d).tdiv (2 * d) - 1) (by omega) (by omega)]
    split
    · exact ⟨_, rfl, by omega, by omega⟩
    · exact ⟨_, rfl, by omega, by omega⟩
  obtain ⟨v, hv, h1, h2⟩ := h0
  refine ⟨v, hv, ?_, h1, h2, fun hz => ?_⟩
  · have hv2 := hv
    unfold impl_rounded at hv2
    unfold spec_l00Round spec_l00Floor
    rw [hv2]; rfl
  · subst hz
    rw [rounded_eq (by omega) (by omega) (by omega) (by omega)] at hv
    have : rnd 0 d = 0 := by unfold rnd; rw [Int.mul_zero, Int.zero_add]; exact Int.ediv_eq_zero_of_lt (by omega) (by omega)
    rw [this] at hv
    simpa using hv.symm
def rdi (u d : Int) : Int := (impl_rounded u d).getD 0
theorem rdi_ok {u d : Int} (hu : -1000000 ≤ u ∧ u ≤ 1000000) (hd : 1 ≤ d ∧ d ≤ 1000) : impl_rounded u d = some (rdi u d) ∧ spec_l00Round u d = some (rdi u d) ∧ -3000000 ≤ rdi u d ∧ rdi u d ≤ 3000000 ∧ (u = 0 → rdi u d = 0) := by
  obtain ⟨v, h1, h2, h3, h4, h5⟩ := rounded_some hu hd
  have : rdi u d = v := by unfold rdi; rw [h1]; rfl
  rw [this]; exact ⟨h1, h2, h3, h4, h5⟩
def clm (x : Int) : Int := min 1000 (max 0 x)
/-- the closed loop at i: n places, the last k of them moved -/
def cls (l : List Int) (k : Nat) (i : Nat) : Int := clm (gd l i + rdi ((gd l 0 - gd l (l.length - 1)) * max 0 ((i : Int) - (l.length - k) + 1)) (k + 1))
section
variable {l : List Int} (hv : vlp l = true) {k : Nat} (hk : 1 ≤ k ∧ k ≤ l.length)
include hv hk
theorem cls_ok {i : Nat} (hi : i < l.length) : impl_rounded ((gd l 0 - gd l (l.length - 1)) * max 0 ((i : Int) - (l.length - k) + 1)) (k + 1) = some (rdi ((gd l 0 - gd l (l.length - 1)) * max 0 ((i : Int) - (l.length - k) + 1)) (k + 1)) ∧
    spec_l00Round ((gd l 0 - gd l (l.length - 1)) * max 0 ((i : Int) - (l.length - k) + 1)) (k + 1) = some (rdi ((gd l 0 - gd l (l.length - 1)) * max 0 ((i : Int) - (l.length - k) + 1)) (k + 1)) ∧
    -3000000 ≤ rdi ((gd l 0 - gd l (l.length - 1)) * max 0 ((i : Int) - (l.length - k) + 1)) (k + 1) ∧ rdi ((gd l 0 - gd l (l.length - 1)) * max 0 ((i : Int) - (l.length - k) + 1)) (k + 1) ≤ 3000000 ∧
    -1000000 ≤ (gd l 0 - gd l (l.length - 1)) * max 0 ((i : Int) - (l.length - k) + 1) ∧ (gd l 0 - gd l (l.length - 1)) * max 0 ((i : Int) - (l.length - k) + 1) ≤ 1000000 := by
  obtain ⟨l1, l2⟩ := vlp_len hv
  have h1 := vlp_gd hv (show 0 < l.length by omega)
  have h2 := vlp_gd hv (show l.length - 1 < l.length by omega)
  have hm : 0 ≤ max 0 ((i : Int) - (l.length - k) + 1) ∧ max 0 ((i : Int) - (l.length - k) + 1) ≤ 60 := by omega
  have b1 := Int.mul_le_mul_of_nonneg_right (show gd l 0 - gd l (l.length - 1) ≤ 1000 by omega) hm.1
  have b2 := Int.mul_le_mul_of_nonneg_right (show -1000 ≤ gd l 0 - gd l (l.length - 1) by omega) hm.1
  have hb : -1000000 ≤ (gd l 0 - gd l (l.length - 1)) * max 0 ((i : Int) - (l.length - k) + 1) ∧ (gd l 0 - gd l (l.length - 1)) * max 0 ((i : Int) - (l.length - k) + 1) ≤ 1000000 := by
    constructor <;> omega
  obtain ⟨g1, g2, g3, g4, _⟩ := rdi_ok (u := (gd l 0 - gd l (l.length - 1)) * max 0 ((i : Int) - (l.length - k) + 1)) (d := k + 1) hb (by omega)
  exact ⟨g1, g2, g3, g4, hb⟩
theorem cls_old {i : Nat} (hi : i + k < l.length) : cls l k i = gd l i := by
  have h1 := vlp_gd hv (show i < l.length by omega)
  obtain ⟨l1, l2⟩ := vlp_len hv
  unfold cls
  rw [show max 0 ((i : Int) - (l.length - k) + 1) = 0 by omega, Int.mul_zero, (rdi_ok (u := 0) (d := k + 1) (by omega) (by omega)).2.2.2.2 rfl]
  unfold clm; omega
theorem Close_impl : impl_CloseLoop l (k : Int) = some (tab (cls l k) l.length, 0) := by
  obtain ⟨l1, l2⟩ := vlp_len hv
  have hcl : cloneL l = some l := by unfold cloneL; rw [if_pos (by omega)]
  unfold impl_CloseLoop
  rw [ValidLoop_eq (by omega), within_d, decide_eq_true (by omega)]
  simp only [hv, Option.bind_some, if_true, hcl]
  rw [show (0 : Int) = ((0 : Nat) : Int) from rfl, at_gd (by omega), w64_id (n := (l.length : Int) - 1) (by omega) (by omega), show (l.length : Int) - 1 = ((l.length - 1 : Nat) : Int) by omega, at_gd (by omega), Option.bind_some, Option.bind_some]
  have h1 := vlp_gd hv (show 0 < l.length by omega)
  have h2 := vlp_gd hv (show l.length - 1 < l.length by omega)
  refine eq_of_wp ?_
  refine wp_cnt (fun j => (tab (fun i => if i + k < l.length + j then cls l k i else gd l i) l.length, (j : Int) + 1)) k ?_ (by omega) (fun j hj => ?_) (b := tab (cls l k) l.length) ?_ (wp_some rfl)
  · refine Prod.ext ?_ rfl
    simp only [Nat.add_zero]
    refine (tab_gd l).symm.trans (tab_congr fun i hi => ?_)
    split
    · rename_i hc; exact (cls_old hv hk hc).symm
    · rfl
  · have hi : l.length - k + j < l.length := by omega
    obtain ⟨g1, g2, g3, g4, g5, g6⟩ := cls_ok hv hk hi
    have hmx : max 0 (((l.length - k + j : Nat) : Int) - (l.length - k) + 1) = (j : Int) + 1 := by omega
    rw [hmx] at g1 g3 g4 g5 g6
    simp only
    rw [if_pos (by omega), w64_id (n := (l.length : Int) - k) (by omega) (by omega), w64_id (n := (l.length : Int) - k + (j + 1)) (by omega) (by omega), w64_id (n := (l.length : Int) - k + (j + 1) - 1) (by omega) (by omega),
      show (l.length : Int) - k + (j + 1) - 1 = ((l.length - k + j : Nat) : Int) by omega, at_gd (by simp; omega), gd_tab (by omega), if_neg (by omega), Option.bind_some,
      w64_id (n := gd l 0 - gd l (l.length - 1)) (by omega) (by omega), Int.mul_comm ((j : Int) + 1), w64_id (by omega) (by omega), w64_id (n := (k : Int) + 1) (by omega) (by omega), g1, Option.bind_some, Option.bind_some,
      w64_id (n := (j : Int) + 1 + 1) (by omega) (by omega), Int.toNat_natCast, tab_set]
    have hg := vlp_gd hv hi
    refine congrArg some (congrArg Step.next (Prod.ext ?_ (by simp only; omega)))
    refine tab_congr fun i hi2 => ?_
    by_cases he : i = l.length - k + j
    · rw [if_pos he, if_pos (by omega), he]
      unfold cls clm imin imax
      rw [hmx, w64_id (by omega) (by omega)]
      split <;> split <;> omega
    · rw [if_neg he]
      by_cases hc : i + k < l.length + j
      · rw [if_pos hc, if_pos (by omega)]
      · rw [if_neg hc, if_neg (by omega)]
  · simp only
    rw [if_neg (by omega)]
    refine congrArg some (congrArg Step.brk (tab_congr fun i hi => ?_))
    rw [if_pos (by omega)]
theorem Close_spec : spec_CloseLoop l (k : Int) = some (tab (cls l k) l.length, 0) := by
  obtain ⟨l1, l2⟩ := vlp_len hv
  unfold spec_CloseLoop
  rw [l05Ok_eq (by omega), l00In_d, decide_eq_true (by omega)]
  simp only [hv, Option.bind_some, if_true]
  rw [show at? l 0 = some (gd l 0) from at_gd (i := 0) (by omega), w64_id (n := (l.length : Int) - 1) (by omega) (by omega), show (l.length : Int) - 1 = ((l.length - 1 : Nat) : Int) by omega, at_gd (by omega), Option.bind_some, Option.bind_some]
  have h1 := vlp_gd hv (show 0 < l.length by omega)
  have h2 := vlp_gd hv (show l.length - 1 < l.length by omega)
  refine mapS' (f := fun i1 => (spec_l00Max 0 (w64 ((w64 (i1 - (w64 ((l.length : Int) - (k : Int))))) + 1))).bind fun r3 =>
 (at? l i1).bind fun v3 =>
 (spec_l00Round (w64 ((w64 (gd l 0 - gd l (l.length - 1))) * r3)) (w64 ((k : Int) + 1))).bind fun r4 =>
 (spec_l00Max 0 (w64 (v3 + r4))).bind fun r5 => spec_l00Min 1000 r5) (cls l k) l.length (fun i hi => ?_) (by omega) (fun out i => ?_)
  · obtain ⟨g1, g2, g3, g4, g5, g6⟩ := cls_ok hv hk hi
    have hg := vlp_gd hv hi
    have hmx : ∀ a b : Int, spec_l00Max a b = some (max a b) := fun a b => by
      unfold spec_l00Max; split
      · exact congrArg some (by omega)
      · exact congrArg some (by omega)
    have hmn : ∀ a b : Int, spec_l00Min a b = some (min a b) := fun a b => by
      unfold spec_l00Min; split
      · exact congrArg some (by omega)
      · exact congrArg some (by omega)
    rw [w64_id (n := (l.length : Int) - k) (by omega) (by omega), w64_id (n := (i : Int) - (l.length - k)) (by omega) (by omega), w64_id (n := (i : Int) - (l.length - k) + 1) (by omega) (by omega), hmx, Option.bind_some, at_gd hi, Option.bind_some,
      w64_id (n := gd l 0 - gd l (l.length - 1)) (by omega) (by omega), w64_id (by omega) (by omega), w64_id (n := (k : Int) + 1) (by omega) (by omega), g2, Option.bind_some, w64_id (by omega) (by omega), hmx, Option.bind_some, hmn]
    rfl
  · by_cases hi : i < (l.length : Int)
    · simp only [if_pos hi, Option.bind_assoc]
    · simp only [if_neg hi]
end
theorem Close_same {l : List Int} {b : Int} (hl : l.length ≤ 1000) : ∃ r : List Int × Int, impl_CloseLoop l b = some r ∧ spec_CloseLoop l b = some r ∧ r.1.length ≤ 1000 ∧ (r.2 = 0 → ∃ k : Nat, b = (k : Int) ∧ 1 ≤ k ∧ k ≤ l.length ∧ vlp l = true ∧ r.1 = tab (cls l k) l.length) := by
  by_cases hv : vlp l = true
  · by_cases hb : 1 ≤ b ∧ b ≤ l.length
    · obtain ⟨k, rfl⟩ : ∃ k : Nat, b = (k : Int) := ⟨b.toNat, by omega⟩
      exact ⟨_, Close_impl hv (by omega), Close_spec hv (by omega), by simpa using hl, fun _ => ⟨k, rfl, by omega, by omega, hv, rfl⟩⟩
    · unfold impl_CloseLoop spec_CloseLoop
      rw [ValidLoop_eq (by omega), l05Ok_eq (by omega), within_d, l00In_d, decide_eq_false hb]
      simp only [hv, Option.bind_some, if_true, Bool.false_eq_true, if_false]
      exact ⟨_, rfl, rfl, by simp, fun hc => absurd hc (by decide)⟩
  · have hv : vlp l = false := by simpa using hv
    unfold impl_CloseLoop spec_CloseLoop
    rw [ValidLoop_eq (by omega), l05Ok_eq (by omega)]
    simp only [hv, Option.bind_some, Bool.false_eq_true, if_false]
    exact ⟨_, rfl, rfl, by simp, fun hc => absurd hc (by decide)⟩
end Go.Vs.G

namespace Go.Vs.G
open Go Go.Vs
section
variable {code : List Int} (hc : okL (okI .u8) code) (hl : code.length ≤ 4096)
include hc hl
theorem l05By_ok : wp (spec_l05By code) fun r => r.1.length ≤ 61 := by
  unfold spec_l05By
  refine wp_from hc (by omega) fun s h => ?_
  refine wp_seq (l05Draw_ok h (by omega)) ?_
  rintro ⟨l, s1⟩ ⟨h1, h2⟩
  simp only at h1 h2 ⊢
  refine wp_one h1 (by omega) fun b s2 h3 => ?_
  refine wp_bif (fun _ => ?_) (fun _ => ?_)
  · exact wp_among h3 (by omega) (by simp) (by simp) fun x s3 hx h4 => wp_some h2
  · exact wp_pick h3 (by omega) fun v s3 _ _ h4 => wp_some h2
theorem DrawClose_ok : wp (spec_DrawCloseLoop code) fun r => r.1.length ≤ 61 := by
  unfold spec_DrawCloseLoop
  exact wp_seq (l05By_ok hc hl) fun r h => wp_some h
theorem DrawTurn_ok : wp (spec_DrawTurnLoop code) fun r => r.1.length ≤ 61 := by
  unfold spec_DrawTurnLoop
  exact wp_seq (l05By_ok hc hl) fun r h => wp_some h
theorem DrawJoin_ok : wp (spec_DrawJoinLoops code) fun r => r.1.length ≤ 61 ∧ r.2.length ≤ 61 := by
  unfold spec_DrawJoinLoops
  refine wp_from hc (by omega) fun s h => ?_
  refine wp_seq (l05Draw_ok h (by omega)) ?_
  rintro ⟨l, s1⟩ ⟨h1, h2⟩
  simp only at h1 h2 ⊢
  refine wp_one h1 (by omega) fun b s2 h3 => ?_
  refine wp_bif (fun _ => ?_) (fun _ => ?_)
  · refine wp_seq (l05New_ok h3 (by omega) (by omega)) ?_
    rintro ⟨a, s3⟩ ⟨h4, h5⟩
    simp only at h4 h5 ⊢
    refine wp_pick h4 (by omega) fun v s4 v0 v1 h6 => ?_
    simp only
    rw [w64_id (by omega) (by omega)]
    refine wp_seq (l05New_ok h6 (by omega) (by omega)) ?_
    rintro ⟨b, s5⟩ ⟨h7, h8⟩
    simp only at h8
    exact wp_some ⟨by simp only; omega, by simp only; omega⟩
  · refine wp_seq (l05Draw_ok h3 (by omega)) ?_
    rintro ⟨b, s5⟩ ⟨h7, h8⟩
    exact wp_some ⟨h2, h8⟩
theorem DrawThin_ok : wp (spec_DrawThinLoop code) fun r => r.1.length ≤ 61 := by
  unfold spec_DrawThinLoop
  refine wp_seq (l05By_ok hc hl) fun r1 h1 => ?_
  refine wp_from hc (by omega) fun s h => ?_
  refine wp_seq (P := fun q : GL00Src × Bool => SrcOk 2 q.1) ?_ ?_
  · refine wp_ite (fun _ => ?_) (fun _ => wp_some (h.mono (by omega)))
    exact wp_one h (by omega) fun b s2 h3 => wp_some h3
  · rintro ⟨s2, b⟩ h2
    simp only at h2 ⊢
    refine wp_bif (fun _ => ?_) (fun _ => wp_some h1)
    refine wp_seq (l05New_ok h2 (by omega) (by omega)) ?_
    rintro ⟨a, s3⟩ ⟨h4, h5⟩
    simp only at h4 h5 ⊢
    exact wp_pick h4 (by omega) fun v s4 v0 v1 h6 => wp_some (by simp only; omega)
end
theorem laws_FnJoinedLoops_true {code : List Int} (hc : okL (okI .u8) code) : laws_FnJoinedLoops code = some true := by
  refine eq_of_wp ?_
  unfold laws_FnJoinedLoops laws_f6big
  rw [Option.bind_some]
  by_cases hl : code.length ≤ 4096
  case neg => rw [if_pos (decide_eq_true (by omega))]; exact wp_some rfl
  rw [if_neg (by simp; omega)]
  refine wp_seq (DrawJoin_ok hc hl) fun r2 ⟨ha1, hb1⟩ => ?_
  obtain ⟨r3, e3, e4, f3⟩ := Join_same (a := r2.1) (b := r2.2) (by omega) (by omega)
  rw [e3, e4, Option.bind_some, Option.bind_some]
  refine wp_seq (DrawClose_ok hc hl) fun r5 h5 => ?_
  obtain ⟨r6, e6, e7, g6, f6⟩ := Close_same (l := r5.1) (b := r5.2) (by omega)
  rw [e6, e7, Option.bind_some, Option.bind_some]
  refine wp_seq (DrawThin_ok hc hl) fun r8 h8 => ?_
  obtain ⟨r9, e9, e10, g9, f9⟩ := Thin_same (l := r8.1) (e := r8.2) (by omega)
  rw [e9, e10, Option.bind_some, Option.bind_some]
  refine wp_seq (DrawTurn_ok hc hl) fun r11 h11 => ?_
  obtain ⟨r12, e12, e13, g12, f12⟩ := TurnLoop_same (l := r11.1) (b := r11.2) (by omega)
  rw [e12, e13, Option.bind_some, Option.bind_some]
  simp only [if_true, f6intsO _ _ (show r6.1.length < 9223372036854775807 by omega), f6intsO _ _ (show r9.1.length < 9223372036854775807 by omega), f6intsO _ _ (show r12.1.length < 9223372036854775807 by omega), decide_true, Option.bind_some, Bool.not_true, Bool.false_eq_true, if_false]
  refine wp_onS ?_
  have hx2 : ((if r9.2 = 0 then (some (!(decide ((w64 ((r9.1.length : Int) * r8.2)) = (r8.1.length : Int))))) else some false) : Option Bool) = some false := by
    by_cases h0 : r9.2 = 0
    · rw [if_pos h0, f9 h0, decide_eq_true rfl]; rfl
    · rw [if_neg h0]
  have hx3 : ((if r12.2 = 0 then ((laws_f6sum r12.1).bind fun r17 => (laws_f6sum r11.1).bind fun r18 => some (!(decide (r17 = r18)))) else some false) : Option Bool) = some false := by
    by_cases h0 : r12.2 = 0
    · obtain ⟨q1, q2⟩ := f12 h0
      rw [if_pos h0, q1, q2, Option.bind_some, Option.bind_some, decide_eq_true rfl]; rfl
    · rw [if_neg h0]
  rw [hx2]
  simp only [Option.bind_some, Bool.false_eq_true, if_false]
  rw [hx3]
  simp only [Option.bind_some, Bool.false_eq_true, if_false]
  have fin : wp (onL (loop (S := Int) (B := Unit) (R := Bool) (fun (i2 : Int) =>
 if i2 < (r3.1.length : Int) then
 ((((at? r3.1 i2).bind fun v3 =>
 (at? r3.1 i2).bind fun v4 =>
 (laws_f6ints v3 v4).bind fun r19 =>
 if r19 = true then
 ((at? r3.1 i2).bind fun v5 =>
 if (v5.length : Int) = 2 then
 ((at? r3.1 i2).bind fun v6 =>
 (at? v6 0).bind fun v7 =>
 (mod? i2 (r2.1.length : Int)).bind fun q1 =>
 (at? r2.1 q1).bind fun v8 =>
 if v7 = v8 then
 ((at? r3.1 i2).bind fun v9 =>
 (at? v9 1).bind fun v10 =>
 (mod? i2 (r2.2.length : Int)).bind fun q2 =>
 (at? r2.2 q2).bind fun v11 =>
 some (!(decide (v10 = v11))))
 else
 some true)
 else
 some true)
 else
 some true) : Option Bool).bind fun (x4 : Bool) =>
 if x4 = true then
 (some (.ret false))
 else
 some (.next (w64 (i2 + 1))))
 else
 some (.brk ())) loopLim 0)
 (fun (_ : Unit) => if r3.2 = 0 then
 ((mod? (r3.1.length : Int) (r2.1.length : Int)).bind fun q3 =>
 if q3 = 0 then
 ((mod? (r3.1.length : Int) (r2.2.length : Int)).bind fun q4 =>
 some (decide (q4 = 0)))
 else
 some false)
 else
 some true) (fun r => some r)) fun y => y = true := by
    rcases f3 with ⟨q1, q2⟩ | ⟨q1, q2, m, hm, rfl, q3, q4⟩
    · refine wp_cnt (fun k => (k : Int)) 0 rfl (by omega) (fun k hk => by omega) (b := ()) ?_ ?_
      · rw [q2]; rfl
      · rw [if_neg q1]; exact wp_some rfl
    · have hjl : (jn r2.1 r2.2 m).length = m := by simp [jn]
      simp only [hjl]
      refine wp_cnt (fun k => (k : Int)) m rfl (by omega) (fun k hk => ?_) (b := ()) ?_ ?_
      · have h1 := Nat.mod_lt k (show 0 < r2.1.length by omega)
        have h2 := Nat.mod_lt k (show 0 < r2.2.length by omega)
        have hj : at? (jn r2.1 r2.2 m) (k : Int) = some [gd r2.1 (k % r2.1.length), gd r2.2 (k % r2.2.length)] := by
          unfold jn; rw [tab_at (by omega) (by omega)]; rfl
        rw [if_pos (by omega), hj]
        simp only [Option.bind_some]
        rw [f6intsO _ _ (by simp), decide_eq_true rfl, Option.bind_some, if_pos rfl, if_pos (show (([gd r2.1 (k % r2.1.length), gd r2.2 (k % r2.2.length)].length : Int)) = 2 from rfl), show at? [gd r2.1 (k % r2.1.length), gd r2.2 (k % r2.2.length)] 0 = some (gd r2.1 (k % r2.1.length)) from rfl,
          show at? [gd r2.1 (k % r2.1.length), gd r2.2 (k % r2.2.length)] 1 = some (gd r2.2 (k % r2.2.length)) from rfl, Option.bind_some, mod_ok (by omega), Option.bind_some, show (k : Int).tmod (r2.1.length : Int) = ((k % r2.1.length : Nat) : Int) from rfl, at_gd h1, Option.bind_some,
          if_pos rfl, Option.bind_some, mod_ok (by omega), Option.bind_some, show (k : Int).tmod (r2.2.length : Int) = ((k % r2.2.length : Nat) : Int) from rfl, at_gd h2, Option.bind_some, decide_eq_true rfl, Option.bind_some, if_neg (by decide), w64_id (by omega) (by omega)]
        rfl
      · rw [if_neg (by omega)]
      · refine wp_ite (fun _ => ?_) (fun h => absurd (by trivial) h)
        rw [mod_ok (by omega), Option.bind_some, if_pos q3, mod_ok (by omega), Option.bind_some, decide_eq_true q4]
        exact wp_some rfl
  refine wp_ite (fun h0 => ?_) (fun _ => wp_some fin)
  obtain ⟨k, hk, hk1, hk2, hv, hr⟩ := f6 h0
  obtain ⟨l1, l2⟩ := vlp_len hv
  rw [hk, w64_id (by omega) (by omega), hr]
  refine wp_cnt (fun i => (i : Int)) (r5.1.length - k) rfl (by omega) (fun i hi => ?_) (b := ()) ?_ ?_
  · rw [if_pos (by omega), tab_at (by omega) (by omega), at_gd (by omega), Option.bind_some, Option.bind_some, Int.toNat_natCast, if_pos (cls_old hv ⟨hk1, hk2⟩ (by omega)), w64_id (by omega) (by omega)]
    rfl
  · rw [if_neg (by omega)]
  · exact wp_some fin
end Go.Vs.G

