/- Lamps for a light that is needed: FnLamps. No conditions. -/
import Derived.Test.YtolinhiimdajhaaHBits
namespace Go.Vs.G
open Go Go.Vs

/-- the lamps of a set -/
abbrev ixs (n x : Nat) : List Int := sl (fun i => x.testBit i) n
abbrev tot (l : List Int) (x : Nat) : Int := ss l (fun i => x.testBit i) l.length
theorem ix_rng {n x : Nat} : ∀ v, v ∈ ixs n x → 0 ≤ v ∧ v < n := fun v hv => by
  obtain ⟨j, rfl, hj, _⟩ := mem_sl' hv; omega
theorem ix_len (n x : Nat) : (ixs n x).length ≤ n := sl_len _ _
theorem p8 {n : Nat} (h : n ≤ 8) : 2 ^ n ≤ 256 := Nat.le_trans (Nat.pow_le_pow_right (by omega) h) (by decide)
theorem l12Some_eq {n x : Nat} (hn : n ≤ 8) (hx : x < 2 ^ n) : spec_l12Some (n : Int) (x : Int) = some (ixs n x) := by
  have h8 := p8 hn
  refine eq_of_wp ?_
  unfold spec_l12Some
  refine wp_cnt (fun k => (ixs k x, (k : Int))) n rfl (by omega) (fun k hk => ?_) (b := ixs n x) ?_ (wp_some rfl)
  · have := ix_len k x
    simp only
    rw [if_pos (by omega), shr_nat (by omega), Option.bind_some, w64_id (by omega) (by omega)]
    by_cases hb : x.testBit k = true
    · rw [if_pos ((bit_at (by omega) (by omega)).2 hb), app_ok (by simp; omega), Option.bind_some]
      simp only [ixs, sl, hb, if_true]; rfl
    · rw [if_neg (fun h => hb ((bit_at (by omega) (by omega)).1 h))]
      simp only [ixs, sl, hb, if_false]; rfl
  · simp only; rw [if_neg (by omega)]
theorem p16 {n : Nat} (h : n ≤ 16) : 2 ^ n ≤ 65536 := Nat.le_trans (Nat.pow_le_pow_right (by omega) h) (by decide)
theorem indicesOf_eq {n x : Nat} (hn : n ≤ 16) (hx : x < 2 ^ n) : impl_indicesOf (x : Int) = some (ixs n x) := by
  have h8 := p16 hn
  refine eq_of_wp ?_
  unfold impl_indicesOf
  -- where no bits are left
  have hex : ∃ m, m ≤ n ∧ x / 2 ^ m = 0 ∧ ∀ j, j < m → 0 < x / 2 ^ j := by
    have : ∀ d, x / 2 ^ d = 0 → ∃ m, m ≤ d ∧ x / 2 ^ m = 0 ∧ ∀ j, j < m → 0 < x / 2 ^ j := by
      intro d
      induction d with
      | zero => intro h; exact ⟨0, by omega, h, fun j hj => by omega⟩
      | succ d ih =>
        intro h
        by_cases h0 : x / 2 ^ d = 0
        · obtain ⟨m, h1, h2⟩ := ih h0; exact ⟨m, by omega, h2⟩
        · refine ⟨d + 1, Nat.le_refl _, h, fun j hj => ?_⟩
          have : x / 2 ^ d ≤ x / 2 ^ j := Nat.div_le_div_left (Nat.pow_le_pow_right (by omega) (by omega)) (Nat.pow_pos (by omega))
          exact Nat.lt_of_lt_of_le (Nat.pos_of_ne_zero h0) this
    exact this n (Nat.div_eq_of_lt hx)
  obtain ⟨m, hm, hz, hp⟩ := hex
  have hcut : ∀ k, m ≤ k → ixs k x = ixs m x := by
    intro k hk
    induction k with
    | zero => rw [show m = 0 by omega]
    | succ k ih =>
      rcases Nat.lt_or_ge k m with h1 | h1
      · rw [show m = k + 1 by omega]
      · have hb : x.testBit k = false := by
          rw [Nat.testBit_eq_decide_div_mod_eq, decide_eq_false_iff_not]
          have : x / 2 ^ k ≤ x / 2 ^ m := Nat.div_le_div_left (Nat.pow_le_pow_right (by omega) h1) (Nat.pow_pos (by omega))
          rw [hz] at this
          rw [Nat.le_zero.1 this]; decide
        rw [ixs, sl, hb, ← ih h1]; rfl
  refine wp_cnt (fun k => (ixs k x, (k : Int))) m rfl (by omega) (fun k hk => ?_) (b := ixs n x) ?_ (wp_some rfl)
  · have h1 := ix_len k x
    have h2 := hp k hk
    simp only
    rw [shr_nat (by omega), Option.bind_some, if_pos (by omega), Option.bind_some, w64_id (by omega) (by omega)]
    by_cases hb : x.testBit k = true
    · rw [if_pos ((bit_at (by omega) (by omega)).2 hb), app_ok (by simp; omega), Option.bind_some]
      simp only [ixs, sl, hb, if_true]; rfl
    · rw [if_neg (fun h => hb ((bit_at (by omega) (by omega)).1 h))]
      simp only [ixs, sl, hb, if_false]; rfl
  · simp only
    rw [shr_nat (by omega), Option.bind_some, if_neg (by omega), hcut n hm]
/-- lists of up to eight numbers -/
def l8 (l : List Int) : Prop := l.length ≤ 8 ∧ ∀ x, x ∈ l → 0 ≤ x ∧ x ≤ 100000
theorem tot_rng {l : List Int} (hl : l8 l) (c : Nat → Bool) {k : Nat} (hk : k ≤ l.length) : 0 ≤ ss l c k ∧ ss l c k ≤ 800000 := by
  have h1 := ss_rng (c := c) (M := 100000) (by omega) hl.2 k hk
  have := hl.1
  omega
theorem l12Sum_eq {l : List Int} {x : Nat} (hl : l8 l) (hx : x < 2 ^ l.length) : spec_l12Sum l (x : Int) = some (tot l x) := by
  have h8 := p8 hl.1
  have hl8 := hl.1
  refine eq_of_wp ?_
  unfold spec_l12Sum
  refine wp_cnt (fun k => (ss l (fun i => x.testBit i) k, (k : Int))) l.length rfl (by omega) (fun k hk => ?_) (b := tot l x) ?_ (wp_some rfl)
  · have h1 := tot_rng hl (fun i => x.testBit i) (k := k + 1) (by omega)
    simp only
    rw [if_pos (by omega), shr_nat (by omega), Option.bind_some, w64_id (n := (k : Int) + 1) (by omega) (by omega)]
    by_cases hb : x.testBit k = true
    · simp only [ss, hb, if_true] at h1
      rw [if_pos ((bit_at (by omega) (by omega)).2 hb), at_gd hk, Option.bind_some, w64_id (by omega) (by omega)]
      simp only [ss, hb, if_true]; rfl
    · rw [if_neg (fun h => hb ((bit_at (by omega) (by omega)).1 h))]
      simp only [ss, hb, Bool.false_eq_true, if_false, Int.add_zero]; rfl
  · simp only; rw [if_neg (by omega)]
/-- both sums over the members of a list -/
theorem sum2 {α R : Type} {l p ix : List Int} (hl : l8 l) (hp : l8 p) (hlen : p.length = l.length) (hix : ∀ v, v ∈ ix → 0 ≤ v ∧ v < l.length) (hi : ix.length ≤ 1000000) {kb : Int × Int → Option α} {kr : R → Option α}
    {body : Int × Int × Int → Option (Step (Int × Int × Int) (Int × Int) R)}
    (hb : ∀ a b i, body (a, b, i) = if i < (ix.length : Int) then ((at? ix i).bind fun v1 => (at? l v1).bind fun v2 => (at? p v1).bind fun v3 => some (.next (w64 (a + v2), w64 (b + v3), w64 (i + 1)))) else some (.brk (a, b))) :
    onL (loop body loopLim (0, 0, 0)) kb kr = kb (lsum l ix, lsum p ix) := by
  have := loop_brk (body := body) (fun k : Nat => (lsum l (ix.take k), lsum p (ix.take k), (k : Int))) (b := (lsum l ix, lsum p ix)) ix.length (by omega) (fun k hk => by
    have hv := hix _ (List.getElem_mem hk)
    have e : ix.take (k + 1) = ix.take k ++ [ix[k]] := by rw [List.take_add_one, List.getElem?_eq_getElem hk]; rfl
    have hsub : ∀ v, v ∈ ix.take (k + 1) → 0 ≤ v ∧ v < l.length := fun v hv => hix v (List.mem_of_mem_take hv)
    have b1 := lsum_rng (M := 100000) (by omega) hl.2 (ix.take (k + 1)) hsub
    have b2 := lsum_rng (l := p) (M := 100000) (by omega) hp.2 (ix.take (k + 1)) (by rw [hlen]; exact hsub)
    have e3 : (ix.take k ++ [ix[k]]).length ≤ k + 1 := by rw [← e]; exact List.length_take_le ..
    rw [hb, if_pos (by omega), at_of hk, Option.bind_some]
    have hvn : ix[k] = ((ix[k].toNat : Nat) : Int) := by omega
    rw [e, lsum_snoc] at b1 b2
    rw [hvn, at_gd (by omega), Option.bind_some, at_gd (by omega), Option.bind_some, e, lsum_snoc, lsum_snoc, w64_id (by omega) (by omega), w64_id (by omega) (by omega), w64_id (by omega) (by omega)]
    rfl) (by rw [hb, if_neg (by omega)]; simp)
  simp only [List.take_zero, Int.natCast_zero] at this
  rw [show (0 : Int) = lsum l [] from rfl] at this
  have e0 : (lsum l [], lsum p [], (0 : Int)) = ((0 : Int), (0 : Int), (0 : Int)) := rfl
  rw [show ((0 : Int), (0 : Int), (0 : Int)) = (lsum l [], lsum p [], lsum l []) from rfl]
  rw [this]; rfl
/-- the first difference decides -/
def lexlt : List Int → List Int → Bool
  | x :: a, y :: b => if x = y then lexlt a b else decide (x < y)
  | _, _ => false
def less (a b : List Int) : Bool := if a.length = b.length then lexlt a b else decide (a.length < b.length)
theorem lexlt_drop {a b : List Int} {i : Nat} (ha : i < a.length) (hb : i < b.length) : lexlt (a.drop i) (b.drop i) = if a[i] = b[i] then lexlt (a.drop (i + 1)) (b.drop (i + 1)) else decide (a[i] < b[i]) := by
  rw [List.drop_eq_getElem_cons ha, List.drop_eq_getElem_cons hb, lexlt]
theorem l11Less_eq {a b : List Int} (ha : a.length ≤ 1000000) : spec_l11Less a b = some (less a b) := by
  unfold spec_l11Less less
  by_cases hl : a.length = b.length
  · rw [if_pos (by omega), if_pos hl]
    refine eq_of_wp ?_
    refine wp_loop (fun i : Int => ∃ k : Nat, i = (k : Int) ∧ k ≤ a.length ∧ lexlt (a.drop k) (b.drop k) = lexlt a b) (fun i => (a.length - i).toNat) ⟨0, rfl, by omega, by simp⟩ (by omega) ?_
    rintro i ⟨k, rfl, hk, he⟩
    refine wp_ite (fun h => ?_) (fun h => ?_)
    · have h1 : k < a.length := by omega
      have h2 : k < b.length := by omega
      rw [at_of h1, Option.bind_some, at_of h2, Option.bind_some]
      rw [lexlt_drop h1 h2] at he
      refine wp_ite (fun h3 => ?_) (fun h3 => ?_)
      · rw [if_pos h3] at he
        rw [w64_succ h1 (by omega)]
        exact wp_some ⟨⟨k + 1, rfl, by omega, he⟩, by omega⟩
      · rw [if_neg h3] at he
        exact wp_some (wp_some he)
    · obtain rfl : k = a.length := by omega
      refine wp_some (wp_some ?_)
      rw [← he]; simp [lexlt]
  · rw [if_neg (by omega), if_neg hl]; congr 1; rw [decide_eq_decide]; omega
theorem cmp_eq (x y : Int) : cmp_Compare_int64_27 x y = some (if x < y then -1 else if x > y then 1 else 0) := by
  unfold cmp_Compare_int64_27 cmp_isNaN_int64_31
  simp only [decide_true, Bool.not_true, Option.bind_some, Bool.false_eq_true, if_false]
  split
  · rfl
  · split <;> rfl
theorem Compare_eq {a b : List Int} (hl : a.length = b.length) (ha : a.length ≤ 1000000) : ∃ r, slices_Compare_int64_int64_792 a b = some r ∧ decide (r < 0) = lexlt a b := by
  have key : wp (slices_Compare_int64_int64_792 a b) (fun r => decide (r < 0) = lexlt a b) := by
    unfold slices_Compare_int64_int64_792
    refine wp_loop (fun i : Int => ∃ k : Nat, i = (k : Int) ∧ k ≤ a.length ∧ lexlt (a.drop k) (b.drop k) = lexlt a b) (fun i => (a.length - i).toNat) ⟨0, rfl, by omega, by simp⟩ (by omega) ?_
    rintro i ⟨k, rfl, hk, he⟩
    refine wp_ite (fun h => ?_) (fun h => ?_)
    · have h1 : k < a.length := by omega
      have h2 : k < b.length := by omega
      rw [at_of h1, Option.bind_some, if_neg (by omega), at_of h2, Option.bind_some, cmp_eq, Option.bind_some]
      rw [lexlt_drop h1 h2] at he
      refine wp_ite (fun h3 => ?_) (fun h3 => ?_)
      · have hh : a[k] = b[k] := by
          split at h3
          · omega
          · split at h3 <;> omega
        rw [if_pos hh] at he
        rw [w64_succ h1 (by omega)]
        exact wp_some ⟨⟨k + 1, rfl, by omega, he⟩, by omega⟩
      · refine wp_some (wp_some ?_)
        by_cases hlt : a[k] < b[k]
        · rw [if_neg (by omega), decide_eq_true hlt] at he
          rw [if_pos hlt, ← he]; rfl
        · have hh : a[k] ≠ b[k] := fun hh => h3 (by rw [if_neg hlt, if_neg (by omega)])
          rw [if_neg hh, decide_eq_false hlt] at he
          rw [if_neg hlt, if_pos (by omega), ← he]; rfl
    · obtain rfl : k = a.length := by omega
      refine wp_some ?_
      rw [if_neg (by omega)]
      refine wp_some ?_
      rw [← he]; simp [lexlt]
  exact key

/-- the better of two sets -/
def btr (l p : List Int) (x b : Nat) : Bool := decide (tot p x < tot p b) || (decide (tot p x = tot p b) && less (ixs l.length x) (ixs l.length b))
def bst (l p : List Int) (need : Int) : Nat → Option Nat
  | 0 => none
  | x + 1 => if tot l x < need then bst l p need x else match bst l p need x with
    | none => some x
    | some b => if btr l p x b = true then some x else some b
theorem less_len {a b : List Int} (h : less a b = false) : b.length ≤ a.length := by
  unfold less at h
  split at h
  · omega
  · have := of_decide_eq_false h; omega
theorem less_len' {a b : List Int} (h : less a b = true) : a.length ≤ b.length := by
  unfold less at h
  split at h
  · omega
  · have := of_decide_eq_true h; omega
theorem bst_some {l p : List Int} {need : Int} : ∀ {N b : Nat}, bst l p need N = some b → b < N ∧ need ≤ tot l b ∧ ∀ x, x < N → need ≤ tot l x → tot p b ≤ tot p x ∧ (tot p x = tot p b → (ixs l.length b).length ≤ (ixs l.length x).length)
  | N + 1, b, h => by
    rw [bst] at h
    split at h
    · rename_i h1
      obtain ⟨h2, h3, h4⟩ := bst_some h
      refine ⟨by omega, h3, fun x hx hn => ?_⟩
      rcases Nat.lt_or_ge x N with h5 | h5
      · exact h4 x h5 hn
      · rw [show x = N by omega] at hn; omega
    · rename_i h1
      split at h
      · rename_i hnone
        cases h
        refine ⟨by omega, by omega, fun x hx hn => ?_⟩
        rcases Nat.lt_or_ge x N with h5 | h5
        · exfalso
          have : ∀ M, bst l p need M = none → ∀ x, x < M → need ≤ tot l x → False := by
            intro M
            induction M with
            | zero => intro _ x hx; omega
            | succ M ih =>
              intro hM x hx hn
              rw [bst] at hM
              split at hM
              · rename_i h6
                rcases Nat.lt_or_ge x M with h7 | h7
                · exact ih hM x h7 hn
                · rw [show x = M by omega] at hn; omega
              · split at hM
                · cases hM
                · split at hM <;> cases hM
          exact this N hnone x h5 hn
        · rw [show x = N by omega]; exact ⟨by omega, fun _ => by omega⟩
      · rename_i c hc
        obtain ⟨h2, h3, h4⟩ := bst_some hc
        split at h
        · rename_i hb
          cases h
          unfold btr at hb
          simp only [Bool.or_eq_true, decide_eq_true_eq, Bool.and_eq_true] at hb
          have hle : tot p N ≤ tot p c ∧ (tot p c = tot p N → (ixs l.length N).length ≤ (ixs l.length c).length) := by
            rcases hb with hb | ⟨hb, hb2⟩
            · exact ⟨by omega, fun h => by omega⟩
            · exact ⟨by omega, fun _ => less_len' hb2⟩
          refine ⟨by omega, by omega, fun x hx hn => ?_⟩
          rcases Nat.lt_or_ge x N with h5 | h5
          · obtain ⟨h6, h7⟩ := h4 x h5 hn
            refine ⟨by omega, fun he => ?_⟩
            have := h7 (by omega)
            have := hle.2 (by omega)
            omega
          · rw [show x = N by omega]; exact ⟨by omega, fun _ => by omega⟩
        · rename_i hb
          cases h
          unfold btr at hb
          simp only [Bool.or_eq_true, decide_eq_true_eq, Bool.and_eq_true, not_or, not_and] at hb
          refine ⟨by omega, h3, fun x hx hn => ?_⟩
          rcases Nat.lt_or_ge x N with h5 | h5
          · exact h4 x h5 hn
          · rw [show x = N by omega]
            refine ⟨by omega, fun he => ?_⟩
            exact less_len (by simpa using hb.2 he)
theorem bst_none {l p : List Int} {need : Int} : ∀ {N : Nat}, bst l p need N = none → ∀ x, x < N → tot l x < need
  | N + 1, h, x, hx => by
    rw [bst] at h
    split at h
    · rename_i h1
      rcases Nat.lt_or_ge x N with h5 | h5
      · exact bst_none h x h5
      · rw [show x = N by omega]; exact h1
    · split at h
      · cases h
      · split at h <;> cases h
theorem bst_lt {l p : List Int} {need : Int} {N b : Nat} (h : bst l p need N = some b) : b < N := (bst_some h).1
theorem bind_const {α β : Type} {A : Option α} {k : Option β} (h : ∃ r, A = some r) : (A.bind fun _ => k) = k := by obtain ⟨r, rfl⟩ := h; rfl
theorem bind_eq {α β : Type} {A : Option α} {v : α} {k : α → Option β} {r : Option β} (h : A = some v) (h2 : k v = r) : A.bind k = r := by rw [h]; exact h2
/-- the state of the search -/
def encI (n : Nat) (p : List Int) : Option Nat → List Int × Int × Bool
  | none => ([], 0, false)
  | some b => (ixs n b, tot p b, true)
theorem chosenLamps_eq {l p : List Int} {need : Int} (hl : l8 l) (hp : l8 p) (hlen : p.length = l.length) : impl_chosenLamps l p need = some (encI l.length p (bst l p need (2 ^ l.length))) := by
  have h8 := p8 hl.1
  have hl8 := hl.1
  refine eq_of_wp ?_
  unfold impl_chosenLamps
  rw [shl_one (by omega), Option.bind_some]
  refine wp_cnt (fun x => ((encI l.length p (bst l p need x)).1, (encI l.length p (bst l p need x)).2.1, (encI l.length p (bst l p need x)).2.2, (x : Int))) (2 ^ l.length) rfl (by omega) (fun x hx => ?_) (b := encI l.length p (bst l p need (2 ^ l.length))) ?_ (wp_some rfl)
  · have hix := ix_rng (n := l.length) (x := x)
    have hln := ix_len l.length x
    have hpt : ss p (fun i => x.testBit i) l.length = tot p x := by unfold tot; rw [hlen]
    cases hb : bst l p need x with
    | none =>
      have hE' : encI l.length p (bst l p need (x + 1)) = if tot l x < need then ([], 0, false) else (ixs l.length x, tot p x, true) := by
        rw [bst]; split
        · rw [hb]; rfl
        · rw [hb]; rfl
      rw [hE', show encI l.length p none = ([], 0, false) from rfl]
      simp only
      rw [if_pos (by omega), indicesOf_eq (by have := hl.1; omega) hx, Option.bind_some]
      rw [sum2 hl hp hlen hix (by omega) (fun _ _ _ => rfl)]
      simp only
      rw [lsum_sl, lsum_sl, w64_id (n := (x : Int) + 1) (by omega) (by omega), hpt]
      by_cases h1 : tot l x < need
      · rw [if_pos h1, if_pos h1]; rfl
      · rw [if_neg h1, if_neg h1]
        simp only [Bool.false_eq_true, if_false, Option.bind_some, if_true]
        refine (bind_const ?_).trans rfl
        by_cases g1 : tot p x < 0
        · rw [if_pos g1]; exact ⟨_, rfl⟩
        · rw [if_neg g1]
          by_cases g2 : tot p x = 0
          · rw [if_pos g2]
            rw [if_neg (by simp)]
            by_cases h5 : ((ixs l.length x).length : Int) = (([] : List Int).length : Int)
            · obtain ⟨r, hr, _⟩ := Compare_eq (a := ixs l.length x) (b := []) (by simpa using h5) (by omega)
              rw [if_pos h5, hr]; exact ⟨_, rfl⟩
            · rw [if_neg h5]; exact ⟨_, rfl⟩
          · rw [if_neg g2]; exact ⟨_, rfl⟩
    | some b =>
      have hbl := ix_len l.length b
      have hE' : encI l.length p (bst l p need (x + 1)) = if tot l x < need then (ixs l.length b, tot p b, true) else if btr l p x b = true then (ixs l.length x, tot p x, true) else (ixs l.length b, tot p b, true) := by
        rw [bst]; split
        · rw [hb]; rfl
        · rw [hb]; simp only; split <;> rfl
      rw [hE', show encI l.length p (some b) = (ixs l.length b, tot p b, true) from rfl]
      simp only
      rw [if_pos (by omega), indicesOf_eq (by have := hl.1; omega) hx, Option.bind_some]
      rw [sum2 hl hp hlen hix (by omega) (fun _ _ _ => rfl)]
      simp only
      rw [lsum_sl, lsum_sl, w64_id (n := (x : Int) + 1) (by omega) (by omega), hpt]
      by_cases h1 : tot l x < need
      · rw [if_pos h1, if_pos h1]; rfl
      · rw [if_neg h1, if_neg h1]
        simp only [if_true]
        refine bind_eq (v := btr l p x b) ?_ ?_
        · unfold btr less
          by_cases h2 : tot p x < tot p b
          · rw [if_pos h2, decide_eq_true h2]; rfl
          · rw [if_neg h2, decide_eq_false h2, Bool.false_or]
            by_cases h3 : tot p x = tot p b
            · rw [if_pos h3, decide_eq_true h3, Bool.true_and]
              by_cases h4 : (ixs l.length x).length = (ixs l.length b).length
              · obtain ⟨r, hr, hr2⟩ := Compare_eq (a := ixs l.length x) (b := ixs l.length b) h4 (by omega)
                rw [if_neg (by omega), if_pos (by omega), if_pos h4, hr, Option.bind_some, hr2]
              · rw [if_neg h4]
                by_cases h5 : (ixs l.length x).length < (ixs l.length b).length
                · rw [if_pos (by omega), decide_eq_true h5]
                · rw [if_neg (by omega), if_neg (by omega), decide_eq_false h5]
            · rw [if_neg h3, decide_eq_false h3, Bool.false_and]
        · simp only [Option.bind_some]
          cases hbt : btr l p x b <;> simp only [Bool.false_eq_true, if_false, if_true] <;> rfl
  · simp only; rw [if_neg (by omega)]
end Go.Vs.G
