/- Loops that build a list, and that ask for all. No conditions. -/
import Derived.Test.YtcbacahinmncaaaHGen
namespace Go.Vs
open Go

section
variable {α β γ R : Type}

theorem take_succ_map {g : α → β} {l : List α} {j : Nat} (hj : j < l.length) : (l.take j).map g ++ [g l[j]] = (l.take (j + 1)).map g := by
  rw [List.take_add_one, List.getElem?_eq_getElem hj, List.map_append]; rfl
/-- a loop that lays one value behind another -/
theorem mapS {f : α → Option β} (g : α → β) (l : List α) (hf : ∀ x, x ∈ l → f x = some (g x)) (hl : l.length ≤ 4294967296)
    {body : List β × Int → Option (Step (List β × Int) (List β) R)} {kb : List β → Option γ} {kr : R → Option γ}
    (hb : ∀ (out : List β) (i : Int), body (out, i) = if i < (l.length : Int) then ((at? l i).bind fun v => (f v).bind fun r => (app? out ([r] : List β)).bind fun l1 => some (.next (l1, w64 (i + 1)))) else some (.brk out)) :
    onL (loop body loopLim ([], 0)) kb kr = kb (l.map g) := by
  have := loop_brk (body := body) (fun j : Nat => ((l.take j).map g, (j : Int))) (b := l.map g) l.length (by omega) (fun j hj => by
    rw [hb, if_pos (by omega), at_of hj, Option.bind_some, hf _ (List.getElem_mem hj), Option.bind_some, app_ok (by simp; omega), Option.bind_some, w64_id (by omega) (by omega)]
    rw [take_succ_map hj]; rfl) (by rw [hb, if_neg (by omega)]; simp)
  simp only [List.take_zero, List.map_nil, Int.natCast_zero] at this
  rw [this]; rfl
/-- the same, with a start -/
theorem mapS' {f : Int → Option β} (g : Nat → β) (n : Nat) (hf : ∀ i : Nat, i < n → f (i : Int) = some (g i)) (hl : n ≤ 4294967296)
    {body : List β × Int → Option (Step (List β × Int) (List β) R)} {kb : List β → Option γ} {kr : R → Option γ}
    (hb : ∀ (out : List β) (i : Int), body (out, i) = if i < (n : Int) then ((f i).bind fun r => (app? out ([r] : List β)).bind fun l1 => some (.next (l1, w64 (i + 1)))) else some (.brk out)) :
    onL (loop body loopLim ([], 0)) kb kr = kb (tab g n) := by
  have := loop_brk (body := body) (fun j : Nat => (tab g j, (j : Int))) (b := tab g n) n (by omega) (fun j hj => by
    rw [hb, if_pos (by omega), hf j hj, Option.bind_some, app_ok (by simp; omega), Option.bind_some, w64_id (by omega) (by omega), tab_succ]
    congr 3) (by rw [hb, if_neg (by omega)])
  simp only [tab_zero, Int.natCast_zero] at this
  rw [this]; rfl

/-- a list of which all fit, asked by a loop -/
theorem allS {f : α → Option Bool} (c : α → Bool) (l : List α) (hf : ∀ x, x ∈ l → f x = some (c x)) (hl : l.length < 9223372036854775807) {r : R}
    {body : Int → Option (Step Int Unit R)} {kb : Unit → Option γ} {kr : R → Option γ}
    (hb : ∀ (i : Int), body i = if i < (l.length : Int) then ((at? l i).bind fun v => (f v).bind fun q => if q = true then some (.next (w64 (i + 1))) else some (.ret r)) else some (.brk ())) :
    onL (loop body loopLim 0) kb kr = if ∀ x, x ∈ l → c x = true then kb () else kr r := by
  have := scan (body := body) (kb := kb) (kr := kr) (s := 0) (n := l.length) (c := fun i => if h : i < l.length then c l[i] else true) (r := r) (by omega) hl (fun i _ hi => by
    rw [hb, if_pos (by omega), at_of hi, Option.bind_some, hf _ (List.getElem_mem hi), Option.bind_some, w64_id (by omega) (by omega)]
    simp only [hi, dif_pos]
    cases c l[i] <;> rfl) (by rw [hb, if_neg (by omega)])
  simp only [Int.natCast_zero] at this
  rw [this]
  have e : (∀ i, 0 ≤ i → i < l.length → (if h : i < l.length then c l[i] else true) = true) ↔ ∀ x, x ∈ l → c x = true := by
    constructor
    · intro h x hx
      obtain ⟨i, hi, rfl⟩ := List.getElem_of_mem hx
      have := h i (by omega) hi
      simpa [hi] using this
    · intro h i _ hi
      simp [hi, h _ (List.getElem_mem hi)]
  split
  · rename_i h; rw [if_pos (e.1 h)]
  · rename_i h; rw [if_neg (fun h2 => h (e.2 h2))]
/-- the library's IndexFunc -/
theorem idxFS {f : α → Option Bool} (c : α → Bool) (l : List α) (hf : ∀ x, x ∈ l → f x = some (c x)) (hl : l.length < 9223372036854775807)
    {body : Int → Option (Step Int Unit Int)}
    (hb : ∀ (i : Int), body i = if i < (l.length : Int) then ((at? l i).bind fun v => (f v).bind fun r => if r = true then some (.ret i) else some (.next (w64 (i + 1)))) else some (.brk ())) :
    wp (onL (loop body loopLim 0) (fun (_ : Unit) => some (-1 : Int)) (fun r => some r)) fun r => (r = -1 ∧ l.any c = false) ∨ (∃ k : Nat, r = (k : Int) ∧ ∃ h : k < l.length, c l[k] = true ∧ (∀ j (h2 : j < k), c (l[j]'(by omega)) = false) ∧ l.any c = true) := by
  refine wp_loop (fun t : Int => ∃ k : Nat, t = (k : Int) ∧ k ≤ l.length ∧ ∀ j (h2 : j < k) (h3 : j < l.length), c l[j] = false) (fun t => (l.length - t).toNat) ⟨0, rfl, by omega, fun j hj => by omega⟩ (by omega) ?_
  rintro i ⟨k, rfl, hk, hall⟩
  rw [hb]
  refine wp_ite (fun h => ?_) (fun h => ?_)
  · have hk2 : k < l.length := by omega
    rw [at_of hk2, Option.bind_some, hf _ (List.getElem_mem hk2), Option.bind_some]
    refine wp_ite (fun h3 => ?_) (fun h3 => ?_)
    · exact wp_some (wp_some (.inr ⟨k, rfl, hk2, h3, fun j hj => hall j hj (by omega), List.any_eq_true.2 ⟨_, List.getElem_mem hk2, h3⟩⟩))
    · rw [w64_succ hk2 (by omega)]
      refine wp_some ⟨⟨k + 1, rfl, by omega, fun j hj hj2 => ?_⟩, by omega⟩
      rcases Nat.lt_or_ge j k with h4 | h4
      · exact hall j h4 hj2
      · obtain rfl : j = k := by omega
        simpa using h3
  · obtain rfl : k = l.length := by omega
    refine wp_some (wp_some (.inl ⟨rfl, ?_⟩))
    refine Bool.eq_false_iff.2 fun hc => ?_
    obtain ⟨x, hx, hx2⟩ := List.any_eq_true.1 hc
    obtain ⟨j, hj, rfl⟩ := List.getElem_of_mem hx
    rw [hall j hj hj] at hx2
    cases hx2
/-- the library's ContainsFunc -/
theorem contS {f : α → Option Bool} (c : α → Bool) (l : List α) (hf : ∀ x, x ∈ l → f x = some (c x)) (hl : l.length < 9223372036854775807)
    {body : Int → Option (Step Int Unit Int)}
    (hb : ∀ (i : Int), body i = if i < (l.length : Int) then ((at? l i).bind fun v => (f v).bind fun r => if r = true then some (.ret i) else some (.next (w64 (i + 1)))) else some (.brk ())) :
    ((onL (loop body loopLim 0) (fun (_ : Unit) => some (-1 : Int)) (fun r => some r)).bind fun r => some (decide (r ≥ 0))) = some (l.any c) := by
  obtain ⟨r, h1, h2⟩ := idxFS c l hf hl hb
  rw [h1, Option.bind_some]
  rcases h2 with ⟨rfl, h⟩ | ⟨k, rfl, _, _, _, h⟩
  · rw [h]; rfl
  · rw [h, decide_eq_true (by omega)]
/-- a loop whose state at each round is told -/
theorem wp_cnt {S B : Type} {Q : γ → Prop} {body : S → Option (Step S B R)} {kb : B → Option γ} {kr : R → Option γ} {s0 : S} (st : Nat → S) (n : Nat) (h0 : s0 = st 0) (hn : n < 18446744073709551616)
    (hs : ∀ k, k < n → body (st k) = some (.next (st (k + 1)))) {b : B} (he : body (st n) = some (.brk b)) (hq : wp (kb b) Q) : wp (onL (loop body loopLim s0) kb kr) Q := by
  rw [h0, loop_brk st n hn hs he]; exact hq
theorem bind_twice {A : Option α} {k : α → α → Option β} : (A.bind fun v => A.bind fun w => k v w) = A.bind fun v => k v v := by cases A <;> rfl
/-- the numbers below n that fit -/
def sl (c : Nat → Bool) : Nat → List Int
  | 0 => []
  | k + 1 => if c k = true then sl c k ++ [(k : Int)] else sl c k
theorem sl_len (c : Nat → Bool) : ∀ k, (sl c k).length ≤ k
  | 0 => by simp [sl]
  | k + 1 => by have := sl_len c k; rw [sl]; split <;> simp <;> omega
theorem sl_mono {c d : Nat → Bool} : ∀ {k : Nat}, (∀ i, i < k → c i = true → d i = true) → (sl c k).length ≤ (sl d k).length
  | 0, _ => by simp [sl]
  | k + 1, h => by
    have ih := sl_mono (c := c) (d := d) (k := k) fun i hi => h i (by omega)
    have hk := h k (by omega)
    rw [sl, sl]
    cases hc : c k <;> cases hd : d k <;> simp <;> simp [hc, hd] at hk <;> omega
theorem sl_nil {c : Nat → Bool} : ∀ {k : Nat}, (sl c k).length = 0 ↔ ∀ i, i < k → c i = false
  | 0 => by simp [sl]
  | k + 1 => by
    have ih := sl_nil (c := c) (k := k)
    rw [sl]
    constructor
    · intro h i hi
      split at h
      · simp at h
      · rename_i hc
        rcases Nat.lt_or_ge i k with h1 | h1
        · exact ih.1 h i h1
        · obtain rfl : i = k := by omega
          simpa using hc
    · intro h
      rw [h k (by omega), if_neg (by simp)]
      exact ih.2 fun i hi => h i (by omega)
theorem sl_congr {c d : Nat → Bool} : ∀ {k : Nat}, (∀ i, i < k → c i = d i) → sl c k = sl d k
  | 0, _ => rfl
  | k + 1, h => by rw [sl, sl, h k (by omega), sl_congr fun i hi => h i (by omega)]
/-- the greatest -/
def mx (f : Nat → Int) : Nat → Int
  | 0 => 0
  | k + 1 => max (mx f k) (f k)
theorem mx_nonneg (f : Nat → Int) : ∀ k, 0 ≤ mx f k
  | 0 => by simp [mx]
  | k + 1 => by have := mx_nonneg f k; rw [mx]; omega
theorem le_mx {f : Nat → Int} : ∀ {k i : Nat}, i < k → f i ≤ mx f k
  | k + 1, i, h => by
    rw [mx]
    rcases Nat.lt_or_ge i k with h1 | h1
    · have := le_mx (f := f) h1; omega
    · rw [show i = k by omega]; omega
theorem mx_le {f : Nat → Int} {m : Int} (hm : 0 ≤ m) : ∀ {k : Nat}, (∀ i, i < k → f i ≤ m) → mx f k ≤ m
  | 0, _ => by simpa [mx] using hm
  | k + 1, h => by
    have h1 := mx_le (f := f) hm (k := k) fun i hi => h i (by omega)
    have h2 := h k (by omega)
    rw [mx]; omega
end
end Go.Vs
