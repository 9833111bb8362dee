/- Lamps: FnLamps. No conditions. -/
import Derived.Test.YtgefboppfddmdaaHLamps
namespace Go.Vs.G
open Go Go.Vs

def lmp (l : List Int) (need : Int) : Prop := (0 ≤ need ∧ need ≤ 100000) ∧ l.length ≤ 8 ∧ ∀ x, x ∈ l → 1 ≤ x ∧ x ≤ 100000
instance (l : List Int) (need : Int) : Decidable (lmp l need) := by unfold lmp; infer_instance
theorem lmp.l8 {l : List Int} {need : Int} (h : lmp l need) : l8 l := ⟨h.2.1, fun x hx => by have := h.2.2 x hx; omega⟩
theorem lampsCode_eq {l : List Int} {need : Int} (hl : l.length ≤ 1000000) : impl_lampsCode l need = some (if lmp l need then 0 else 2) := by
  have hcf : slices_ContainsFunc_int64_int64_796 l (fun a0 => impl_lampsCode_1 a0) = some (l.any fun v => !(decide (1 ≤ v ∧ v ≤ 100000))) := by
    unfold slices_ContainsFunc_int64_int64_796 slices_IndexFunc_int64_int64_818
    exact contS _ l (fun x _ => by unfold impl_lampsCode_1; rw [withinB]; rfl) (by omega) (fun _ => rfl)
  unfold impl_lampsCode
  rw [withinB, hcf, Option.bind_some]
  by_cases h : lmp l need
  · obtain ⟨h1, h2, h3⟩ := id h
    have hany : l.any (fun v => !(decide (1 ≤ v ∧ v ≤ 100000))) = false := by
      rw [List.any_eq_false]; intro x hx; simp [h3 x hx]
    rw [hany, if_pos h, decide_eq_true h1, if_pos rfl, if_neg (by omega)]
    rfl
  · rw [if_neg h]
    by_cases h1 : 0 ≤ need ∧ need ≤ 100000
    · rw [decide_eq_true h1, if_pos rfl]
      by_cases h2 : (l.length : Int) > 8
      · rw [if_pos h2]; rfl
      · rw [if_neg h2]
        have hany : l.any (fun v => !(decide (1 ≤ v ∧ v ≤ 100000))) = true := by
          refine Classical.byContradiction fun hc => h ⟨h1, by omega, fun x hx => ?_⟩
          have hf : l.any (fun v => !(decide (1 ≤ v ∧ v ≤ 100000))) = false := by simpa using hc
          rw [List.any_eq_false] at hf
          simpa using hf x hx
        rw [hany]; rfl
    · rw [decide_eq_false h1, if_neg (by simp)]; rfl
theorem l12Need_eq {l : List Int} {need : Int} (hl : l.length ≤ 1000000) : spec_l12Need l need = some (if lmp l need then 0 else 2) := by
  have hL : spec_l12Lamps l = some (decide (l.length ≤ 8 ∧ ∀ x, x ∈ l → 1 ≤ x ∧ x ≤ 100000)) := by
    unfold spec_l12Lamps
    rw [allS (f := fun v => spec_l00In v 1 100000) (fun v => decide (1 ≤ v ∧ v ≤ 100000)) l (fun x _ => inB x 1 100000) (by omega) (fun _ => rfl)]
    split
    · rename_i h
      congr 1
      rw [decide_eq_decide]
      exact ⟨fun h2 => ⟨by omega, fun x hx => of_decide_eq_true (h x hx)⟩, fun h2 => by have := h2.1; omega⟩
    · rename_i h
      rw [decide_eq_false (fun hc => h fun x hx => decide_eq_true (hc.2 x hx))]
  unfold spec_l12Need
  rw [hL, inB, Option.bind_some]
  by_cases h1 : 0 ≤ need ∧ need ≤ 100000 <;> by_cases h2 : l.length ≤ 8 ∧ ∀ x, x ∈ l → 1 ≤ x ∧ x ≤ 100000
  · rw [if_pos (show lmp l need from ⟨h1, h2⟩), decide_eq_true h1, decide_eq_true h2]; rfl
  · rw [if_neg (fun h : lmp l need => h2 h.2), decide_eq_false h2]; rfl
  · rw [if_neg (fun h : lmp l need => h1 h.1), decide_eq_false h1, decide_eq_true h2]; rfl
  · rw [if_neg (fun h : lmp l need => h1 h.1), decide_eq_false h2]; rfl

/-- no prices -/
def zs (n : Nat) : List Int := List.replicate n 0
theorem zs_gd (n k : Nat) : gd (zs n) k = 0 := by
  unfold gd zs; rw [List.getD_eq_getElem?_getD, List.getElem?_replicate]; split <;> rfl
theorem zs_ss (n : Nat) (c : Nat → Bool) : ∀ k, ss (zs n) c k = 0
  | 0 => rfl
  | k + 1 => by rw [ss, zs_ss n c k, zs_gd]; simp
theorem zs_l8 {n : Nat} (h : n ≤ 8) : l8 (zs n) := ⟨by simpa [zs] using h, fun x hx => by
  have := List.eq_of_mem_replicate hx; omega⟩
def fewR (l : List Int) : Option Nat → List Int × Int
  | none => ([], 3)
  | some b => (ixs l.length b, 0)
def few (l : List Int) (need : Int) : Option Nat := bst l (zs l.length) need (2 ^ l.length)
theorem FewestLamps_eq {l : List Int} {need : Int} (hl : l.length ≤ 1000000) : impl_FewestLamps l need = some (if lmp l need then fewR l (few l need) else ([], 2)) := by
  unfold impl_FewestLamps
  rw [lampsCode_eq hl, Option.bind_some]
  by_cases h : lmp l need
  · have h8 := h.l8
    have hn := h8.1
    simp only [h, if_true]
    rw [mk_ok (by omega) (by omega), Option.bind_some, Int.toNat_natCast]
    rw [show List.replicate l.length (0 : Int) = zs l.length from rfl, chosenLamps_eq h8 (zs_l8 hn) (by simp [zs]), Option.bind_some]
    rw [show bst l (zs l.length) need (2 ^ l.length) = few l need from rfl]
    cases few l need <;> rfl
  · simp only [h, if_false]
    rfl
theorem FewestLamps_spec {l : List Int} {need : Int} (hl : l.length ≤ 1000000) : spec_FewestLamps l need = some (if lmp l need then fewR l (few l need) else ([], 2)) := by
  unfold spec_FewestLamps
  rw [l12Need_eq hl, Option.bind_some]
  by_cases h : lmp l need
  · have h8 := h.l8
    have hn := h8.1
    have hp := p8 hn
    simp only [h, if_true]
    refine eq_of_wp ?_
    refine wp_cnt (fun x => ((encI l.length (zs l.length) (bst l (zs l.length) need x)).1, (encI l.length (zs l.length) (bst l (zs l.length) need x)).2.2, (x : Int))) (2 ^ l.length) rfl (by omega) (fun x hx => ?_) (b := ((encI l.length (zs l.length) (few l need)).1, (encI l.length (zs l.length) (few l need)).2.2)) ?_ ?_
    · have hln := ix_len l.length x
      cases hb : bst l (zs l.length) need x with
      | none =>
        have hE' : encI l.length (zs l.length) (bst l (zs l.length) need (x + 1)) = if tot l x < need then ([], 0, false) else (ixs l.length x, tot (zs l.length) x, true) := by
          rw [bst]; split
          · rw [hb]; rfl
          · rw [hb]; rfl
        rw [hE', show encI l.length (zs l.length) none = ([], 0, false) from rfl]
        simp only
        rw [shl_one (by omega), Option.bind_some, if_pos (by omega), l12Some_eq hn hx, Option.bind_some, l12Sum_eq h8 hx, Option.bind_some, w64_id (n := (x : Int) + 1) (by omega) (by omega)]
        by_cases h1 : tot l x < need
        · rw [if_pos h1, if_neg (by omega)]; rfl
        · rw [if_neg h1, if_pos (by omega)]; rfl
      | some b =>
        have hbl := ix_len l.length b
        have hE' : encI l.length (zs l.length) (bst l (zs l.length) need (x + 1)) = if tot l x < need then (ixs l.length b, tot (zs l.length) b, true) else if btr l (zs l.length) x b = true then (ixs l.length x, tot (zs l.length) x, true) else (ixs l.length b, tot (zs l.length) b, true) := by
          rw [bst]; split
          · rw [hb]; rfl
          · rw [hb]; simp only; split <;> rfl
        rw [hE', show encI l.length (zs l.length) (some b) = (ixs l.length b, tot (zs l.length) b, true) from rfl]
        simp only
        rw [shl_one (by omega), Option.bind_some, if_pos (by omega), l12Some_eq hn hx, Option.bind_some, l12Sum_eq h8 hx, Option.bind_some, w64_id (n := (x : Int) + 1) (by omega) (by omega)]
        by_cases h1 : tot l x < need
        · rw [if_pos h1, if_neg (by omega)]; rfl
        · rw [if_neg h1, if_pos (by omega)]
          have hbt : btr l (zs l.length) x b = less (ixs l.length x) (ixs l.length b) := by
            unfold btr; simp only [tot, zs_ss]; simp
          rw [hbt]
          simp only [if_true]
          rw [l11Less_eq (by omega), Option.bind_some, Option.bind_some]
          cases less (ixs l.length x) (ixs l.length b) <;> rfl
    · simp only; rw [shl_one (by omega), Option.bind_some, if_neg (by omega)]; rfl
    · cases few l need
      · simp only [encI, Bool.false_eq_true, if_false]; exact wp_some rfl
      · simp only [encI, if_true]; exact wp_some rfl
  · simp only [h, if_false]
    rfl
def prs (p : List Int) (n : Nat) : Prop := p.length = n ∧ ∀ x, x ∈ p → 0 ≤ x ∧ x ≤ 100000
instance (p : List Int) (n : Nat) : Decidable (prs p n) := by unfold prs; infer_instance
def cheR (l p : List Int) : Option Nat → List Int × Int × Int
  | none => ([], 0, 3)
  | some b => (ixs l.length b, tot p b, 0)
def che (l p : List Int) (need : Int) : Option Nat := bst l p need (2 ^ l.length)
theorem CheapestLamps_eq {l p : List Int} {need : Int} (hl : l.length ≤ 1000000) (hpl : p.length ≤ 1000000) : impl_CheapestLamps l p need = some (if lmp l need ∧ prs p l.length then cheR l p (che l p need) else ([], 0, 2)) := by
  have hcf : slices_ContainsFunc_int64_int64_796 p (fun a0 => impl_CheapestLamps_1 a0) = some (p.any fun v => !(decide (0 ≤ v ∧ v ≤ 100000))) := by
    unfold slices_ContainsFunc_int64_int64_796 slices_IndexFunc_int64_int64_818
    exact contS _ p (fun x _ => by unfold impl_CheapestLamps_1; rw [withinB]; rfl) (by omega) (fun _ => rfl)
  unfold impl_CheapestLamps
  rw [lampsCode_eq hl, hcf, Option.bind_some]
  by_cases h : lmp l need
  · rw [if_pos h, if_pos rfl]
    by_cases h2 : p.length = l.length
    · rw [if_pos (by omega)]
      by_cases h3 : ∀ x, x ∈ p → 0 ≤ x ∧ x ≤ 100000
      · have hany : p.any (fun v => !(decide (0 ≤ v ∧ v ≤ 100000))) = false := by
          rw [List.any_eq_false]; intro x hx; simp [h3 x hx]
        have hp8 : l8 p := ⟨by have := h.2.1; omega, h3⟩
        rw [hany, if_pos ⟨h, h2, h3⟩]
        simp only [Option.bind_some, Bool.false_eq_true, if_false]
        rw [chosenLamps_eq h.l8 hp8 h2, Option.bind_some, show bst l p need (2 ^ l.length) = che l p need from rfl]
        cases che l p need <;> rfl
      · have hany : p.any (fun v => !(decide (0 ≤ v ∧ v ≤ 100000))) = true := by
          refine Classical.byContradiction fun hc => h3 fun x hx => ?_
          have hf : p.any (fun v => !(decide (0 ≤ v ∧ v ≤ 100000))) = false := by simpa using hc
          rw [List.any_eq_false] at hf
          simpa using hf x hx
        rw [hany, if_neg (fun hc => h3 hc.2.2)]; rfl
    · rw [if_neg (by omega), if_neg (fun hc => h2 hc.2.1)]; rfl
  · rw [if_neg h, if_neg (by omega), if_neg (fun hc : lmp l need ∧ prs p l.length => h hc.1)]; rfl
def encS : Option Nat → Int
  | none => -1
  | some b => (b : Int)
theorem CheapestLamps_spec {l p : List Int} {need : Int} (hl : l.length ≤ 1000000) (hpl : p.length ≤ 1000000) : spec_CheapestLamps l p need = some (if lmp l need ∧ prs p l.length then cheR l p (che l p need) else ([], 0, 2)) := by
  unfold spec_CheapestLamps
  rw [l12Need_eq hl, Option.bind_some]
  by_cases h : lmp l need
  · have h8 := h.l8
    have hn := h8.1
    have hp := p8 hn
    rw [if_pos h, if_pos rfl]
    rw [allS (f := fun v => spec_l00In v 0 100000) (fun v => decide (0 ≤ v ∧ v ≤ 100000)) p (fun x _ => inB x 0 100000) (by omega) (fun _ => rfl)]
    by_cases h3 : ∀ x, x ∈ p → decide (0 ≤ x ∧ x ≤ 100000) = true
    · have h3' : ∀ x, x ∈ p → 0 ≤ x ∧ x ≤ 100000 := fun x hx => of_decide_eq_true (h3 x hx)
      rw [if_pos h3]
      by_cases h2 : p.length = l.length
      · have hp8 : l8 p := ⟨by omega, h3'⟩
        rw [if_pos (by omega), if_pos ⟨h, h2, h3'⟩]
        refine eq_of_wp ?_
        refine wp_cnt (fun x => (encS (bst l p need x), (x : Int))) (2 ^ l.length) rfl (by omega) (fun x hx => ?_) (b := encS (che l p need)) ?_ ?_
        · have hln := ix_len l.length x
          cases hb : bst l p need x with
          | none =>
            have hE' : encS (bst l p need (x + 1)) = if tot l x < need then -1 else (x : Int) := by
              rw [bst]; split
              · rw [hb]; rfl
              · rw [hb]; rfl
            rw [hE', show encS none = -1 from rfl]
            simp only
            rw [shl_one (by omega), Option.bind_some, if_pos (by omega), l12Sum_eq h8 hx, Option.bind_some, w64_id (n := (x : Int) + 1) (by omega) (by omega)]
            by_cases h1 : tot l x < need
            · rw [if_pos h1, if_pos h1]; rfl
            · rw [if_neg h1, if_neg h1]
              rfl
          | some b =>
            have hbl := ix_len l.length b
            have hbN := bst_lt hb
            have hb2 : b < 2 ^ p.length := by rw [h2]; omega
            have hx2 : x < 2 ^ p.length := by rw [h2]; omega
            have hE' : encS (bst l p need (x + 1)) = if tot l x < need then (b : Int) else if btr l p x b = true then (x : Int) else (b : Int) := by
              rw [bst]; split
              · rw [hb]; rfl
              · rw [hb]; simp only; split <;> rfl
            rw [hE', show encS (some b) = (b : Int) from rfl]
            simp only
            rw [shl_one (by omega), Option.bind_some, if_pos (by omega), l12Sum_eq h8 hx, Option.bind_some, w64_id (n := (x : Int) + 1) (by omega) (by omega)]
            by_cases h1 : tot l x < need
            · rw [if_pos h1, if_pos h1]; rfl
            · rw [if_neg h1, if_neg h1]
              refine bind_eq (v := btr l p x b) ?_ ?_
              · rw [if_neg (by omega), l12Sum_eq hp8 hx2, Option.bind_some, l12Sum_eq hp8 hb2, Option.bind_some, l12Some_eq hn hx, l12Some_eq hn (by omega)]
                unfold btr
                by_cases h5 : tot p x < tot p b
                · rw [if_pos h5, decide_eq_true h5]; rfl
                · rw [if_neg h5, decide_eq_false h5, Bool.false_or, Option.bind_some, Option.bind_some]
                  by_cases h6 : tot p x = tot p b
                  · rw [if_pos h6, decide_eq_true h6, Bool.true_and, Option.bind_some, Option.bind_some, l11Less_eq (by omega)]; rfl
                  · rw [if_neg h6, decide_eq_false h6, Bool.false_and]
              · cases btr l p x b <;> rfl
        · simp only; rw [shl_one (by omega), Option.bind_some, if_neg (by omega)]; rfl
        · cases hc : che l p need with
          | none =>
            rw [show encS none = -1 from rfl, if_pos (by omega)]; exact wp_some rfl
          | some b =>
            have hbN := bst_lt hc
            rw [show encS (some b) = (b : Int) from rfl, if_neg (by omega), l12Some_eq hn hbN, Option.bind_some, l12Sum_eq hp8 (by rw [h2]; exact hbN), Option.bind_some]
            exact wp_some rfl
      · rw [if_neg (by omega), if_neg (fun hc => h2 hc.2.1)]
    · rw [if_neg h3, if_neg (fun hc => h3 fun x hx => decide_eq_true (hc.2.2 x hx))]
  · rw [if_neg h, if_neg (by omega), if_neg (fun hc : lmp l need ∧ prs p l.length => h hc.1)]

theorem f6lamps_eq {l p ix : List Int} (hl : l8 l) (hp : l8 p) (hlen : p.length = l.length) (hix : ∀ v, v ∈ ix → 0 ≤ v ∧ v < l.length) (hi : ix.length ≤ 1000000) : laws_f6lamps l p ix = some (lsum l ix, lsum p ix) := by
  unfold laws_f6lamps
  rw [sum2 hl hp hlen hix hi (fun a b i => by
    simp only
    split
    · cases hv : at? ix i with
      | none => rfl
      | some v =>
        simp only [Option.bind_some]
    · rfl)]

/- draws -/
theorem l12DrawNeed_ok {B : Int} {s : GL00Src} (h : SrcOk B s) (hB : B ≤ 4611686018427360000) : wp (spec_l12DrawNeed s) (fun r => SrcOk (B + 20) r.2) := by
  unfold spec_l12DrawNeed
  repeat' first
    | ((with_reducible apply wp_pick); assumption; omega; intro _ _ _ _ _; try simp only)
    | ((with_reducible apply wp_one); assumption; omega; intro _ _ _; try simp only)
    | ((with_reducible apply wp_among); assumption; omega; simp; simp; intro _ _ _ _; try simp only)
    | ((with_reducible apply wp_bent); assumption; omega; intro _ _ _; try simp only)
    | ((with_reducible apply wp_draw02); assumption; omega; intro _ _ _; try simp only)
    | ((with_reducible apply wp_from); assumption; omega; intro _ _; try simp only)
    | ((with_reducible refine wp_app ?_ ?_); ((try simp only [List.length_append, List.length_cons, List.length_nil]); omega); try simp only)
    | (with_reducible refine wp_ite ?_ ?_) <;> intro _
    | ((with_reducible refine wp_bind (wp_ite ?_ ?_))) <;> intro _
    | ((with_reducible refine wp_bind (wp_some ?_)); try simp only)
    | ((with_reducible refine wp_some ?_); try simp only)
    | exact trivial
    | exact SrcOk.mono (by assumption) (by omega)
theorem l12DrawLamps_ok {B : Int} {s : GL00Src} (h : SrcOk B s) (hB : B ≤ 4611686018427360000) : wp (spec_l12DrawLamps s) (fun r => r.1.length ≤ 100 ∧ SrcOk (B + 2000) r.2) := by
  unfold spec_l12DrawLamps
  have key : ∀ (n : Int) (s : GL00Src), SrcOk (B + 10) s → 0 ≤ n → n ≤ 70 → wp (onL (loop (S := (GL00Src × (List Int) × Int)) (B := (GL00Src × (List Int))) (R := Empty) (fun ((s3, out1, k1) : GL00Src × (List Int) × Int) =>
 if k1 > 0 then
 ((spec_l00Src_pick s3 20).bind fun r4 =>
 (app? out1 ([w64 (100 * (w64 (1 + r4.1)))] : List Int)).bind fun l1 =>
 some (.next (r4.2, l1, w64 (k1 - 1))))
 else
 some (.brk (s3, out1))) loopLim (s, [], n))
 (fun ((s4, out2) : GL00Src × (List Int)) => ((if n > 0 then
 ((spec_l00Src_one s4 12).bind fun r5 =>
 some (r5.2, r5.1))
 else
 some (s4, false)) : Option (GL00Src × Bool)).bind fun ((s5, x1) : GL00Src × Bool) =>
 if x1 then
 ((spec_l00Src_among s5 [(-1), 0, 1, 100000, 100001]).bind fun r6 =>
 (at? out2 0).bind fun v1 =>
 some (out2.set ((0 : Int).toNat) r6.1, r6.2))
 else
 some (out2, s5)) Empty.elim) (fun r => r.1.length ≤ 100 ∧ SrcOk (B + 2000) r.2) := by
    intro n s hs h0 h1
    refine wp_loop (fun t : GL00Src × List Int × Int => SrcOk (B + 1000 - t.2.2 * 10) t.1 ∧ 0 ≤ t.2.2 ∧ t.2.2 ≤ n ∧ (t.2.1.length : Int) = n - t.2.2) (fun t => t.2.2.toNat) ⟨hs.mono (by simp only; omega), h0, by simp only; omega, by simp⟩ (by simp only; omega) ?_
    rintro ⟨s, l, k⟩ ⟨h2, h3, h4, h5⟩
    simp only at h2 h3 h4 h5 ⊢
    refine wp_ite (fun h6 => ?_) (fun h6 => ?_)
    · refine wp_pick h2 (by omega) fun v s' v0 v1 h7 => ?_
      refine wp_app (by simp; omega) ?_
      rw [w64_id (n := k - 1) (by omega) (by omega)]
      exact wp_some ⟨⟨h7.mono (by simp only; omega), by simp only; omega, by simp only; omega, by simp; omega⟩, by simp only; omega⟩
    · refine wp_some ?_
      simp only
      refine wp_bind (wp_ite (fun h7 => ?_) (fun h7 => wp_some ?_))
      · refine wp_one h2 (by omega) fun v s' h8 => wp_some ?_
        simp only
        refine wp_ite (fun _ => ?_) (fun _ => wp_some ⟨by simp only; omega, h8.mono (by omega)⟩)
        refine wp_among h8 (by omega) (by simp) (by simp) fun z s4 _ h10 => ?_
        rw [at_ok (by omega) (by simp; omega), Option.bind_some]
        exact wp_some ⟨by simp; omega, h10.mono (by omega)⟩
      · simp only [Bool.false_eq_true, if_false]
        exact wp_some ⟨by simp only; omega, h2.mono (by omega)⟩
  refine wp_pick h (by omega) fun v s' v0 v1 h7 => ?_
  refine wp_one h7 (by omega) fun b s'' h8 => ?_
  simp only
  refine wp_bind (wp_ite (fun _ => ?_) (fun _ => ?_))
  · refine wp_pick h8 (by omega) fun u s3 u0 u1 h9 => wp_some ?_
    simp only
    rw [w64_id (by omega) (by omega)]
    exact key _ _ (h9.mono (by omega)) (by omega) (by omega)
  · exact wp_some (key _ _ (h8.mono (by omega)) (by omega) (by omega))
theorem DrawFewestLamps_ok {code : List Int} (hc : okL (okI .u8) code) (hl : code.length ≤ 1000000) : wp (spec_DrawFewestLamps code) (fun r => r.1.length ≤ 100) := by
  unfold spec_DrawFewestLamps
  exact wp_from hc hl fun s hs => wp_seq (l12DrawLamps_ok hs (by omega)) fun r hr => wp_seq (l12DrawNeed_ok hr.2 (by omega)) fun q hq => wp_some hr.1
theorem DrawCheapestLamps_ok {code : List Int} (hc : okL (okI .u8) code) (hl : code.length ≤ 1000000) : wp (spec_DrawCheapestLamps code) (fun r => r.1.length ≤ 100 ∧ r.2.1.length ≤ 1000) := by
  unfold spec_DrawCheapestLamps
  refine wp_from hc hl fun s hs => wp_seq (l12DrawLamps_ok hs (by omega)) fun r hr => ?_
  obtain ⟨h1, h2⟩ := hr
  refine wp_loop (fun t : GL00Src × List Int × Int => SrcOk (3000 + t.2.2 * 10) t.1 ∧ 0 ≤ t.2.2 ∧ t.2.2 ≤ r.1.length ∧ (t.2.1.length : Int) = t.2.2) (fun t => (r.1.length - t.2.2).toNat) ⟨h2.mono (by simp only; omega), by simp, by simp only; omega, by simp⟩ (by simp only; omega) ?_
  rintro ⟨s, l, k⟩ ⟨h3, h4, h5, h6⟩
  simp only at h3 h4 h5 h6 ⊢
  refine wp_ite (fun h7 => ?_) (fun h7 => ?_)
  · refine wp_pick h3 (by omega) fun v s' v0 v1 h8 => ?_
    refine wp_app (by simp; omega) ?_
    rw [w64_id (n := k + 1) (by omega) (by omega)]
    exact wp_some ⟨⟨h8.mono (by simp only; omega), by simp only; omega, by simp only; omega, by simp; omega⟩, by simp only; omega⟩
  · refine wp_some ?_
    simp only
    refine wp_pick h3 (by omega) fun v s' v0 v1 h8 => ?_
    simp only
    refine wp_bind (wp_ite (fun _ => ?_) (fun _ => wp_ite (fun _ => wp_ite (fun _ => ?_) (fun _ => ?_)) (fun _ => ?_)))
    · refine wp_app (by simp; omega) (wp_some ?_)
      exact wp_seq (l12DrawNeed_ok h8 (by omega)) fun q hq => wp_some ⟨h1, by simp; omega⟩
    · refine wp_among h8 (by omega) (by simp) (by simp) fun z s4 _ h10 => ?_
      rw [at_ok (by omega) (by simp; omega), Option.bind_some]
      refine wp_some ?_
      exact wp_seq (l12DrawNeed_ok h10 (by omega)) fun q hq => wp_some ⟨h1, by simp; omega⟩
    · refine wp_some ?_
      exact wp_seq (l12DrawNeed_ok h8 (by omega)) fun q hq => wp_some ⟨h1, by simp only; omega⟩
    · refine wp_some ?_
      exact wp_seq (l12DrawNeed_ok h8 (by omega)) fun q hq => wp_some ⟨h1, by simp only; omega⟩

theorem f6intsL (a b : List Int) (ha : a.length < 9223372036854775807) : laws_f6ints a b = some (decide (a = b)) := by
  unfold laws_f6ints; exact eqSp a b ha
theorem few_ok {l : List Int} {need : Int} {b : Nat} (h : few l need = some b) : b < 2 ^ l.length ∧ need ≤ tot l b ∧ ∀ x, x < 2 ^ l.length → need ≤ tot l x → (ixs l.length b).length ≤ (ixs l.length x).length := by
  obtain ⟨h1, h2, h3⟩ := bst_some h
  exact ⟨h1, h2, fun x hx hn => (h3 x hx hn).2 (by simp only [tot, zs_ss])⟩
theorem laws_FnLamps_true {code : List Int} (hc : okL (okI .u8) code) : laws_FnLamps code = some true := by
  unfold laws_FnLamps laws_f6big
  rw [Option.bind_some]
  refine ite_val (fun _ => rfl) (fun hl => ?_)
  simp only [decide_eq_true_eq] at hl
  obtain ⟨⟨l1, n1⟩, d1, hl1⟩ := DrawFewestLamps_ok hc (by omega)
  obtain ⟨⟨l2, p2, n2⟩, d2, hl2, hp2⟩ := DrawCheapestLamps_ok hc (by omega)
  simp only at hl1 hl2 hp2
  rw [d1, Option.bind_some]
  simp only
  rw [FewestLamps_eq (by omega), Option.bind_some, FewestLamps_spec (by omega), Option.bind_some, d2, Option.bind_some]
  simp only
  rw [CheapestLamps_eq (by omega) (by omega), Option.bind_some, CheapestLamps_spec (by omega) (by omega), Option.bind_some]
  have hX : (if lmp l1 n1 then fewR l1 (few l1 n1) else ([], 2)).1.length ≤ 100 := by
    split
    · cases few l1 n1 with
      | none => simp [fewR]
      | some b => have := ix_len l1.length b; simp only [fewR]; omega
    · simp
  have hY : (if lmp l2 n2 ∧ prs p2 l2.length then cheR l2 p2 (che l2 p2 n2) else ([], 0, 2)).1.length ≤ 100 := by
    split
    · cases che l2 p2 n2 with
      | none => simp [cheR]
      | some b => have := ix_len l2.length b; simp only [cheR]; omega
    · simp
  rw [f6intsL _ _ (by omega), f6intsL _ _ (by omega)]
  simp only [if_true, decide_true, Option.bind_some, Bool.not_true, Bool.false_eq_true, if_false]
  refine (congrArg (fun o => onS o _ Empty.elim fun r => some r) (?_ : _ = some (Step.next ()))).trans ?_
  · refine ite_val (fun h => ?_) (fun _ => rfl)
    by_cases hv : lmp l2 n2 ∧ prs p2 l2.length
    · rw [if_pos hv] at h ⊢
      cases hch : che l2 p2 n2 with
      | none => rw [hch] at h; simp [cheR] at h
      | some b =>
        obtain ⟨hv1, hv2⟩ := hv
        have h8 := hv1.l8
        have hn := h8.1
        have hp8 : l8 p2 := ⟨by rw [hv2.1]; exact hn, hv2.2⟩
        obtain ⟨g1, g2, g3⟩ := bst_some hch
        have hfew : few l2 n2 ≠ none := fun hc => by
          have := bst_none hc b g1; omega
        obtain ⟨f, hf⟩ := Option.ne_none_iff_exists'.1 hfew
        obtain ⟨f1, f2, f3⟩ := few_ok hf
        have hlb := ix_len l2.length b
        have hlf := ix_len l2.length f
        have hpt : ∀ x, ss p2 (fun i => x.testBit i) l2.length = tot p2 x := fun x => by unfold tot; rw [hv2.1]
        rw [FewestLamps_eq (by omega), Option.bind_some, if_pos hv1, hf]
        rw [show cheR l2 p2 (some b) = (ixs l2.length b, tot p2 b, 0) from rfl, show fewR l2 (some f) = (ixs l2.length f, 0) from rfl]
        simp only
        rw [f6lamps_eq h8 hp8 hv2.1 ix_rng (by omega), Option.bind_some, lsum_sl, lsum_sl, hpt]
        simp only [if_true]
        rw [if_neg (show ¬ ss l2 (fun i => b.testBit i) l2.length < n2 by have : tot l2 b = ss l2 (fun i => b.testBit i) l2.length := rfl; omega)]
        have := f3 b g1 g2
        simp only [show ¬ (((ixs l2.length f).length : Int) > ((ixs l2.length b).length : Int)) by omega, decide_false, Option.bind_some, Bool.false_eq_true, if_false]
        refine eq_of_wp ?_
        refine wp_loop (fun i : Int => 0 ≤ i) (fun i => ((ixs l2.length f).length - i).toNat) (by omega) (by omega) ?_
        intro i hi
        refine wp_ite (fun h5 => ?_) (fun h5 => ?_)
        · rw [at_ok hi (by omega), Option.bind_some]
          obtain ⟨r1, r2⟩ := ix_rng (n := l2.length) (x := f) _ (List.getElem_mem (show i.toNat < (ixs l2.length f).length by omega))
          rw [if_neg (by omega), Option.bind_some, decide_eq_false (by omega), Option.bind_some]
          simp only [Bool.false_eq_true, if_false]
          rw [w64_id (by omega) (by omega)]
          exact wp_some ⟨by omega, by omega⟩
        · refine wp_some ?_
          rw [f6lamps_eq h8 hp8 hv2.1 ix_rng (by omega), Option.bind_some, lsum_sl, lsum_sl, hpt]
          simp only
          have := (g3 f f1 f2).1
          rw [if_neg (by omega)]
          exact wp_some rfl
    · rw [if_neg hv] at h; simp at h
  · rw [onS_next]
    refine ite_val (fun h => ?_) (fun _ => rfl)
    by_cases hv : lmp l1 n1
    · rw [if_pos hv] at h ⊢
      cases hch : few l1 n1 with
      | none => rw [hch] at h; simp [fewR] at h
      | some b =>
        have h8 := hv.l8
        have hn := h8.1
        obtain ⟨f1, f2, f3⟩ := few_ok hch
        have hlb := ix_len l1.length b
        rw [show fewR l1 (some b) = (ixs l1.length b, 0) from rfl]
        simp only
        rw [f6lamps_eq h8 h8 rfl ix_rng (by omega), Option.bind_some, lsum_sl]
        simp only
        have hb0 := tot_rng h8 (fun i => b.testBit i) (Nat.le_refl l1.length)
        refine eq_of_wp ?_
        refine wp_loop (fun i : Int => 0 ≤ i) (fun i => ((ixs l1.length b).length - i).toNat) (by omega) (by omega) ?_
        intro i hi
        refine wp_ite (fun h5 => ?_) (fun h5 => ?_)
        · have hmem := List.getElem_mem (show i.toNat < (ixs l1.length b).length by omega)
          rw [at_ok hi (by omega), Option.bind_some]
          obtain ⟨j, hj, hj2, hj3⟩ := mem_sl' hmem
          rw [hj, at_gd hj2, Option.bind_some]
          have hgj := hv.2.2 _ (gd_mem hj2)
          have hd : ∀ m, (b ^^^ 2 ^ j).testBit m = (b.testBit m && !decide (m = j)) := by
            intro m
            rw [Nat.testBit_xor, Nat.testBit_two_pow]
            by_cases hm : m = j
            · subst hm; rw [show b.testBit m = true from hj3]; simp
            · rw [decide_eq_false hm, decide_eq_false (fun h => hm h.symm)]; simp
          have hs := ss_clear l1 (c := fun i => b.testBit i) (d := fun i => (b ^^^ 2 ^ j).testBit i) hj3 hd l1.length hj2
          have hcl := sl_clear (c := fun i => b.testBit i) (d := fun i => (b ^^^ 2 ^ j).testBit i) hj3 hd l1.length hj2
          have hx : b ^^^ 2 ^ j < 2 ^ l1.length := Nat.xor_lt_two_pow f1 (Nat.pow_lt_pow_right (by omega) hj2)
          have hlt : ¬ (ss l1 (fun i => b.testBit i) l1.length - gd l1 j ≥ n1) := by
            intro hge
            have := f3 _ hx (by show n1 ≤ ss l1 (fun i => (b ^^^ 2 ^ j).testBit i) l1.length; omega)
            have e1 : (ixs l1.length (b ^^^ 2 ^ j)).length = (sl (fun i => (b ^^^ 2 ^ j).testBit i) l1.length).length := rfl
            have e2 : (ixs l1.length b).length = (sl (fun i => b.testBit i) l1.length).length := rfl
            omega
          rw [w64_id (by omega) (by omega), if_neg hlt, w64_id (by omega) (by omega)]
          exact wp_some ⟨by omega, by omega⟩
        · refine wp_some (wp_some (decide_eq_true ?_))
          exact f2
    · rw [if_neg hv] at h; simp at h
end Go.Vs.G
