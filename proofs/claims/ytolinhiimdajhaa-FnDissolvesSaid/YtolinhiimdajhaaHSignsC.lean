/- Causes: the answers of both sides. No conditions. -/
import Derived.Test.YtolinhiimdajhaaHSignsB
namespace Go.Vs
open Go
/-- those below k that fit, told by g -/
def flt {α : Type} (P : Nat → Bool) (g : Nat → α) (k : Nat) : List α := ((List.range k).filter P).map g
theorem flt_succ {α : Type} (P : Nat → Bool) (g : Nat → α) (k : Nat) : flt P g (k + 1) = flt P g k ++ if P k = true then [g k] else [] := by
  unfold flt
  rw [List.range_succ, List.filter_append, List.map_append]
  congr 1
  by_cases h : P k = true
  · rw [if_pos h]; simp [h]
  · rw [if_neg h]; simp [h]
theorem flt_len {α : Type} (P : Nat → Bool) (g : Nat → α) (k : Nat) : (flt P g k).length ≤ k := by
  unfold flt; rw [List.length_map]; exact Nat.le_trans (List.length_filter_le _ _) (by simp)
theorem mem_flt {α : Type} {P : Nat → Bool} {g : Nat → α} {k : Nat} {x : α} : x ∈ flt P g k ↔ ∃ j, j < k ∧ P j = true ∧ g j = x := by
  unfold flt; simp only [List.mem_map, List.mem_filter, List.mem_range]
  constructor
  · rintro ⟨j, ⟨h1, h2⟩, h3⟩; exact ⟨j, h1, h2, h3⟩
  · rintro ⟨j, h1, h2, h3⟩; exact ⟨j, ⟨h1, h2⟩, h3⟩
end Go.Vs
namespace Go.Vs.G
open Go Go.Vs
theorem EqualL {a b : List Int} (ha : a.length ≤ 1048576) : slices_Equal_int64_int64_811 a b = some (decide (a = b)) := eqSp a b (by omega)
/-- equal signs, as lists and as bits -/
theorem sl_eq_iff {x : Nat} {s : List Int} (hx : x < 2 ^ 20) (hr : Rise s) (hs : small20 s) : sl x.testBit 20 = s ↔ x = bitsN s := by
  have hs' : ∀ v, v ∈ s → 0 ≤ v ∧ v < (20 : Nat) := fun v hv => by have := hs v hv; omega
  constructor
  · intro h; rw [← h, bits_sl hx]
  · intro h; rw [h, sl_bits hr hs']
/-- some causes, asked by number -/
def inS (s : List Int) : Nat → Bool := fun i => decide ((i : Int) ∈ s)
theorem bits_inS {l : List GCause} {s : List Int} (hs : ∀ v, v ∈ s → 0 ≤ v) (k : Nat) : sgN l (bitsN s).testBit k = sgN l (inS s) k := sgN_congr fun i _ => bitsN_test hs i
open Classical in
noncomputable def signsR (m : Int) (l : List GCause) (s : List Int) : List Int × Int :=
  if code22 m l s [] = 0 then (sl (sgN l (inS s) l.length).testBit 20, 0) else ([], code22 m l s [])
theorem SignsOf_eq {m : Int} {l : List GCause} {s : List Int} (hl : l.length ≤ 1048576) (hs : ∀ x, x ∈ l → smallC x) (h1 : s.length ≤ 1048576) : impl_SignsOf m l s = some (signsR m l s) := by
  unfold impl_SignsOf signsR
  rw [causesCode_eq hl hs h1 (by simp), Option.bind_some]
  by_cases h : code22 m l s [] = 0
  · obtain ⟨hv, h2, _⟩ := code22_zero h
    rw [if_pos h, if_pos h, signsOf_eq (hv.few hs) (fun v hv => by have := h2.rng hv; omega) h1 (c := inS s) (fun i _ => by simp [inS])]; rfl
  · rw [if_neg h, if_neg h]
open Classical in
theorem SignsOf_spec {m : Int} {l : List GCause} {s : List Int} (hl : l.length ≤ 1048576) (hs : ∀ x, x ∈ l → smallC x) (h1 : s.length ≤ 1048576) : spec_SignsOf m l s = some (signsR m l s) := by
  unfold spec_SignsOf signsR code22
  rw [l22Ok_eq hl hs, Option.bind_some]
  by_cases hv : vcs m l
  · have hf := hv.few hs
    have h10 := hv.2.1
    rw [decide_eq_true hv, if_pos rfl, w64_id (by omega) (by omega), l00Rises_eq h1, Option.bind_some]
    by_cases h2 : rises s 0 (l.length - 1)
    · have hsm : small20 s := h2.small (by omega)
      simp only [hv, h2, rises_nil, and_self, if_true, decide_true]
      rw [l22Bits_eq hsm h1, Option.bind_some, l22Signs_eq hf (bitsN_lt hsm), Option.bind_some, bits_inS (fun v hv => (hsm v hv).1), l22List_eq (sgN_lt hf _ (Nat.le_refl _))]; rfl
    · simp only [hv, h2, false_and, if_true, if_false, decide_false]; rfl
  · simp only [hv, if_false, decide_false]; rfl
open Classical in
noncomputable def explR (m : Int) (l : List GCause) (s seen : List Int) : Bool × Int :=
  if code22 m l s seen = 0 then (decide (sgN l (inS s) l.length = bitsN seen), 0) else (false, code22 m l s seen)
theorem ExplainsSigns_eq {m : Int} {l : List GCause} {s seen : List Int} (hl : l.length ≤ 1048576) (hs : ∀ x, x ∈ l → smallC x) (h1 : s.length ≤ 1048576) (h2 : seen.length ≤ 1048576) : impl_ExplainsSigns m l s seen = some (explR m l s seen) := by
  unfold impl_ExplainsSigns explR
  rw [causesCode_eq hl hs h1 h2, Option.bind_some]
  by_cases h : code22 m l s seen = 0
  · obtain ⟨hv, h2, h3⟩ := code22_zero h
    have hf := hv.few hs
    have hm := hv.1
    rw [if_pos h, if_pos h, signsOf_eq hf (fun v hv => by have := h2.rng hv; omega) h1 (c := inS s) (fun i _ => by simp [inS]), Option.bind_some, EqualL (by have := sl_len (sgN l (inS s) l.length).testBit 20; omega), Option.bind_some]
    refine congrArg some (Prod.ext ?_ rfl)
    exact decide_eq_decide.2 (sl_eq_iff (sgN_lt hf _ (Nat.le_refl _)) h3.rise (h3.small (by omega)))
  · rw [if_neg h, if_neg h]
open Classical in
theorem ExplainsSigns_spec {m : Int} {l : List GCause} {s seen : List Int} (hl : l.length ≤ 1048576) (hs : ∀ x, x ∈ l → smallC x) (h1 : s.length ≤ 1048576) (h2 : seen.length ≤ 1048576) : spec_ExplainsSigns m l s seen = some (explR m l s seen) := by
  unfold spec_ExplainsSigns explR code22
  rw [l22Ok_eq hl hs, Option.bind_some]
  by_cases hv : vcs m l
  · have hf := hv.few hs
    have hm := hv.1
    have h10 := hv.2.1
    rw [decide_eq_true hv, if_pos rfl, w64_id (by omega) (by omega), l00Rises_eq h1, Option.bind_some, w64_id (by omega) (by omega), l00Rises_eq h2]
    by_cases h3 : rises s 0 (l.length - 1)
    · by_cases h4 : rises seen 0 (m - 1)
      · have hsm : small20 s := h3.small (by omega)
        have hsm2 : small20 seen := h4.small (by omega)
        simp only [hv, h3, h4, and_self, if_true, decide_true, Option.bind_some, Bool.not_true, Bool.false_eq_true, if_false]
        rw [l22Bits_eq hsm h1, Option.bind_some, l22Signs_eq hf (bitsN_lt hsm), Option.bind_some, bits_inS (fun v hv => (hsm v hv).1), l22Bits_eq hsm2 h2, Option.bind_some]
        refine congrArg some (Prod.ext ?_ rfl)
        exact decide_eq_decide.2 (by omega)
      · simp only [hv, h3, h4, and_false, if_true, if_false, decide_true, decide_false, Option.bind_some, Bool.not_false]; rfl
    · simp only [hv, h3, false_and, if_true, if_false, decide_false, Option.bind_some, Bool.false_eq_true]; rfl
  · simp only [hv, if_false, decide_false]; rfl
/-- cause i has only signs that are seen -/
def poss (l : List GCause) (seen : List Int) : Nat → Bool := fun i => (sg l i).all fun s => decide (s ∈ seen)
open Classical in
noncomputable def possR (m : Int) (l : List GCause) (seen : List Int) : List Int × Int :=
  if code22 m l [] seen = 0 then (sl (poss l seen) l.length, 0) else ([], code22 m l [] seen)
theorem ContainsL {a : List Int} {v : Int} (ha : a.length ≤ 1048576) : slices_Contains_int64_int64_808 a v = some (decide (v ∈ a)) := by
  have e : slices_Contains_int64_int64_808 a v = some (a.any fun x => decide (v = x)) := by
    unfold slices_Contains_int64_int64_808 slices_Index_int64_int64_831
    refine contS (f := fun x => some (decide (v = x))) (fun x => decide (v = x)) a (fun x _ => rfl) (by omega) (fun i => ?_)
    split
    · congr 1; funext x; simp only [Option.bind_some, decide_eq_true_eq]
    · rfl
  rw [e]
  congr 1
  rw [Bool.eq_iff_iff, List.any_eq_true, decide_eq_true_eq]
  constructor
  · rintro ⟨x, hx, he⟩; rw [of_decide_eq_true he]; exact hx
  · intro h; exact ⟨v, h, decide_eq_true rfl⟩
theorem PossibleCauses_eq {m : Int} {l : List GCause} {seen : List Int} (hl : l.length ≤ 1048576) (hs : ∀ x, x ∈ l → smallC x) (h2 : seen.length ≤ 1048576) : impl_PossibleCauses m l seen = some (possR m l seen) := by
  unfold impl_PossibleCauses possR
  rw [causesCode_eq hl hs (by simp) h2, Option.bind_some]
  by_cases h : code22 m l [] seen = 0
  · obtain ⟨hv, _, h3⟩ := code22_zero h
    have h10 := hv.2.1
    rw [if_pos h, if_pos h]
    refine eq_of_wp ?_
    refine wp_cnt (fun k => (sl (poss l seen) k, (k : Int))) l.length rfl (by omega) (fun k hk => ?_) (b := sl (poss l seen) l.length) ?_ (wp_some rfl)
    · have hsm := hs _ (List.getElem_mem hk)
      have hlen := sl_len (poss l seen) k
      have hc : slices_ContainsFunc_int64_int64_796 l[k].Signs (fun a0 => impl_PossibleCauses_1 a0 seen) = some (l[k].Signs.any fun s => !decide (s ∈ seen)) := by
        unfold slices_ContainsFunc_int64_int64_796 slices_IndexFunc_int64_int64_818
        exact contS (fun s => !decide (s ∈ seen)) l[k].Signs (fun x _ => by show (slices_Contains_int64_int64_808 seen x).bind _ = _; rw [ContainsL h2]; rfl) (by have := hsm.2; omega) (fun _ => rfl)
      have hp : (l[k].Signs.any fun s => !decide (s ∈ seen)) = !(poss l seen k) := by
        unfold poss; rw [sg_get hk, List.not_all_eq_any_not]
      simp only
      rw [if_pos (by omega), at_of hk, Option.bind_some, hc, Option.bind_some, hp, w64_id (by omega) (by omega), app_ok (by simp; omega)]
      by_cases hb : poss l seen k = true
      · rw [hb]; simp only [sl, hb, if_true]; rfl
      · rw [Bool.eq_false_iff.2 hb]; simp only [sl, Bool.eq_false_iff.2 hb]; rfl
    · simp only; rw [if_neg (by omega)]
  · rw [if_neg h, if_neg h]
theorem PossibleCauses_spec {m : Int} {l : List GCause} {seen : List Int} (hl : l.length ≤ 1048576) (hs : ∀ x, x ∈ l → smallC x) (h2 : seen.length ≤ 1048576) : spec_PossibleCauses m l seen = some (possR m l seen) := by
  unfold spec_PossibleCauses possR
  rw [l22Code_eq hl hs h2, Option.bind_some]
  by_cases h : code22 m l [] seen = 0
  · obtain ⟨hv, _, h3⟩ := code22_zero h
    have h10 := hv.2.1
    have hm := hv.1
    have hf := hv.few hs
    have hsm2 : small20 seen := h3.small (by omega)
    rw [if_pos h, if_pos h]
    refine eq_of_wp ?_
    refine wp_cnt (fun k => (sl (poss l seen) k, (k : Int))) l.length rfl (by omega) (fun k hk => ?_) (b := sl (poss l seen) l.length) ?_ (wp_some rfl)
    · have hsm := hs _ (List.getElem_mem hk)
      have hlen := sl_len (poss l seen) k
      have hk20 := hf.2.1 _ (List.getElem_mem hk)
      have hp : bit_andNot .i64 ((bitsN l[k].Signs : Nat) : Int) ((bitsN seen : Nat) : Int) = 0 ↔ poss l seen k = true := by
        rw [bandNot_zero (Nat.lt_of_lt_of_le (bitsN_lt hk20) (Nat.pow_le_pow_right (by omega) (by omega))) (Nat.lt_of_lt_of_le (bitsN_lt hsm2) (Nat.pow_le_pow_right (by omega) (by omega)))]
        unfold poss
        rw [sg_get hk, List.all_eq_true]
        constructor
        · intro hh x hx
          have := hk20 x hx
          have h5 := hh x.toNat
          rw [bitsN_test (fun v hv => (hk20 v hv).1), bitsN_test (fun v hv => (hsm2 v hv).1), show ((x.toNat : Nat) : Int) = x by omega, decide_eq_true_eq] at h5
          exact h5 hx
        · intro hh i hi
          rw [bitsN_test (fun v hv => (hk20 v hv).1), decide_eq_true_eq] at hi
          rw [bitsN_test (fun v hv => (hsm2 v hv).1)]
          exact hh _ hi
      simp only
      rw [if_pos (by omega), at_of hk, Option.bind_some, l22Bits_eq hk20 hsm.2, Option.bind_some, l22Bits_eq hsm2 h2, Option.bind_some, w64_id (by omega) (by omega), app_ok (by simp; omega)]
      by_cases hb : poss l seen k = true
      · rw [if_pos (hp.2 hb)]; simp only [sl, hb, if_true]; rfl
      · rw [if_neg (fun hh => hb (hp.1 hh))]; simp only [sl, hb, if_false]; rfl
    · simp only; rw [if_neg (by omega)]
  · rw [if_neg h, if_neg h]
/-- the sets of causes that explain the signs -/
def expl (l : List GCause) (seen : List Int) : List Nat := (List.range (2 ^ l.length)).filter fun b => decide (sgN l b.testBit l.length = bitsN seen)
theorem expl_len (l : List GCause) (seen : List Int) (h : l.length ≤ 10) : (expl l seen).length ≤ 1024 := by
  have h1 : (2 : Nat) ^ l.length ≤ 2 ^ 10 := Nat.pow_le_pow_right (by omega) h
  have h2 : (expl l seen).length ≤ (List.range (2 ^ l.length)).length := List.length_filter_le _ _
  rw [List.length_range] at h2
  omega
theorem mem_expl {l : List GCause} {seen : List Int} {b : Nat} : b ∈ expl l seen ↔ b < 2 ^ l.length ∧ sgN l b.testBit l.length = bitsN seen := by
  unfold expl; rw [List.mem_filter, List.mem_range, decide_eq_true_eq]
theorem explanations_eq {l : List GCause} {seen : List Int} (hf : few20 l) (hr : Rise seen) (hs : small20 seen) (h2 : seen.length ≤ 1048576) : impl_explanations l seen = some ((expl l seen).map (ixs l.length)) := by
  have h10 := hf.1
  have h1 : (2 : Nat) ^ l.length ≤ 2 ^ 10 := Nat.pow_le_pow_right (by omega) h10
  have h3 : (2 : Nat) ^ 10 = 1024 := by decide
  rw [h3] at h1
  unfold impl_explanations
  rw [shl_one (by omega), Option.bind_some]
  refine eq_of_wp ?_
  generalize hN : 2 ^ l.length = N at h1
  refine wp_cnt (fun k => (flt (fun b => decide (sgN l b.testBit l.length = bitsN seen)) (ixs l.length) k, (k : Int))) N rfl (by omega) (fun k hk => ?_) (b := (expl l seen).map (ixs l.length)) ?_ (wp_some rfl)
  · have hlen := flt_len (fun b => decide (sgN l b.testBit l.length = bitsN seen)) (ixs l.length) k
    have hlt := sgN_lt hf k.testBit (Nat.le_refl _)
    simp only
    rw [if_pos (by omega), indicesOf_eq (n := l.length) (by omega) (by omega), Option.bind_some, signsOf_eq hf (fun v hv => ix_rng v hv) (by have := ix_len l.length k; omega) (c := k.testBit) (fun i hi => by
      rw [mem_sl]
      constructor
      · intro h; exact ⟨i, rfl, hi, h⟩
      · rintro ⟨j, hj, _, h⟩; rwa [show i = j by omega]), Option.bind_some, EqualL (by have := sl_len (sgN l k.testBit l.length).testBit 20; omega), Option.bind_some, w64_id (by omega) (by omega), app_ok (by simp; omega), flt_succ]
    by_cases hb : sgN l k.testBit l.length = bitsN seen
    · rw [decide_eq_true ((sl_eq_iff hlt hr hs).2 hb)]; simp only [hb, decide_true, if_true]; rfl
    · rw [decide_eq_false (fun h => hb ((sl_eq_iff hlt hr hs).1 h))]; simp [hb]
  · simp only; rw [if_neg (by omega), ← hN]; rfl
theorem l22All_eq {l : List GCause} {seen : List Int} (hf : few20 l) (hs : small20 seen) (h2 : seen.length ≤ 1048576) : spec_l22All l seen = some ((expl l seen).map fun b => ((b : Nat) : Int)) := by
  have h10 := hf.1
  have h1 : (2 : Nat) ^ l.length ≤ 2 ^ 10 := Nat.pow_le_pow_right (by omega) h10
  have h3 : (2 : Nat) ^ 10 = 1024 := by decide
  have h4 : (2 : Nat) ^ 20 = 1048576 := by decide
  rw [h3] at h1
  unfold spec_l22All
  rw [l22Bits_eq hs h2, Option.bind_some]
  refine eq_of_wp ?_
  rw [show shl? .i64 1 (IntKind.wrap .u64 (l.length : Int)) = some ((2 ^ l.length : Nat) : Int) from shl_one (by omega)]
  simp only [Option.bind_some]
  generalize hN : 2 ^ l.length = N at h1
  refine wp_cnt (fun k => (flt (fun b => decide (sgN l b.testBit l.length = bitsN seen)) (fun b => ((b : Nat) : Int)) k, (k : Int))) N rfl (by omega) (fun k hk => ?_) (b := (expl l seen).map fun b => ((b : Nat) : Int)) ?_ (wp_some rfl)
  · have hlen := flt_len (fun b => decide (sgN l b.testBit l.length = bitsN seen)) (fun b => ((b : Nat) : Int)) k
    simp only
    rw [if_pos (by omega), l22Signs_eq hf (by omega), Option.bind_some, w64_id (by omega) (by omega), app_ok (by simp; omega), flt_succ]
    by_cases hb : sgN l k.testBit l.length = bitsN seen
    · rw [if_pos (by omega)]; simp only [hb, decide_true, if_true]; rfl
    · rw [if_neg (by omega)]; simp [hb]
  · simp only; rw [if_neg (by omega), ← hN]; rfl
open Classical in
noncomputable def countR (m : Int) (l : List GCause) (seen : List Int) : Int × Int :=
  if code22 m l [] seen = 0 then (((expl l seen).length : Int), 0) else (0, code22 m l [] seen)
theorem CountExplanations_eq {m : Int} {l : List GCause} {seen : List Int} (hl : l.length ≤ 1048576) (hs : ∀ x, x ∈ l → smallC x) (h2 : seen.length ≤ 1048576) : impl_CountExplanations m l seen = some (countR m l seen) := by
  unfold impl_CountExplanations countR
  rw [causesCode_eq hl hs (by simp) h2, Option.bind_some]
  by_cases h : code22 m l [] seen = 0
  · obtain ⟨hv, _, h3⟩ := code22_zero h
    have hm := hv.1
    rw [if_pos h, if_pos h, explanations_eq (hv.few hs) h3.rise (h3.small (by omega)) h2, Option.bind_some, List.length_map]
  · rw [if_neg h, if_neg h]
theorem CountExplanations_spec {m : Int} {l : List GCause} {seen : List Int} (hl : l.length ≤ 1048576) (hs : ∀ x, x ∈ l → smallC x) (h2 : seen.length ≤ 1048576) : spec_CountExplanations m l seen = some (countR m l seen) := by
  unfold spec_CountExplanations countR
  rw [l22Code_eq hl hs h2, Option.bind_some]
  by_cases h : code22 m l [] seen = 0
  · obtain ⟨hv, _, h3⟩ := code22_zero h
    have hm := hv.1
    rw [if_pos h, if_pos h, l22All_eq (hv.few hs) (h3.small (by omega)) h2, Option.bind_some, List.length_map]
  · rw [if_neg h, if_neg h]
end Go.Vs.G
