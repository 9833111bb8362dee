/- FnCues. No conditions. -/
import Derived.Test.YtolinhiimdajhaaHCues
import Derived.Test.YtolinhiimdajhaaHBurnsC
namespace Go.Vs.G
open Go Go.Vs
theorem cq_append {l : List GCue} {c : GCue} {i : Nat} : cq (l ++ [c]) i = if i = l.length then c else cq l i := by
  unfold cq
  rw [List.getD_eq_getElem?_getD, List.getD_eq_getElem?_getD, List.getElem?_append]
  by_cases h : i < l.length
  · rw [if_pos h, if_neg (by omega)]
  · rw [if_neg h]
    by_cases h2 : i = l.length
    · rw [if_pos h2, h2, Nat.sub_self]; rfl
    · rw [if_neg h2, List.getElem?_eq_none (by simp; omega), List.getElem?_eq_none (by omega)]
theorem A2Cues_ok {code : List Int} (hc : okL (okI .u8) code) (hl : code.length ≤ 1000000) : wp (spec_A2Cues code) (fun l => dcues l ∧ ∀ i, i < l.length → (cq l i).At ≤ 19) := by
  unfold spec_A2Cues
  refine wp_from hc hl fun s hs => wp_seq (P := fun r => dcues r.1 ∧ ∀ i, i < r.1.length → (cq r.1 i).At ≤ 19) ?_ fun r hr => wp_some hr
  unfold spec_l17Draw
  refine wp_pick hs (by omega) fun n s1 n0 n1 h1 => ?_
  simp only
  refine wp_loop (fun q : GL00Src × List GCue × Int => SrcOk (2 + 10 * (n - q.2.2)) q.1 ∧ 0 ≤ q.2.2 ∧ q.2.2 ≤ n ∧ (q.2.1.length : Int) = n - q.2.2 ∧ ∀ i, i < q.2.1.length → dcue (cq q.2.1 i) ∧ (cq q.2.1 i).At ≤ 19) (fun q => q.2.2.toNat) ⟨h1.mono (by simp only; omega), n0, by simp only; omega, by simp, by simp⟩ (by simp only; omega) ?_
  rintro ⟨s, out, k⟩ ⟨h2, h3, h4, h5, h6⟩
  simp only at h2 h3 h4 h5 h6 ⊢
  refine wp_ite (fun h => ?_) (fun h => ?_)
  · refine wp_pick h2 (by omega) fun a s2 a0 a1 k1 => wp_pick k1 (by omega) fun b s3 b0 b1 k2 => wp_pick k2 (by omega) fun c s4 c0 c1 k3 => wp_pick k3 (by omega) fun d s5 d0 d1 k4 => wp_app (by simp; omega) ?_
    rw [w64_id (n := 1 + b) (by omega) (by omega), w64_id (n := 1 + c) (by omega) (by omega), w64_id (by omega) (by omega)]
    refine wp_some ⟨⟨k4.mono (by simp only; omega), by simp only; omega, by simp only; omega, by simp; omega, fun i hi => ?_⟩, by simp only; omega⟩
    simp only [List.length_append, List.length_singleton] at hi
    simp only
    rw [cq_append]
    by_cases h7 : i = out.length
    · rw [if_pos h7]; unfold dcue; simp only; omega
    · rw [if_neg h7]; exact h6 i (by omega)
  · exact wp_some (wp_some ⟨⟨by simp only; omega, fun i hi => (h6 i hi).1⟩, fun i hi => (h6 i hi).2⟩)
theorem A2Shifts_ok {code : List Int} (hc : okL (okI .u8) code) (hl : code.length ≤ 1000000) {l : List GCue} (h : dcues l) : wp (spec_A2Shifts code l) (fun r => r.length = l.length ∧ ∀ i, i < l.length → 0 ≤ r.getD i 0 ∧ r.getD i 0 ≤ (cq l i).Slack) := by
  have hlen := h.1
  unfold spec_A2Shifts
  refine wp_from hc hl fun s hs => ?_
  refine wp_loop (fun q : GL00Src × List Int × Int => ∃ k : Nat, q.2.2 = (k : Int) ∧ k ≤ l.length ∧ SrcOk (2 * k) q.1 ∧ q.2.1.length = k ∧ ∀ i, i < k → 0 ≤ q.2.1.getD i 0 ∧ q.2.1.getD i 0 ≤ (cq l i).Slack) (fun q => (l.length - q.2.2).toNat) ⟨0, rfl, by omega, hs.mono (by simp), rfl, by simp⟩ (by simp; omega) ?_
  rintro ⟨s, out, i⟩ ⟨k, rfl, hk, h2, h3, h4⟩
  simp only at hk h2 h3 h4 ⊢
  refine wp_ite (fun hlt => ?_) (fun hlt => ?_)
  · have hk2 : k < l.length := by omega
    have hck := (h.2 k hk2).2.2.2
    rw [at_cq hk2, Option.bind_some, w64_id (n := (cq l k).Slack + 1) (by omega) (by omega)]
    refine wp_pick h2 (by omega) fun v s' v0 v1 h5 => wp_app (by simp; omega) ?_
    rw [w64_id (by omega) (by omega)]
    refine wp_some ⟨⟨k + 1, rfl, by omega, h5.mono (by omega), by simp [h3], fun i hi => ?_⟩, by simp only; omega⟩
    simp only
    rw [List.getD_eq_getElem?_getD, List.getElem?_append]
    by_cases h6 : i < k
    · rw [if_pos (by omega), ← List.getD_eq_getElem?_getD]; exact h4 i h6
    · obtain rfl : i = k := by omega
      rw [if_neg (by omega), show i - out.length = 0 by omega]
      simp only [List.getElem?_cons_zero, Option.getD_some]
      omega
  · obtain rfl : k = l.length := by omega
    exact wp_some (wp_some ⟨h3, h4⟩)
/-- a cue that is shifted -/
def shc (c : GCue) (b : Int) : GCue := GCue.mk (c.At + b) c.Ticks c.Hands (c.Slack - b)
theorem ShiftCues_eq {l : List GCue} (h : dcues l) (ha : ∀ i, i < l.length → (cq l i).At ≤ 19) {r : List Int} (hr : r.length = l.length) (hb : ∀ i, i < l.length → 0 ≤ r.getD i 0 ∧ r.getD i 0 ≤ (cq l i).Slack) :
    impl_ShiftCues l r = some (tab (fun i => shc (cq l i) (r.getD i 0)) l.length, 0) := by
  have hlen := h.1
  have hat : ∀ i, i < l.length → at? r (i : Int) = some (r.getD i 0) := fun i hi => by rw [at_of (by omega), List.getD_eq_getElem?_getD, List.getElem?_eq_getElem (by omega)]; rfl
  unfold impl_ShiftCues
  rw [ValidCues_true h, Option.bind_some, if_pos rfl, if_pos (by omega)]
  refine eq_of_wp ?_
  refine wp_cnt (fun k : Nat => (k : Int)) l.length rfl (by omega) (fun k hk => ?_) (b := ()) ?_ ?_
  · have := hb k hk
    rw [if_pos (by omega), hat k hk, Option.bind_some, at_cq hk, Option.bind_some, show impl_within (r.getD k 0) 0 (cq l k).Slack = some true by unfold impl_within; rw [if_pos (by omega), decide_eq_true (by omega)], Option.bind_some, if_pos rfl, w64_id (by omega) (by omega)]
    rfl
  · rw [if_neg (by omega)]
  · have hsh : impl_shiftCues l r = some (tab (fun i => shc (cq l i) (r.getD i 0)) l.length) := by
      unfold impl_shiftCues cloneL
      rw [if_pos (by omega), Option.bind_some]
      refine eq_of_wp ?_
      have hl0 : l = tab (fun i => cq l i) l.length := by unfold cq; exact eq_tab l default
      refine wp_cnt (fun k => (tab (fun i => if i < k then shc (cq l i) (r.getD i 0) else cq l i) l.length, (k : Int))) l.length ?_ (by omega) (fun k hk => ?_) (b := tab (fun i => shc (cq l i) (r.getD i 0)) l.length) ?_ (wp_some rfl)
      · refine Prod.ext ?_ rfl
        conv => lhs; rw [hl0]
        exact tab_congr fun i _ => by simp
      · have c1 := h.2 k hk
        have c2 := hb k hk
        have c3 := ha k hk
        obtain ⟨d1, d2, d3, d4⟩ := c1
        simp only
        rw [if_pos (by omega), hat k hk, Option.bind_some, tab_at (by omega) (by omega), Option.bind_some, Option.bind_some, Int.toNat_natCast, if_neg (by omega), tab_set, tab_at (by omega) (by omega), Option.bind_some, Option.bind_some, Int.toNat_natCast, if_pos rfl, tab_set, w64_id (n := (k : Int) + 1) (by omega) (by omega), w64_id (n := (cq l k).At + _) (by omega) (by omega)]
        simp only
        rw [w64_id (n := (cq l k).Slack - _) (by omega) (by omega)]
        refine congrArg some (congrArg Step.next (Prod.ext ?_ rfl))
        refine tab_congr fun i hi => ?_
        by_cases h1 : i = k
        · subst h1; rw [if_pos rfl, if_pos (by omega)]; rfl
        · rw [if_neg h1, if_neg h1]
          by_cases h2 : i < k
          · rw [if_pos h2, if_pos (by omega)]
          · rw [if_neg h2, if_neg (by omega)]
      · simp only
        rw [if_neg (by omega)]
        exact congrArg some (congrArg Step.brk (tab_congr fun i hi => by rw [if_pos hi]))
    rw [hsh, Option.bind_some]
    have hd : dcues (tab (fun i => shc (cq l i) (r.getD i 0)) l.length) := by
      refine ⟨by simpa using hlen, fun i hi => ?_⟩
      have hi2 : i < l.length := by simpa using hi
      have c1 := h.2 i hi2
      have c2 := hb i hi2
      have c3 := ha i hi2
      obtain ⟨d1, d2, d3, d4⟩ := c1
      unfold cq
      rw [List.getD_eq_getElem?_getD, tab_get hi2]
      unfold cq at d1 d2 d3 d4 c2 c3
      simp only [Option.getD_some, shc, dcue, cq]
      omega
    rw [ValidCues_true hd, Option.bind_some, if_pos rfl]
    exact wp_some rfl
theorem laws_FnCues_true {code more : List Int} (hc : okL (okI .u8) code) (hm : okL (okI .u8) more) : laws_FnCues code more = some true := by
  unfold laws_FnCues
  obtain ⟨r, hr, hr2⟩ := a2Long_eq code more
  rw [hr, Option.bind_some]
  cases r with
  | true => rfl
  | false =>
  obtain ⟨hc2, hm2⟩ := hr2 rfl
  simp only [Bool.false_eq_true, if_false]
  obtain ⟨l, hl, hd, ha⟩ := A2Cues_ok hc (by omega)
  have h6 := hd.1
  have hE := Ecu_bd hd
  rw [hl, Option.bind_some]
  obtain ⟨m, hmm, m0, m1⟩ := a2At_ok hm hm2 (i := 0) (n := 5) (by omega) (by omega)
  rw [hmm, Option.bind_some]
  have e1 : impl_EndOfCues l = some (Ecu l, 0) := by unfold impl_EndOfCues; rw [ValidCues_true hd, Option.bind_some, if_pos rfl, endOfCues_eq hd]; rfl
  have e2 : impl_MostHands l = some (mx (fun i => H l (cq l i).At) l.length, 0) := by unfold impl_MostHands; rw [ValidCues_true hd, Option.bind_some, if_pos rfl, mostHands_eq hd]; rfl
  rw [e1, Option.bind_some, e2, Option.bind_some, FirstOverload_eq hd m0 (by omega), Option.bind_some, IdleCues_eq hd, Option.bind_some]
  simp only [if_true]
  rw [if_neg (by omega), if_neg (by omega)]
  simp only [if_true, decide_true, Bool.not_true, Option.bind_some, Bool.false_eq_true, if_false]
  refine eq_of_wp ?_
  refine wp_cnt (fun k => (mx (fun t => H l (t : Int)) k, ((ones (fun t => idl l t && decide ((t : Int) < Ecu l)) k : Nat) : Int), encF (ff (over l m) k), (k : Int))) ((Ecu l).toNat + 1) rfl (by omega) (fun k hk => ?_) (b := (mx (fun t => H l (t : Int)) ((Ecu l).toNat + 1), ((ones (fun t => idl l t && decide ((t : Int) < Ecu l)) ((Ecu l).toNat + 1) : Nat) : Int), encF (ff (over l m) ((Ecu l).toNat + 1)))) ?_ ?_
  · have hH := hnd_bd hd (k : Int) l.length (Nat.le_refl _)
    have ho := ones_le (fun t => idl l t && decide ((t : Int) < Ecu l)) k
    have hHa : impl_HandsAt l (k : Int) = some (H l (k : Int), 0) := by
      unfold impl_HandsAt
      rw [ValidCues_true hd, Option.bind_some, if_pos rfl, show impl_within (k : Int) 0 20000 = some true by unfold impl_within; rw [if_pos (by omega), decide_eq_true (by omega)], Option.bind_some, if_pos rfl, handsAt_eq hd]; rfl
    simp only
    rw [if_pos (by omega), hHa, Option.bind_some]
    refine eq_of_wp ?_
    refine wp_cnt (fun i => (hnd l (k : Int) i, (i : Int))) l.length rfl (by omega) (fun i hi => ?_) (b := H l (k : Int)) ?_ ?_
    · have hb := hnd_bd hd (k : Int) i (by omega)
      obtain ⟨c1, c2, c3, c4⟩ := hd.2 i hi
      simp only
      rw [if_pos (by omega), at_cq hi]
      simp only [Option.bind_some]
      rw [w64_id (n := (i : Int) + 1) (by omega) (by omega), w64_id (n := (cq l i).At + (cq l i).Ticks) (by omega) (by omega), w64_id (by omega) (by omega)]
      have e : (if (k : Int) ≥ (cq l i).At then (some (decide ((k : Int) < (cq l i).At + (cq l i).Ticks))) else some false : Option Bool) = some (act (cq l i) (k : Int)) := by
        unfold act
        by_cases h1 : (cq l i).At ≤ (k : Int)
        · rw [if_pos h1]; exact congrArg some (decide_eq_decide.2 (by omega))
        · rw [if_neg h1, decide_eq_false (fun h => h1 h.1)]
      rw [e, Option.bind_some, hnd]
      split
      · rfl
      · rw [Int.add_zero]; rfl
    · simp only; rw [if_neg (by omega)]
    · -- the round's tests
      have hx3 : (if (0 : Int) = 0 then
 (if H l (k : Int) = H l (k : Int) then
 (if (k : Int) = Ecu l then
 (if H l (k : Int) = 0 then
 (if (k : Int) = (w64 (Ecu l - 1)) then
 (some (decide (H l (k : Int) = 0)))
 else
 some false)
 else
 some true)
 else
 if (k : Int) = (w64 (Ecu l - 1)) then
 (some (decide (H l (k : Int) = 0)))
 else
 some false)
 else
 some true)
 else
 some true : Option Bool) = some false := by
        rw [if_pos rfl, if_pos rfl, w64_id (by omega) (by omega)]
        by_cases h1 : (k : Int) = Ecu l
        · rw [if_pos h1, h1, if_pos (H_end hd), if_neg (by omega)]
        · rw [if_neg h1]
          by_cases h2 : (k : Int) = Ecu l - 1
          · have := H_last hd (by omega)
            rw [if_pos h2, h2, decide_eq_false (by omega)]
          · rw [if_neg h2]
      refine (congrArg (fun o => wp (Option.bind o _) _) hx3).mpr ?_
      rw [Option.bind_some]
      simp only [Bool.false_eq_true, if_false]
      have hx4 : (if H l (k : Int) = 0 then (some (decide ((k : Int) < Ecu l))) else some false : Option Bool) = some (idl l k && decide ((k : Int) < Ecu l)) := by
        unfold idl
        by_cases h1 : H l (k : Int) = 0
        · rw [if_pos h1, decide_eq_true h1]; rfl
        · rw [if_neg h1, decide_eq_false h1]; rfl
      rw [hx4, Option.bind_some]
      have hx5 : (if (idl l k && decide ((k : Int) < Ecu l)) = true then (some (w64 (((ones (fun t => idl l t && decide ((t : Int) < Ecu l)) k : Nat) : Int) + 1))) else some ((ones (fun t => idl l t && decide ((t : Int) < Ecu l)) k : Nat) : Int) : Option Int) = some ((ones (fun t => idl l t && decide ((t : Int) < Ecu l)) (k + 1) : Nat) : Int) := by
        rw [ones, w64_id (by omega) (by omega)]
        split <;> rfl
      rw [hx5, Option.bind_some]
      have hx6 : (if H l (k : Int) > m then (some (decide (encF (ff (over l m) k) < 0))) else some false : Option Bool) = some (over l m k && decide (ff (over l m) k = none)) := by
        unfold over
        by_cases h4 : H l (k : Int) > m
        · rw [if_pos h4, decide_eq_true h4, Bool.true_and]
          cases ff (fun t : Nat => decide (H l (t : Int) > m)) k with
          | none => rfl
          | some i => simp only [encF]; exact congrArg some (decide_eq_decide.2 (by simp))
        · rw [if_neg h4, decide_eq_false h4]; rfl
      rw [hx6, Option.bind_some, imax_def, w64_id (n := (k : Int) + 1) (by omega) (by omega)]
      have hmx : mx (fun t : Nat => H l (t : Int)) (k + 1) = max (mx (fun t : Nat => H l (t : Int)) k) (H l (k : Int)) := rfl
      rw [hmx]
      refine wp_ite (fun h4 => ?_) (fun h4 => ?_)
      · rw [Bool.and_eq_true, decide_eq_true_eq] at h4
        rw [ff, h4.2]; simp only; rw [if_pos h4.1]
        exact wp_some rfl
      · rw [ff]
        cases h5 : ff (over l m) k with
        | some i => exact wp_some rfl
        | none =>
          simp only
          rw [h5] at h4
          rw [if_neg (fun h6 => h4 (by simp [h6]))]
          exact wp_some rfl
  · simp only; rw [if_neg (by omega)]
  · have g1 : mx (fun t : Nat => H l (t : Int)) ((Ecu l).toNat + 1) = mx (fun i => H l (cq l i).At) l.length := by
      have a1 : mx (fun t : Nat => H l (t : Int)) ((Ecu l).toNat + 1) ≤ mx (fun i => H l (cq l i).At) l.length := mx_le (mx_nonneg _ _) fun t _ => H_le hd t
      have a2 : mx (fun i => H l (cq l i).At) l.length ≤ mx (fun t : Nat => H l (t : Int)) ((Ecu l).toNat + 1) := mx_le (mx_nonneg _ _) fun i hi => by
        have b1 := hd.2 i hi
        have b2 := le_mx (f := fun i => (cq l i).At + (cq l i).Ticks) hi
        obtain ⟨d1, d2, _⟩ := b1
        have b3 := le_mx (f := fun t : Nat => H l (t : Int)) (k := (Ecu l).toNat + 1) (i := (cq l i).At.toNat) (by unfold Ecu; omega)
        rwa [show (((cq l i).At.toNat : Nat) : Int) = (cq l i).At by omega] at b3
      omega
    have g2 : ones (fun t => idl l t && decide ((t : Int) < Ecu l)) ((Ecu l).toNat + 1) = ones (idl l) (Ecu l).toNat := by
      rw [ones, if_neg (by simp; omega), Nat.add_zero]
      have : ∀ k, k ≤ (Ecu l).toNat → ones (fun t => idl l t && decide ((t : Int) < Ecu l)) k = ones (idl l) k := by
        intro k
        induction k with
        | zero => intro _; rfl
        | succ k ih => intro hk; rw [ones, ones, ih (by omega), decide_eq_true (by omega), Bool.and_true]
      exact this _ (Nat.le_refl _)
    simp only
    rw [if_pos g1, if_pos (by rw [g2])]
    have hfin : (if encF (ff (over l m) ((Ecu l).toNat + 1)) < 0 then
 (if (overR (ff (over l m) ((Ecu l).toNat + 1))).2 = 3 then
 (if encF (ff (over l m) ((Ecu l).toNat + 1)) ≥ 0 then
 (if (overR (ff (over l m) ((Ecu l).toNat + 1))).2 = 0 then
 (some (!(decide ((overR (ff (over l m) ((Ecu l).toNat + 1))).1 = encF (ff (over l m) ((Ecu l).toNat + 1))))))
 else
 some true)
 else
 some false)
 else
 some true)
 else
 if encF (ff (over l m) ((Ecu l).toNat + 1)) ≥ 0 then
 (if (overR (ff (over l m) ((Ecu l).toNat + 1))).2 = 0 then
 (some (!(decide ((overR (ff (over l m) ((Ecu l).toNat + 1))).1 = encF (ff (over l m) ((Ecu l).toNat + 1))))))
 else
 some true)
 else
 some false : Option Bool) = some false := by
      cases ff (over l m) ((Ecu l).toNat + 1) with
      | none => simp [encF, overR]
      | some t => simp only [encF, overR]; rw [if_neg (by omega), if_pos (by omega)]; simp
    refine (congrArg (fun o => wp (Option.bind o _) _) hfin).mpr ?_
    rw [Option.bind_some]
    simp only [Bool.false_eq_true, if_false]
    obtain ⟨q, hq, q1, q2⟩ := A2Shifts_ok hm (by omega) hd
    rw [hq, Option.bind_some, ShiftCues_eq hd ha q1 q2, Option.bind_some]
    simp only [tab_length, if_true, decide_true, Bool.not_true, Option.bind_some, Bool.false_eq_true, if_false]
    refine wp_cnt (fun k : Nat => (k : Int)) l.length rfl (by omega) (fun k hk => ?_) (b := ()) ?_ (wp_some rfl)
    · obtain ⟨c1, c2, c3, c4⟩ := hd.2 k hk
      have c5 := q2 k hk
      have c6 := ha k hk
      have hat : at? q (k : Int) = some (q.getD k 0) := by rw [at_of (by omega), List.getD_eq_getElem?_getD, List.getElem?_eq_getElem (by omega)]; rfl
      rw [if_pos (by omega), tab_at (by omega) (by omega), at_cq hk, hat]
      simp only [Option.bind_some, Int.toNat_natCast, shc]
      rw [w64_id (n := (cq l k).At + _) (by omega) (by omega), w64_id (n := (cq l k).Slack - _) (by omega) (by omega), w64_id (n := (k : Int) + 1) (by omega) (by omega)]
      simp
    · rw [if_neg (by omega)]
end Go.Vs.G
