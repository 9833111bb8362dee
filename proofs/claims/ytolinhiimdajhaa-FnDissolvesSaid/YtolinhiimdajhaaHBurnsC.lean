/- FnBurning, FnLampRests. No conditions. -/
import Derived.Test.YtolinhiimdajhaaHBurnsB
namespace Go.Vs.G
open Go Go.Vs
theorem A2Lamp_ok {code : List Int} (hc : okL (okI .u8) code) (hl : code.length ≤ 1000000) : wp (spec_A2Lamp code) GLamp.good := by
  unfold spec_A2Lamp
  refine wp_from hc hl fun s hs => wp_seq (P := fun r => r.1.good) ?_ fun r hr => wp_some hr
  unfold spec_l21Draw
  refine wp_pick hs (by omega) fun a s1 a0 a1 h1 => wp_pick h1 (by omega) fun b s2 b0 b1 h2 => wp_pick h2 (by omega) fun c s3 c0 c1 h3 => wp_some ?_
  simp only [GLamp.good]
  rw [w64_id (n := 1 + a) (by omega) (by omega), w64_id (n := 1 + b) (by omega) (by omega), w64_id (n := 1 + c) (by omega) (by omega)]
  omega
theorem b2s_mem {l : List Int} (h : ∀ n, n ∈ l → n = 48 ∨ n = 49) : ∀ c, c ∈ b2s l → c = 48 ∨ c = 49 := fun c hc => by
  unfold b2s at hc
  obtain ⟨n, hn, rfl⟩ := List.mem_map.1 hc
  rcases h n hn with rfl | rfl
  · exact .inl rfl
  · exact .inr rfl
theorem A2Burning_ok {code : List Int} (hc : okL (okI .u8) code) (hl : code.length ≤ 1000000) {t : Int} (h0 : 0 ≤ t) (h1 : t ≤ 60) : wp (spec_A2Burning code t) (fun s => (s.length : Int) = t ∧ brn s) := by
  unfold spec_A2Burning
  refine wp_from hc hl fun s hs => ?_
  refine wp_loop (fun q : GL00Src × List Int × Int => SrcOk (2 * (t - q.2.2)) q.1 ∧ 0 ≤ q.2.2 ∧ q.2.2 ≤ t ∧ (q.2.1.length : Int) = t - q.2.2 ∧ ∀ n, n ∈ q.2.1 → n = 48 ∨ n = 49) (fun q => q.2.2.toNat) ⟨hs.mono (by simp only; omega), h0, by simp only; omega, by simp, by simp⟩ (by simp only; omega) ?_
  rintro ⟨s, out, k⟩ ⟨h2, h3, h4, h5, h6⟩
  simp only at h2 h3 h4 h5 h6 ⊢
  refine wp_ite (fun h => ?_) (fun h => ?_)
  · refine wp_pick h2 (by omega) fun v s' v0 v1 h7 => ?_
    have hv : v.toNat < ([48, 49, 49, 48] : List UInt8).length := by simp; omega
    simp only
    rw [at_ok v0 hv, Option.bind_some]
    have hm : ∀ c, c ∈ ([48, 49, 49, 48] : List UInt8) → (c.toNat : Int) = 48 ∨ (c.toNat : Int) = 49 := by decide
    have hcv := hm _ (List.getElem_mem hv)
    generalize ([48, 49, 49, 48] : List UInt8)[v.toNat] = c at hcv
    refine wp_app (by simp; omega) ?_
    rw [w64_id (by omega) (by omega)]
    refine wp_some ⟨⟨h7.mono (by simp only; omega), by simp only; omega, by simp only; omega, by simp; omega, fun n hn => ?_⟩, by simp only; omega⟩
    simp only [List.mem_append, List.mem_singleton] at hn
    rcases hn with hn | rfl
    · exact h6 n hn
    · exact hcv
  · have hlen : (b2s out).length = out.length := by simp [b2s]
    exact wp_some (wp_some ⟨by rw [hlen]; omega, by rw [hlen]; omega, b2s_mem h6⟩)
theorem a2Ones_eq {s : List UInt8} (hs : s.length ≤ 1048576) : laws_a2Ones s = some ((ones (bat s) s.length : Nat) : Int) := by
  unfold laws_a2Ones
  refine eq_of_wp ?_
  refine wp_cnt (fun k => (((ones (bat s) k : Nat) : Int), (k : Int))) s.length (by simp [ones]) (by omega) (fun k hk => ?_) (b := ((ones (bat s) s.length : Nat) : Int)) ?_ (wp_some rfl)
  · have := ones_le (bat s) k
    simp only
    rw [if_pos (by omega), at_of hk, Option.bind_some, w64_id (n := (k : Int) + 1) (by omega) (by omega), w64_id (by omega) (by omega), ones, bat_get hk]
    by_cases hc : s[k] = 49
    · rw [if_pos ((u49 _).2 hc), if_pos (decide_eq_true hc)]; rfl
    · rw [if_neg (fun h => hc ((u49 _).1 h)), if_neg (by simpa using hc)]; rfl
  · simp only; rw [if_neg (by omega)]
theorem cnt49 (s : List UInt8) : (ones (bat s) s.length) = s.count 49 := by
  have := count_ones (s := s) s.length (Nat.le_refl _)
  rw [List.take_length] at this
  exact this.symm
theorem b2s_cons (n : Int) (l : List Int) : b2s (n :: l) = UInt8.ofNat n.toNat :: b2s l := rfl
theorem nx_t (x : GLamp) (h : Int) : nx x h true = h + x.Heats := rfl
theorem nx_f (x : GLamp) (h : Int) : nx x h false = max (h - x.Cools) 0 := rfl
theorem path_ok {x : GLamp} (hx : x.good) : ∀ (k : Nat) (h : Int), 0 ≤ h → h ≤ x.Limit → (b2s (burnPath x k h)).length = k ∧ (∀ c, c ∈ b2s (burnPath x k h) → c = 48 ∨ c = 49) ∧ (∀ v, v ∈ hts x h (b2s (burnPath x k h)) → v ≤ x.Limit) ∧ ((b2s (burnPath x k h)).count 49 : Int) = burnMost x k h
  | 0, h, _, _ => by simp [burnPath, b2s, hts, burnMost]
  | k + 1, h, h0, h1 => by
    obtain ⟨g1, g2, g3, g4, g5, g6⟩ := hx
    rw [burnPath]
    by_cases hc : h + x.Heats ≤ x.Limit ∧ burnMost x k (h + x.Heats) + 1 = burnMost x (k + 1) h
    · rw [if_pos hc, b2s_cons]
      have e : UInt8.ofNat (49 : Int).toNat = 49 := rfl
      rw [e]
      obtain ⟨i1, i2, i3, i4⟩ := path_ok ⟨g1, g2, g3, g4, g5, g6⟩ k (h + x.Heats) (by omega) hc.1
      refine ⟨by simp [i1], ?_, ?_, ?_⟩
      · intro c hcm
        rcases List.mem_cons.1 hcm with rfl | hcm
        · exact .inr rfl
        · exact i2 c hcm
      · intro v hv
        rw [hts, decide_eq_true rfl, nx_t] at hv
        rcases List.mem_cons.1 hv with rfl | hv
        · exact hc.1
        · exact i3 v hv
      · rw [List.count_cons_self]; omega
    · rw [if_neg hc, b2s_cons]
      have e : UInt8.ofNat (48 : Int).toNat = 48 := rfl
      rw [e]
      obtain ⟨i1, i2, i3, i4⟩ := path_ok ⟨g1, g2, g3, g4, g5, g6⟩ k (max (h - x.Cools) 0) (by omega) (by omega)
      refine ⟨by simp [i1], ?_, ?_, ?_⟩
      · intro c hcm
        rcases List.mem_cons.1 hcm with rfl | hcm
        · exact .inl rfl
        · exact i2 c hcm
      · intro v hv
        rw [hts, decide_eq_false (by decide), nx_f] at hv
        rcases List.mem_cons.1 hv with rfl | hv
        · omega
        · exact i3 v hv
      · rw [List.count_cons_of_ne (by decide), i4, burnMost]
        by_cases h2 : h + x.Heats ≤ x.Limit
        · rw [if_pos h2]
          have h3 : burnMost x k (h + x.Heats) + 1 ≠ burnMost x (k + 1) h := fun h3 => hc ⟨h2, h3⟩
          rw [burnMost, if_pos h2] at h3
          omega
        · rw [if_neg h2]
/-- no burning without too much heat burns longer -/
theorem path_best {x : GLamp} (hx : x.good) : ∀ (s : List UInt8) (h : Int), 0 ≤ h → (∀ c, c ∈ s → c = 48 ∨ c = 49) → (∀ v, v ∈ hts x h s → v ≤ x.Limit) → (s.count 49 : Int) ≤ burnMost x s.length h
  | [], h, _, _, _ => by simp [burnMost]
  | c :: s, h, h0, hc, hv => by
    obtain ⟨g1, g2, g3, g4, g5, g6⟩ := hx
    rw [List.length_cons, burnMost]
    rw [hts] at hv
    rcases hc c (by simp) with rfl | rfl
    · rw [decide_eq_false (by decide), nx_f] at hv
      have := path_best ⟨g1, g2, g3, g4, g5, g6⟩ s (max (h - x.Cools) 0) (by omega) (fun c hcm => hc c (List.mem_cons_of_mem _ hcm)) (fun v hvm => hv v (List.mem_cons_of_mem _ hvm))
      rw [List.count_cons_of_ne (by decide)]
      split <;> omega
    · rw [decide_eq_true rfl, nx_t] at hv
      have h1 := hv _ (List.mem_cons_self ..)
      have := path_best ⟨g1, g2, g3, g4, g5, g6⟩ s (h + x.Heats) (by omega) (fun c hcm => hc c (List.mem_cons_of_mem _ hcm)) (fun v hvm => hv v (List.mem_cons_of_mem _ hvm))
      rw [List.count_cons_self, if_pos h1]
      omega
theorem hot_none {x : GLamp} {s : List UInt8} : ff (hotAt x s) s.length = none ↔ ∀ v, v ∈ hts x 0 s → v ≤ x.Limit := by
  have hl := hts_len x s 0
  rw [ff_none]
  constructor
  · intro h v hv
    obtain ⟨i, hi, rfl⟩ := List.getElem_of_mem hv
    have := h i (by omega)
    unfold hotAt at this
    rw [List.getD_eq_getElem?_getD, List.getElem?_eq_getElem hi] at this
    have := of_decide_eq_false this
    simp at this
    exact this
  · intro h i hi
    unfold hotAt
    rw [List.getD_eq_getElem?_getD, List.getElem?_eq_getElem (by omega)]
    refine decide_eq_false ?_
    have := h _ (List.getElem_mem (l := hts x 0 s) (show i < (hts x 0 s).length by omega))
    simp
    exact this
theorem firstR_eq {x : GLamp} {s : List UInt8} (hx : x.good) (hb : brn s) : firstR x s = hotR x s := by unfold firstR; rw [if_pos ⟨hx, hb⟩]
theorem heatR_eq {x : GLamp} {s : List UInt8} (hx : x.good) (hb : brn s) : heatR x s = (hts x 0 s, 0) := by unfold heatR; rw [if_pos ⟨hx, hb⟩]
def encF : Option Nat → Int
  | some i => (i : Int)
  | none => -1
theorem laws_FnBurning_true {code more : List Int} (hc : okL (okI .u8) code) (hm : okL (okI .u8) more) : laws_FnBurning code more = some true := by
  unfold laws_FnBurning
  obtain ⟨r, hr, hr2⟩ := a2Long_eq code more
  rw [hr, Option.bind_some]
  cases r with
  | true => rfl
  | false =>
  obtain ⟨hc2, hm2⟩ := hr2 rfl
  simp only [Bool.false_eq_true, if_false]
  obtain ⟨x, hx, hg⟩ := A2Lamp_ok hc (by omega)
  rw [hx, Option.bind_some]
  obtain ⟨t, ht, t0, t1⟩ := a2At_ok hm hm2 (i := 0) (n := 20) (by omega) (by omega)
  rw [ht, Option.bind_some]
  have hcode : lampCode x t = 0 := by
    unfold lampCode; rw [if_pos hg, if_pos ⟨t0, by omega⟩]
  have hlim := hg
  obtain ⟨g1, g2, g3, g4, g5, g6⟩ := hg
  obtain ⟨p1, p2, p3, p4⟩ := path_ok hlim t.toNat 0 (by omega) (by omega)
  have hpb : brn (b2s (burnPath x t.toNat 0)) := ⟨by omega, p2⟩
  rw [impl_MostBurning_eq, impl_BestBurning_eq, if_pos hcode, if_pos hcode, Option.bind_some, Option.bind_some]
  simp only
  rw [FirstTooHot_eq (by omega), firstR_eq hlim hpb, Option.bind_some]
  have hh : hotR x (b2s (burnPath x t.toNat 0)) = (0, 3) := by
    unfold hotR; rw [hot_none.2 p3]
  have e1 : (((b2s (burnPath x t.toNat 0)).length : Nat) : Int) = t := by omega
  simp only [if_true, e1, hh, a2Ones_eq (s := b2s (burnPath x t.toNat 0)) (by omega), Option.bind_some, cnt49, p4, decide_true, Bool.not_true, Bool.false_eq_true, if_false]
  obtain ⟨s, hs, s1, s2⟩ := A2Burning_ok hm (by omega) t0 (by omega)
  have hl := hts_len x s 0
  have h60 := s2.1
  rw [hs, Option.bind_some, HeatAfter_eq (by omega), heatR_eq hlim s2, Option.bind_some, FirstTooHot_eq (by omega), firstR_eq hlim s2, Option.bind_some]
  simp only [hl, s1, if_true, decide_true, Bool.not_true, Option.bind_some, Bool.false_eq_true, if_false]
  refine eq_of_wp ?_
  refine wp_loop (fun q : Int × Int × Int => ∃ k : Nat, q.2.2 = (k : Int) ∧ k ≤ s.length ∧ 0 ≤ q.1 ∧ q.1 ≤ 20 * k ∧ hts x q.1 (s.drop k) = (hts x 0 s).drop k ∧ q.2.1 = encF (ff (hotAt x s) k)) (fun q => (s.length - q.2.2).toNat) ⟨0, rfl, by omega, by simp, by simp, by simp, rfl⟩ (by simp; omega) ?_
  rintro ⟨now, first, i⟩ ⟨k, rfl, hk, n0, n1, he, rfl⟩
  simp only at hk n0 n1 he ⊢
  refine wp_ite (fun h => ?_) (fun h => ?_)
  · have hk2 : k < s.length := by omega
    have hk3 : k < (hts x 0 s).length := by omega
    have hbd := nx_bd hlim n0 n1 (decide (s[k] = 49))
    have hnow : (if (s[k].toNat : Int) = 49 then (some (w64 (now + x.Heats))) else some (imax 0 (w64 (now - x.Cools))) : Option Int) = some (nx x now (decide (s[k] = 49))) := by
      by_cases hcc : s[k] = 49
      · rw [if_pos ((u49 _).2 hcc), decide_eq_true hcc, nx_t, w64_id (by omega) (by omega)]
      · rw [if_neg (fun h => hcc ((u49 _).1 h)), decide_eq_false hcc, nx_f, w64_id (by omega) (by omega), imax_def, Int.max_comm]
    rw [at_of hk2, Option.bind_some, hnow, Option.bind_some, at_of hk3, Option.bind_some]
    rw [List.drop_eq_getElem_cons hk2, List.drop_eq_getElem_cons hk3, hts, List.cons.injEq] at he
    rw [if_pos he.1.symm, w64_id (by omega) (by omega)]
    have hha : hotAt x s k = decide (nx x now (decide (s[k] = 49)) > x.Limit) := by unfold hotAt; rw [List.getD_eq_getElem?_getD, List.getElem?_eq_getElem hk3, ← he.1]; rfl
    have hx3 : (if nx x now (decide (s[k] = 49)) > x.Limit then (some (decide (encF (ff (hotAt x s) k) < 0))) else some false : Option Bool) = some (hotAt x s k && decide (ff (hotAt x s) k = none)) := by
      rw [hha]
      by_cases h4 : nx x now (decide (s[k] = 49)) > x.Limit
      · rw [if_pos h4, decide_eq_true h4, Bool.true_and]
        cases ff (hotAt x s) k with
        | none => rfl
        | some i => simp only [encF]; exact congrArg some (decide_eq_decide.2 (by simp))
      · rw [if_neg h4, decide_eq_false h4]; rfl
    rw [hx3, Option.bind_some]
    refine wp_ite (fun h4 => ?_) (fun h4 => ?_)
    · rw [Bool.and_eq_true, decide_eq_true_eq] at h4
      refine wp_some ⟨⟨k + 1, rfl, by omega, hbd.1, by simp only; omega, he.2, ?_⟩, by simp only; omega⟩
      simp only
      rw [ff, h4.2]; simp only; rw [if_pos h4.1]; rfl
    · refine wp_some ⟨⟨k + 1, rfl, by omega, hbd.1, by simp only; omega, he.2, ?_⟩, by simp only; omega⟩
      simp only
      rw [ff]
      cases h5 : ff (hotAt x s) k with
      | some i => rfl
      | none =>
        simp only
        rw [h5] at h4
        rw [if_neg (fun h6 => h4 (by simp [h6]))]
  · obtain rfl : k = s.length := by omega
    refine wp_some ?_
    show wp (if encF (ff (hotAt x s) s.length) ≥ 0 then _ else _) _
    cases hf : ff (hotAt x s) s.length with
    | some i =>
      have hhr : hotR x s = ((i : Int), 0) := by unfold hotR; rw [hf]
      rw [if_pos (by simp [encF]), hhr]
      simp only [if_true, Option.bind_some, encF, decide_true]
      exact wp_some rfl
    | none =>
      have hhr : hotR x s = (0, 3) := by unfold hotR; rw [hf]
      rw [if_neg (by simp [encF]), hhr]
      simp only [if_true]
      rw [a2Ones_eq (by omega), Option.bind_some, cnt49]
      have := path_best hlim s 0 (by omega) s2.2 (hot_none.1 hf)
      rw [show t.toNat = s.length by omega]
      exact wp_some (decide_eq_true this)
end Go.Vs.G
