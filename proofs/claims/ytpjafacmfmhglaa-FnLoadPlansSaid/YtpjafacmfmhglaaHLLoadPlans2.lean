/- Plain facts about the typed functions, up to the law: no program in sight. No conditions. -/
import Derived.Test.YtpjafacmfmhglaaV5
import Derived.Test.YtpjafacmfmhglaaDLLoadPlans
import Derived.Test.YtpjafacmfmhglaaHLLoadPlans1
namespace Go.Vs.G
open Go Go.Vs

/-- between x and y all is still to be sorted; before and behind all has its place -/
structure Mid (a b x y : Nat) (e : List Int) : Prop where
  ax : a ≤ x
  xy : x ≤ y
  yb : y ≤ b
  lo : ∀ i j, a ≤ i → i < x → i ≤ j → j < b → el e i ≤ el e j
  hi : ∀ i j, a ≤ i → i ≤ j → y ≤ j → j < b → el e i ≤ el e j
theorem Mid.pm {a b x y : Nat} {e f : List Int} (h : Mid a b x y e) (p : Pm x y e f) : Mid a b x y f := by
  obtain ⟨ax, xy, yb, lo, hi⟩ := h
  refine ⟨ax, xy, yb, fun i j h1 h2 h3 h4 => ?_, fun i j h1 h2 h3 h4 => ?_⟩
  · rw [p.out i (.inl h2)]
    by_cases hj : x ≤ j ∧ j < y
    · obtain ⟨j', j1, j2, j3⟩ := p.to j hj.1 hj.2
      rw [j3]; exact lo i j' h1 h2 (by omega) (by omega)
    · rw [p.out j (by omega)]; exact lo i j h1 h2 h3 h4
  · rw [p.out j (.inr h3)]
    by_cases hj : x ≤ i ∧ i < y
    · obtain ⟨j', j1, j2, j3⟩ := p.to i hj.1 hj.2
      rw [j3]; exact hi j' j (by omega) (by omega) h3 h4
    · rw [p.out i (by omega)]; exact hi i j h1 h2 h3 h4
theorem Mid.done {a b x y : Nat} {e : List Int} (h : Mid a b x y e) (s : Srt x y e) : Srt a b e := fun i j h1 h2 h3 => by
  by_cases hi : i < x
  · exact h.lo i j h1 hi h2 h3
  · by_cases hj : y ≤ j
    · exact h.hi i j h1 h2 hj h3
    · exact s i j (by omega) h2 (by omega)
/-- parted, then the left part sorted -/
theorem Mid.left {a b x y m : Nat} {e f : List Int} (h : Mid a b x y e) (p : Prt x y m e) (q : Pm x m e f) (s : Srt x m f) : Mid a b (m + 1) y f := by
  obtain ⟨p1, p2, p3, p4⟩ := p
  have g := h.pm (q.mono (Nat.le_refl _) (by omega))
  have ax := h.ax
  have yb := h.yb
  refine ⟨by omega, by omega, h.yb, fun i j h1 h2 h3 h4 => ?_, g.hi⟩
  by_cases hi : i < x
  · exact g.lo i j h1 hi h3 h4
  · by_cases hj : y ≤ j
    · exact g.hi i j h1 h3 hj h4
    · by_cases him : i = m
      · subst him
        by_cases hjm : j = i
        · rw [hjm]; exact Int.le_refl _
        · rw [q.out i (by omega), q.out j (by omega)]; exact p4 j (by omega) (by omega)
      · by_cases hjm : j < m
        · exact s i j (by omega) h3 hjm
        · obtain ⟨i', i1, i2, i3⟩ := q.to i (by omega) (by omega)
          have h5 := p3 i' i1 i2
          rw [i3, q.out j (by omega)]
          by_cases hjm2 : j = m
          · rw [hjm2]; omega
          · have := p4 j (by omega) (by omega); omega
/-- parted, then the right part sorted -/
theorem Mid.right {a b x y m : Nat} {e f : List Int} (h : Mid a b x y e) (p : Prt x y m e) (q : Pm (m + 1) y e f) (s : Srt (m + 1) y f) : Mid a b x m f := by
  obtain ⟨p1, p2, p3, p4⟩ := p
  have g := h.pm (q.mono (by omega) (Nat.le_refl _))
  have ax := h.ax
  have yb := h.yb
  refine ⟨h.ax, by omega, by omega, g.lo, fun i j h1 h2 h3 h4 => ?_⟩
  by_cases hi : i < x
  · exact g.lo i j h1 hi h2 h4
  · by_cases hj : y ≤ j
    · exact g.hi i j h1 h2 hj h4
    · by_cases him : m < i
      · exact s i j (by omega) h2 (by omega)
      · have hjv : el e m ≤ el f j := by
          by_cases hjm : j = m
          · rw [hjm, q.out m (by omega)]; exact Int.le_refl _
          · obtain ⟨j', j1, j2, j3⟩ := q.to j (by omega) (by omega)
            rw [j3]; exact p4 j' (by omega) j2
        rw [q.out i (by omega)]
        by_cases him2 : i = m
        · rw [him2]; exact hjv
        · have := p3 i (by omega) (by omega); omega
theorem pdq_ok : ∀ (n : Nat) {d : List Int} {a b : Nat} {limit : Int}, a ≤ b → b ≤ d.length → d.length ≤ 49 → b - a < 2 ^ n → 0 ≤ limit → limit ≤ 1000 → (0 < a → ∀ j, a ≤ j → j < b → el d (a - 1) ≤ el d j) →
    wp (slices_pdqsortOrdered_byte_859_n (n + 1) d (a : Int) (b : Int) limit) (fun e => Pm a b d e ∧ Srt a b e) := by
  intro n
  induction n with
  | zero =>
    intro d a b limit hab hb hl hn h0 h1 hpre
    unfold slices_pdqsortOrdered_byte_859_n
    refine wp_loop (fun t : List Int × Int × Int × Int × Bool × Bool => t = (d, (a : Int), (b : Int), limit, true, true)) (fun _ => 0) rfl (by omega) ?_
    rintro t rfl
    simp only
    rw [w64_id (by omega) (by omega), if_pos (by omega)]
    refine wp_seq (insertion_ok hab hb (by omega)) fun e he => ?_
    exact wp_some (wp_some he)
  | succ n ih =>
    intro d a b limit hab hb hl hn h0 h1 hpre
    unfold slices_pdqsortOrdered_byte_859_n
    refine wp_loop (fun t : List Int × Int × Int × Int × Bool × Bool => ∃ x y : Nat, t.2.1 = (x : Int) ∧ t.2.2.1 = (y : Int) ∧ Pm a b d t.1 ∧ Mid a b x y t.1 ∧ 0 ≤ t.2.2.2.1 ∧ t.2.2.2.1 ≤ 1000 ∧ (0 < x → ∀ j, x ≤ j → j < y → el t.1 (x - 1) ≤ el t.1 j))
      (fun t => (t.2.2.1 - t.2.1).toNat) ⟨a, b, rfl, rfl, Pm.refl _ _ _, ⟨by omega, hab, by omega, fun i j h1 h2 => by omega, fun i j h1 h2 h3 h4 => by omega⟩, h0, h1, hpre⟩ (by simp only; omega) ?_
    rintro ⟨e, x, y, lim, wb, wpt⟩ ⟨x, y, rfl, rfl, e1, e2, e3, e4, e5⟩
    simp only at e1 e2 e3 e4 e5 ⊢
    have hel := e1.len
    have ax := e2.ax
    have xy := e2.xy
    have yb := e2.yb
    have fin : ∀ {f : List Int}, Pm x y e f → Srt x y f → Pm a b d f ∧ Srt a b f := fun p s => ⟨e1.trans (p.mono ax yb), (e2.pm p).done s⟩
    rw [w64_id (n := (y : Int) - (x : Int)) (by omega) (by omega)]
    refine wp_ite (fun h12 => ?_) (fun h12 => ?_)
    · refine wp_seq (insertion_ok (d := e) xy (by omega) (by omega)) fun f hf => ?_
      exact wp_some (wp_some (fin hf.1 hf.2))
    refine wp_ite (fun hlim => ?_) (fun hlim => ?_)
    · refine wp_seq (heapSort_ok (d := e) xy (by omega) (by omega)) fun f hf => ?_
      exact wp_some (wp_some (fin hf.1 hf.2))
    -- patterns
    refine wp_seq (P := fun r : List Int × Int => Pm x y e r.1 ∧ 0 ≤ r.2 ∧ r.2 ≤ 1000) ?_ ?_
    · refine wp_ite (fun _ => wp_some ⟨Pm.refl _ _ _, e3, e4⟩) (fun _ => ?_)
      refine wp_seq (breakPatterns_ok (d := e) (by omega) (by omega) (by omega)) fun f hf => ?_
      rw [w64_id (by omega) (by omega)]
      exact wp_some ⟨hf, by simp only; omega, by simp only; omega⟩
    rintro ⟨f, lim2⟩ ⟨f1, f2, f3⟩
    simp only at f1 f2 f3 ⊢
    have hfl := f1.len
    obtain ⟨p, hint, p1, p2, p3⟩ := choosePivot_ok (d := f) (a := x) (b := y) (by omega) (by omega) (by omega)
    rw [p1, Option.bind_some]
    simp only
    refine wp_seq (P := fun r : List Int × Int × Int => Pm x y e r.1 ∧ ∃ q : Nat, r.2.1 = (q : Int) ∧ x ≤ q ∧ q < y) ?_ ?_
    · refine wp_ite (fun _ => ?_) (fun _ => wp_some ⟨f1, p, rfl, p2, p3⟩)
      refine wp_seq (reverse_ok (d := f) (a := x) (b := y) (by omega) (by omega) (by omega)) fun g hg => ?_
      rw [w64_id (n := (y : Int) - 1) (by omega) (by omega), w64_id (n := (p : Int) - (x : Int)) (by omega) (by omega), w64_id (by omega) (by omega)]
      exact wp_some ⟨f1.trans hg, y - 1 - (p - x), by simp only; omega, by omega, by omega⟩
    rintro ⟨g, q, hint2⟩ ⟨g1, q, rfl, q1, q2⟩
    simp only at g1 ⊢
    have hgl := g1.len
    refine wp_seq (P := fun _ => True) ?_ ?_
    · refine wp_ite (fun _ => wp_ite (fun _ => wp_some trivial) (fun _ => wp_some trivial)) (fun _ => wp_some trivial)
    intro x1 _
    refine wp_onS ?_
    refine wp_mono (P := fun o : Step (List Int) Empty (List Int) => match o with | .next s => s = g | .brk b => False | .ret r => Pm x y e r ∧ Srt x y r) ?_ ?_
    · refine wp_ite (fun _ => ?_) (fun _ => wp_some rfl)
      refine wp_seq (partialInsertion_ok (d := g) (a := x) (b := y) (by omega) (by omega) (by omega)) fun r hr => ?_
      obtain ⟨r1, r2⟩ := r
      obtain ⟨hr1, hr2⟩ := hr
      simp only at hr1 hr2 ⊢
      subst hr1
      refine wp_ite (fun h => wp_some ⟨g1, hr2 h⟩) (fun _ => wp_some rfl)
    intro o ho
    cases o with
    | brk b => exact ho.elim
    | ret r =>
      simp only at ho ⊢
      exact wp_some (wp_some (fin ho.1 ho.2))
    | next g' =>
      simp only at ho ⊢
      subst ho
      have gm := e2.pm g1
      have gpre : 0 < x → ∀ j, x ≤ j → j < y → el g' (x - 1) ≤ el g' j := fun h j j1 j2 => by
        obtain ⟨j', k1, k2, k3⟩ := g1.to j j1 j2
        rw [k3, g1.out (x - 1) (by omega)]
        exact e5 h j' k1 k2
      -- is the one before as great as the pivot?
      have hx2 : ∃ r, ((if (x : Int) > 0 then ((at? g' (w64 ((x : Int) - 1))).bind fun v1 => (at? g' (q : Int)).bind fun v2 => (cmp_Less_byte_28 v1 v2).bind fun r7 => some (!r7)) else some false) : Option Bool) = some r ∧
          (r = true → 0 < x ∧ el g' q ≤ el g' (x - 1)) := by
        by_cases h : (x : Int) > 0
        · rw [if_pos h, pred_eq (by omega) (by omega), at_el (by omega), Option.bind_some, at_el (by omega), Option.bind_some, less_eq, Option.bind_some]
          refine ⟨_, rfl, fun hr => ⟨by omega, ?_⟩⟩
          simpa using hr
        · rw [if_neg h]; exact ⟨_, rfl, fun hr => by cases hr⟩
      obtain ⟨r, hr1, hr2⟩ := hx2
      rw [hr1, Option.bind_some]
      refine wp_ite (fun hrt => ?_) (fun hrt => ?_)
      · obtain ⟨hx0, hle⟩ := hr2 hrt
        refine wp_seq (partitionEqual_ok (d := g') (a := x) (b := y) (p := q) ⟨q1, q2⟩ (by omega) (by omega)) fun u hu => ?_
        obtain ⟨i, u2⟩ := u
        obtain ⟨m, hm, m1, m2, m3, m4⟩ := hu
        simp only at hm m3 m4 ⊢
        subst hm
        have um := gm.pm m3
        refine wp_some ⟨⟨m, y, rfl, rfl, e1.trans ((g1.trans m3).mono ax yb), ⟨by omega, m2, yb, fun i j h1 h2 h3 h4 => ?_, um.hi⟩, f2, f3, fun _ j j1 j2 => ?_⟩, by simp only; omega⟩
        · by_cases hi : i < x
          · exact um.lo i j h1 hi h3 h4
          · by_cases hj : y ≤ j
            · exact um.hi i j h1 h3 hj h4
            · obtain ⟨j', k1, k2, k3⟩ := m3.to j (by omega) (by omega)
              have := m4 i (by omega) h2
              have := gpre hx0 j' k1 k2
              simp only at *
              rw [k3]; omega
        · obtain ⟨j', k1, k2, k3⟩ := m3.to j (by omega) (by omega)
          have := m4 (m - 1) (by omega) (by omega)
          have := gpre hx0 j' k1 k2
          simp only at *
          rw [k3]; omega
      · refine wp_seq (partition_ok (d := g') (a := x) (b := y) (p := q) ⟨q1, q2⟩ (by omega) (by omega)) fun u hu => ?_
        obtain ⟨i, al, u2⟩ := u
        obtain ⟨m, hm, m3, m4⟩ := hu
        simp only at hm m3 m4 ⊢
        subst hm
        obtain ⟨m1, m2, m5, m6⟩ := m4
        have hul := m3.len
        have um := gm.pm m3
        have upre : 0 < x → ∀ j, x ≤ j → j < y → el u2 (x - 1) ≤ el u2 j := fun h j j1 j2 => by
          obtain ⟨j', k1, k2, k3⟩ := m3.to j j1 j2
          rw [k3, m3.out (x - 1) (by omega)]
          exact gpre h j' k1 k2
        rw [w64_id (n := (m : Int) - (x : Int)) (by omega) (by omega), w64_id (n := (y : Int) - (m : Int)) (by omega) (by omega), succ_eq (by omega)]
        have hp2 : 2 ^ (n + 1) = 2 * 2 ^ n := by rw [Nat.pow_succ]; omega
        refine wp_ite (fun hsm => ?_) (fun hsm => ?_)
        · refine wp_seq (ih (d := u2) (a := x) (b := m) (limit := lim2) (by omega) (by omega) (by omega) (by omega) f2 f3 (fun h j j1 j2 => upre h j j1 (by omega))) fun v hv => ?_
          obtain ⟨v1, v2⟩ := hv
          have vm := um.left ⟨m1, m2, m5, m6⟩ v1 v2
          refine wp_some ⟨⟨m + 1, y, rfl, rfl, e1.trans ((g1.trans m3).mono ax yb |>.trans (v1.mono ax (by omega))), vm, f2, f3, fun _ j j1 j2 => ?_⟩, by simp only; omega⟩
          exact vm.lo (m + 1 - 1) j (by omega) (by omega) (by omega) (by omega)
        · refine wp_seq (ih (d := u2) (a := m + 1) (b := y) (limit := lim2) (by omega) (by omega) (by omega) (by omega) f2 f3 (fun _ j j1 j2 => m6 j (by omega) j2)) fun v hv => ?_
          obtain ⟨v1, v2⟩ := hv
          have vm := um.right ⟨m1, m2, m5, m6⟩ v1 v2
          refine wp_some ⟨⟨x, m, rfl, rfl, e1.trans ((g1.trans m3).mono ax yb |>.trans (v1.mono (by omega) yb)), vm, f2, f3, fun h j j1 j2 => ?_⟩, by simp only; omega⟩
          simp only
          rw [v1.out (x - 1) (by omega), v1.out j (by omega)]
          exact upre h j j1 (by omega)
theorem sort_ok {l : List Int} (hl : l.length ≤ 49) : wp (slices_Sort_byte_byte_835 l) (fun e => Pm 0 l.length l e ∧ Srt 0 l.length e) := by
  unfold slices_Sort_byte_byte_835
  obtain ⟨k, k1, k2⟩ := bitsLen_small (n := l.length) (by omega)
  rw [wu64_def, show (l.length : Int) % 18446744073709551616 = (l.length : Int) by omega, k1, Option.bind_some]
  refine wp_seq (pdq_ok 39 (d := l) (a := 0) (b := l.length) (limit := (k : Int)) (by omega) (Nat.le_refl _) hl (by omega) (by omega) (by omega) (fun h => by omega)) fun e he => wp_some he
end Go.Vs.G

namespace Go.Vs.G
open Go Go.Vs

/-- a list without repetitions is no longer than one that has all of it -/
theorem nodup_leP {α : Type} [DecidableEq α] : ∀ {l m : List α}, l.Nodup → (∀ a, a ∈ l → a ∈ m) → l.length ≤ m.length
  | [], m, _, _ => by simp
  | a :: l, m, h, hs => by
    obtain ⟨h1, h2⟩ := List.nodup_cons.1 h
    have ha := hs a (by simp)
    have := nodup_leP (l := l) (m := m.erase a) h2 fun b hb => (List.mem_erase_of_ne (fun e => h1 (by rw [← e]; exact hb))).2 (hs b (by simp [hb]))
    rw [List.length_erase_of_mem ha] at this
    have : 0 < m.length := List.length_pos_of_mem ha
    simp only [List.length_cons]; omega
/- one of each of a sorted list -/
theorem cmp_spec {e : List Int} (hs : Srt 0 e.length e) : ∀ m, m ≤ e.length → (∀ v, v ∈ Lib.compactUpTo e.toArray m ↔ ∃ j, j < m ∧ v = el e j) ∧ (Lib.compactUpTo e.toArray m).Pairwise (· < ·)
  | 0, _ => by simp [Lib.compactUpTo]
  | m + 1, hm => by
    obtain ⟨h1, h2⟩ := cmp_spec hs m (by omega)
    have hg : ∀ j, e.toArray[j]! = el e j := fun j => by
      unfold el
      rw [List.getD_eq_getElem?_getD]
      simp only [List.getElem!_toArray, List.getElem!_eq_getElem?_getD]
      rfl
    rw [Lib.compactUpTo_succ, hg]
    by_cases hk : Lib.keeps e.toArray m = true
    · rw [if_pos hk]
      refine ⟨fun v => ?_, ?_⟩
      · rw [List.mem_append, h1, List.mem_singleton]
        constructor
        · rintro (⟨j, j1, j2⟩ | hv)
          · exact ⟨j, by omega, j2⟩
          · exact ⟨m, by omega, hv⟩
        · rintro ⟨j, j1, j2⟩
          by_cases hj : j = m
          · subst hj; exact .inr j2
          · exact .inl ⟨j, by omega, j2⟩
      · refine List.pairwise_append.2 ⟨h2, by simp, fun x hx y hy => ?_⟩
        obtain ⟨j, j1, rfl⟩ := (h1 x).1 hx
        rw [List.mem_singleton.1 hy]
        have hk2 := of_decide_eq_true hk
        rw [hg, hg] at hk2
        have h3 : el e j ≤ el e (m - 1) := hs j (m - 1) (by omega) (by omega) (by omega)
        have h4 : el e (m - 1) ≤ el e m := hs (m - 1) m (by omega) (by omega) (by omega)
        rcases hk2 with h5 | h5
        · omega
        · have h6 : ¬ el e m = el e (m - 1) := h5
          omega
    · rw [if_neg hk, List.append_nil]
      refine ⟨fun v => ?_, h2⟩
      rw [h1]
      have hk2 := of_decide_eq_false (by simpa using hk : Lib.keeps e.toArray m = false)
      rw [hg, hg] at hk2
      have hk3 : m ≠ 0 ∧ el e m = el e (m - 1) := by
        rw [not_or] at hk2
        exact ⟨hk2.1, Decidable.not_not.1 hk2.2⟩
      constructor
      · rintro ⟨j, j1, j2⟩; exact ⟨j, by omega, j2⟩
      · rintro ⟨j, j1, j2⟩
        by_cases hj : j = m
        · subst hj; exact ⟨j - 1, by omega, by rw [j2]; exact hk3.2⟩
        · exact ⟨j, by omega, j2⟩
section
variable {s : List UInt8} (h : shw s)
include h
omit h in
theorem kinds_bd (s : List UInt8) (i : Nat) : 0 ≤ kinds s i ∧ kinds s i ≤ (i : Int) := cnt_bd _ i
theorem SlidesIn_eq : impl_SlidesIn s = some (kinds s s.length, 0) := by
  have h2 := h.2
  refine eq_of_wp ?_
  unfold impl_SlidesIn
  rw [ValidShowing_t h, Option.bind_some, if_pos rfl, s2b_ok (by omega), Option.bind_some]
  obtain ⟨e, he0, he1, he2⟩ := sort_ok (l := s.map fun b => (b.toNat : Int)) (by rw [List.length_map]; omega)
  rw [he0, Option.bind_some]
  have hel : e.length = s.length := by rw [he1.len]; simp
  rw [List.length_map] at he1 he2
  unfold slices_Compact_byte
  rw [if_pos (by omega), Option.bind_some]
  have hg : ∀ i, el (s.map fun b => (b.toNat : Int)) i = (ltr s i : Int) := fun i => by
    unfold el ltr
    rw [List.getD_eq_getElem?_getD, List.getElem?_map, List.getD_eq_getElem?_getD]
    cases s[i]? <;> rfl
  obtain ⟨c1, c2⟩ := cmp_spec (e := e) (by rw [hel]; exact he2) e.length (Nat.le_refl _)
  have hk := kinds_bd s s.length
  obtain ⟨o1, o2, o3⟩ := ost_all (s := s) (p := s.length) (ag := false) (i := s.length) hk.2
  have n1 : (Lib.compact e).Nodup := by
    rw [List.nodup_iff_pairwise_ne]
    exact c2.imp fun hab => by omega
  have n2 := ost_nodup s s.length false s.length
  have l1 : (Lib.compact e).length ≤ (ost s s.length false s.length).length := nodup_leP n1 fun v hv => by
    obtain ⟨j, j1, rfl⟩ := (c1 v).1 hv
    obtain ⟨q, q1, q2, q3⟩ := he1.to j (by omega) (by omega)
    exact (o1 _).2 ⟨q, q2, by rw [q3, hg]⟩
  have l2 : (ost s s.length false s.length).length ≤ (Lib.compact e).length := nodup_leP n2 fun v hv => by
    obtain ⟨j, j1, rfl⟩ := (o1 v).1 hv
    obtain ⟨q, q1, q2, q3⟩ := he1.fr j (by omega) (by omega)
    exact (c1 _).2 ⟨q, by omega, by rw [q3, hg]⟩
  have hlast : ((Lib.compact e).length : Int) = kinds s s.length := by omega
  rw [hlast]
  exact wp_some rfl
omit h in
theorem run_mem {p : Nat} {pl : List Int} : ∀ {i : Nat} {m : Int}, m ∈ run s p pl i → m = 0 ∨ ∃ a, a < i ∧ m = (ltr s a : Int)
  | 0, m, hm => by simp only [run, List.mem_replicate] at hm; exact .inl hm.2
  | i + 1, m, hm => by
    rcases List.mem_or_eq_of_mem_set hm with h1 | h1
    · rcases run_mem h1 with h2 | ⟨a, a1, a2⟩
      · exact .inl h2
      · exact .inr ⟨a, by omega, a2⟩
    · exact .inr ⟨i, by omega, h1⟩
theorem kinds_le {p : Nat} {pl : List Int} : ∀ {i : Nat}, i ≤ s.length → kinds s i ≤ ldc s p pl i
  | 0, _ => by simp [kinds, cnt, ldc]
  | i + 1, hi => by
    have ih := kinds_le (p := p) (pl := pl) (i := i) (by omega)
    have ek : kinds s (i + 1) = kinds s i + b2i (!seen s i (ltr s i)) := rfl
    have hpos := h.pos i (by omega)
    rw [ek]
    simp only [ldc]
    cases hse : seen s i (ltr s i) with
    | true => simp only [b2i, Bool.not_true, Bool.false_eq_true, if_false]; split <;> omega
    | false =>
      rw [if_neg]
      · simp [b2i]; omega
      · intro hc
        have hm : (ltr s i : Int) = 0 ∨ (ltr s i : Int) ∈ run s p pl i := by
          rw [← hc]
          rw [List.getD_eq_getElem?_getD]
          cases hq : (run s p pl i)[(pl.getD i 0).toNat]? with
          | none => exact .inl rfl
          | some v => exact .inr (List.mem_of_getElem? hq)
        rcases hm with hm | hm
        · omega
        · rcases run_mem hm with h1 | ⟨a, a1, a2⟩
          · omega
          · have : seen s i (ltr s i) = true := seen_iff.2 ⟨a, a1, by omega⟩
            rw [hse] at this; cases this
theorem NextShown_eq {i : Nat} (hi : i < s.length) : ∃ j : Nat, i < j ∧ j ≤ s.length ∧ (∀ a, i < a → a < j → ltr s a ≠ ltr s i) ∧ (j < s.length → ltr s j = ltr s i) ∧ impl_NextShown s (i : Int) = some (if j = s.length then (0, 3) else ((j : Int), 0)) := by
  have h2 := h.2
  obtain ⟨c, hc, hcl⟩ := at_ltr hi
  have hw : impl_within (i : Int) 0 (w64 ((s.length : Int) - 1)) = some true := by
    rw [within_eqR, w64_id (by omega) (by omega), decide_eq_true (by omega)]
  have hsub : sub? s (((i + 1 : Nat)) : Int) s.length = some (s.drop (i + 1)) := by
    rw [sub_ok (by omega) (by omega) (by omega), Int.toNat_natCast, Int.toNat_natCast, List.take_length]
  have gd : ∀ j, (s.drop (i + 1)).getD j 0 = s.getD (i + 1 + j) 0 := fun j => by rw [List.getD_eq_getElem?_getD, List.getD_eq_getElem?_getD, List.getElem?_drop]
  have key : ∀ r, strings_IndexByte (s.drop (i + 1)) (c.toNat : Int) = some r → impl_NextShown s (i : Int) = some (if r < 0 then (0, 3) else (w64 (((i + 1 : Nat) : Int) + r), 0)) := fun r hr => by
    unfold impl_NextShown
    rw [ValidShowing_t h, Option.bind_some, if_pos rfl, hw, Option.bind_some, if_pos rfl, succ_eq (by omega), hsub, Option.bind_some, hc, Option.bind_some, hr, Option.bind_some]
    split <;> rfl
  have hcc : UInt8.ofNat ((c.toNat : Int)).toNat = c := by rw [Int.toNat_natCast]; exact UInt8.ofNat_toNat
  have hci : c = s.getD i 0 := UInt8.toNat_inj.1 hcl
  rcases ib_spec c (s.drop (i + 1)) with ⟨h3, h4⟩ | ⟨j, h3, h4, h5, h6⟩
  · have := key (-1) (by unfold strings_IndexByte; rw [hcc, h3])
    refine ⟨s.length, hi, Nat.le_refl _, fun a a1 a2 he => h4 ?_, fun hh => by omega, by rw [this, if_pos (by omega), if_pos rfl]⟩
    have : s.getD a 0 = c := UInt8.toNat_inj.1 (by rw [hcl]; exact he)
    rw [List.getD_eq_getElem?_getD, List.getElem?_eq_getElem a2] at this
    rw [List.mem_iff_getElem]
    exact ⟨a - (i + 1), by simp; omega, by rw [List.getElem_drop, ← this]; simp [show i + 1 + (a - (i + 1)) = a by omega]⟩
  · have := key (j : Int) (by unfold strings_IndexByte; rw [hcc, h3])
    rw [List.length_drop] at h4
    rw [gd] at h5
    refine ⟨i + 1 + j, by omega, by omega, fun a a1 a2 he => h6 (a - (i + 1)) (by omega) ?_, fun _ => ?_, ?_⟩
    · rw [gd, show i + 1 + (a - (i + 1)) = a by omega]
      exact UInt8.toNat_inj.1 (by rw [hcl]; exact he)
    · unfold ltr; rw [h5, hci]
    · rw [this, if_neg (by omega), if_neg (by omega), w64_id (by omega) (by omega)]
      congr 2
/-- the fewest loads for each number of places -/
theorem fews : ∃ f : Nat → Int, (∀ p : Nat, 1 ≤ p → p ≤ 6 → (∃ pl, impl_bestLoading s (p : Int) = some pl ∧ impl_loadsOf s (p : Int) pl = some (f p)) ∧ impl_FewestLoads s (p : Int) = some (f p, 0) ∧ kinds s s.length ≤ f p ∧ f p ≤ (s.length : Int) ∧ (kinds s s.length ≤ (p : Int) → f p = kinds s s.length)) ∧
    (∀ p q : Nat, 1 ≤ q → q ≤ p → p ≤ 6 → f p ≤ f q) := by
  have hex : ∀ p : Nat, ∃ pl : List Int, 1 ≤ p ∧ p ≤ 6 → GPlan s p pl ∧ impl_FewestLoads s (p : Int) = some (ldc s p pl s.length, 0) ∧ impl_bestLoading s (p : Int) = some pl := fun p => by
    by_cases hp : 1 ≤ p ∧ p ≤ 6
    · obtain ⟨pl, g1, g2, g3, g4⟩ := best_ok h hp
      exact ⟨pl, fun _ => ⟨g1, g3, g4⟩⟩
    · exact ⟨[], fun hc => absurd hc hp⟩
  obtain ⟨P, hP⟩ := Classical.axiomOfChoice hex
  refine ⟨fun p => ldc s p (P p) s.length, fun p h1 h2 => ?_, fun p q h1 h2 h3 => ?_⟩
  · obtain ⟨g1, g2, g3⟩ := hP p ⟨h1, h2⟩
    refine ⟨⟨P p, g3, loadsOf_eq h ⟨h1, h2⟩ g1.ok⟩, g2, kinds_le h (Nat.le_refl _), (ldc_bd s p (P p) s.length).2, fun hk => ?_⟩
    have a1 := rule_ge h ⟨h1, h2⟩ g1 false
    have a2 := (ost_all (s := s) (p := p) (ag := false) hk).2.2
    have a3 := kinds_le h (p := p) (pl := P p) (Nat.le_refl s.length)
    show ldc s p (P p) s.length = _
    omega
  · obtain ⟨g1, g2, g3⟩ := hP p ⟨by omega, h3⟩
    obtain ⟨f1, f2, f3⟩ := hP q ⟨h1, by omega⟩
    exact few_le h.pos g1 h2 f1.ok.2
end
end Go.Vs.G

namespace Go.Vs.G
open Go Go.Vs

theorem LeastPlaces_ok {s : List UInt8} (h : shw s) {f : Nat → Int} (hf : ∀ p : Nat, 1 ≤ p → p ≤ 6 → ∃ pl, impl_bestLoading s (p : Int) = some pl ∧ impl_loadsOf s (p : Int) pl = some (f p)) {n : Int} (hn : 0 ≤ n ∧ n ≤ 40) :
    wp (impl_LeastPlaces s n) (fun r => (∃ p : Nat, 1 ≤ p ∧ p ≤ 6 ∧ f p ≤ n ∧ (∀ q, 1 ≤ q → q < p → n < f q) ∧ r = ((p : Int), 0)) ∨ ((∀ q, 1 ≤ q → q ≤ 6 → n < f q) ∧ r = (0, 3))) := by
  unfold impl_LeastPlaces
  rw [ValidShowing_t h, Option.bind_some, if_pos rfl, within_eqR, Option.bind_some, decide_eq_true (by omega), if_pos rfl]
  refine wp_loop (fun t : Int => ∃ k : Nat, t = (k : Int) ∧ 1 ≤ k ∧ k ≤ 7 ∧ ∀ q, 1 ≤ q → q < k → n < f q) (fun t => (7 - t).toNat) ⟨1, rfl, by omega, by omega, fun q h1 h2 => by omega⟩ (by omega) ?_
  rintro t ⟨k, rfl, k1, k2, k3⟩
  refine wp_ite (fun hk => ?_) (fun hk => wp_some (wp_some (.inr ⟨fun q h1 h2 => k3 q h1 (by omega), rfl⟩)))
  obtain ⟨pl, g1, g2⟩ := hf k k1 (by omega)
  rw [g1, Option.bind_some, g2, Option.bind_some]
  refine wp_ite (fun hle => wp_some (wp_some (.inl ⟨k, k1, by omega, hle, k3, rfl⟩))) (fun hle => ?_)
  rw [succ_eq (by omega)]
  refine wp_some ⟨⟨k + 1, rfl, by omega, by omega, fun q h1 h2 => ?_⟩, by omega⟩
  by_cases hq : q = k
  · rw [hq]; omega
  · exact k3 q h1 (by omega)
theorem laws_FnLoadPlans_true {code more : List Int} (hc : okL (okI .u8) code) (hm : okL (okI .u8) more) : laws_FnLoadPlans code more = some true := by
  refine eq_of_wp ?_
  unfold laws_FnLoadPlans
  obtain ⟨r, hr, hr2⟩ := a2Long_eq code more
  rw [hr, Option.bind_some]
  refine wp_ite (fun h => wp_some rfl) (fun hf => ?_)
  obtain ⟨l1, l2⟩ := hr2 (by simpa using hf)
  refine wp_seq (A2Showing_ok hc (by omega)) fun s hs => ?_
  have h : shw s := ⟨hs.1, by omega⟩
  have h2 := hs.2
  have hk := kinds_bd s s.length
  obtain ⟨f, hf1, hf2⟩ := fews h
  rw [SlidesIn_eq h, Option.bind_some]
  simp only [if_true]
  rw [if_neg (by omega), decide_eq_false (by omega), Option.bind_some, if_neg (by simp)]
  refine wp_cnt (fun k => ((if k = 0 then (s.length : Int) else f k), tab (fun i => f (i + 1)) k, ((k + 1 : Nat) : Int))) 6 (by rw [tab_zero]; rfl) (by omega) (fun k hk6 => ?_) (b := tab (fun i => f (i + 1)) 6) ?_ ?_
  · obtain ⟨g1, g2, g3, g4, g5⟩ := hf1 (k + 1) (by omega) (by omega)
    have hlast : f (k + 1) ≤ (if k = 0 then (s.length : Int) else f k) := by
      split
      · exact g4
      · exact hf2 (k + 1) k (by omega) (by omega) (by omega)
    simp only
    rw [if_pos (by omega), g2, Option.bind_some]
    simp only [if_true]
    rw [if_neg (by omega), if_neg (by omega)]
    have e1 : ((if ((k + 1 : Nat) : Int) ≥ kinds s s.length then (some (!(decide (f (k + 1) = kinds s s.length)))) else some false) : Option Bool) = some false := by
      by_cases hq : ((k + 1 : Nat) : Int) ≥ kinds s s.length
      · rw [if_pos hq, decide_eq_true (g5 hq)]; rfl
      · rw [if_neg hq]
    rw [e1, Option.bind_some, if_neg (by simp), app_ok (by simp; omega), Option.bind_some, succ_eq (by omega), tab_succ]
    rfl
  · simp only
    rw [if_neg (by omega)]
  obtain ⟨n, hn, n0, n1⟩ := a2At_ok hm l2 (i := 0) (n := 20) (by omega) (by omega)
  rw [hn, Option.bind_some]
  refine wp_seq (LeastPlaces_ok h (fun p p1 p2 => (hf1 p p1 p2).1) (n := n) ⟨n0, by omega⟩) fun r hr => ?_
  rw [tab_length, w64_id (by omega) (by omega)]
  -- the last loop that looks for the least number of places
  refine wp_loop (fun t : Int × Int => ∃ k : Nat, t.2 = (k : Int) - 1 ∧ k ≤ 6 ∧ ((t.1 = 0 ∧ ∀ q, k + 1 ≤ q → q ≤ 6 → n < f q) ∨ ∃ p : Nat, t.1 = (p : Int) ∧ k + 1 ≤ p ∧ p ≤ 6 ∧ f p ≤ n ∧ ∀ q, k + 1 ≤ q → q < p → n < f q)) (fun t => (t.2 + 1).toNat)
    ⟨6, rfl, by omega, .inl ⟨rfl, fun q q1 q2 => by omega⟩⟩ (by simp only; omega) ?_
  rintro ⟨want, i⟩ ⟨k, rfl, k1, k2⟩
  simp only at k2 ⊢
  refine wp_ite (fun hi => ?_) (fun hi => ?_)
  · obtain ⟨j, rfl⟩ : ∃ j, k = j + 1 := ⟨k - 1, by omega⟩
    rw [show ((j + 1 : Nat) : Int) - 1 = (j : Int) by omega, tab_at (by omega) (by omega), Option.bind_some, Int.toNat_natCast, w64_id (n := (j : Int) - 1) (by omega) (by omega), succ_eq (by omega)]
    refine wp_ite (fun hle => wp_some ⟨⟨j, rfl, by omega, .inr ⟨j + 1, rfl, by omega, by omega, hle, fun q q1 q2 => by omega⟩⟩, by simp only; omega⟩) (fun hle => wp_some ⟨⟨j, rfl, by omega, ?_⟩, by simp only; omega⟩)
    rcases k2 with ⟨w0, w1⟩ | ⟨p, p1, p2, p3, p4, p5⟩
    · refine .inl ⟨w0, fun q q1 q2 => ?_⟩
      by_cases hq : q = j + 1
      · rw [hq]; omega
      · exact w1 q (by omega) q2
    · refine .inr ⟨p, p1, by omega, p3, p4, fun q q1 q2 => ?_⟩
      by_cases hq : q = j + 1
      · rw [hq]; omega
      · exact p5 q (by omega) q2
  · have hk0 : k = 0 := by omega
    subst hk0
    refine wp_some ?_
    simp only
    have e2 : ((if want = 0 then
 (if r.2 = 3 then
 (if want > 0 then
 (if r.2 = 0 then
 (some (!(decide (r.1 = want))))
 else
 some true)
 else
 some false)
 else
 some true)
 else
 if want > 0 then
 (if r.2 = 0 then
 (some (!(decide (r.1 = want))))
 else
 some true)
 else
 some false) : Option Bool) = some false := by
      rcases k2 with ⟨w0, w1⟩ | ⟨p, p1, p2, p3, p4, p5⟩
      · rcases hr with ⟨q, q1, q2, q3, q4, q5⟩ | ⟨q1, q2⟩
        · have := w1 q (by omega) q2
          omega
        · rw [q2, if_pos w0, if_pos rfl, if_neg (by omega)]
      · rcases hr with ⟨q, q1, q2, q3, q4, q5⟩ | ⟨q1, q2⟩
        · have hpq : p = q := by
            rcases Nat.lt_trichotomy p q with hlt | heq | hgt
            · have := q4 p (by omega) hlt; omega
            · exact heq
            · have := p5 q (by omega) hgt; omega
          subst hpq
          rw [q5, if_neg (by omega), if_pos (by omega), if_pos rfl, p1]
          simp
        · have := q1 p (by omega) p3
          omega
    rw [e2, Option.bind_some, if_neg (by simp)]
    refine wp_cnt (fun k => (k : Int)) s.length rfl (by omega) (fun i hi2 => ?_) (b := ()) ?_ (wp_some rfl)
    · obtain ⟨j, j1, j2, j3, j4, j5⟩ := NextShown_eq h hi2
      rw [if_pos (by omega), j5, Option.bind_some]
      obtain ⟨c0, hc0, hcl0⟩ := at_ltr hi2
      have hstep : wp (onL (loop (S := Int) (B := Int) (R := Empty) (fun (next_1 : Int) =>
 ((if next_1 < (s.length : Int) then
 ((at? s next_1).bind fun c1 =>
 (at? s (i : Int)).bind fun c2 =>
 some (!(decide ((c1.toNat : Int) = (c2.toNat : Int)))))
 else
 some false) : Option Bool).bind fun (x4 : Bool) =>
 if x4 then
 (some (.next (w64 (next_1 + 1))))
 else
 some (.brk next_1)) loopLim (w64 ((i : Int) + 1))) (fun b => some b) Empty.elim) (fun b => b = (j : Int)) := by
        rw [succ_eq (by omega)]
        refine wp_loop (fun t : Int => ∃ u : Nat, t = (u : Int) ∧ i + 1 ≤ u ∧ u ≤ j) (fun t => (100 - t).toNat) ⟨i + 1, rfl, by omega, by omega⟩ (by omega) ?_
        rintro t ⟨u, rfl, u1, u2⟩
        by_cases hu : (u : Int) < (s.length : Int)
        · obtain ⟨c, hcu, hclu⟩ := at_ltr (s := s) (i := u) (by omega)
          rw [if_pos hu, hcu, Option.bind_some, hc0, Option.bind_some, Option.bind_some, hclu, hcl0]
          by_cases hq : u = j
          · subst hq
            rw [decide_eq_true (by rw [j4 (by omega)]), if_neg (by simp)]
            exact wp_some (wp_some rfl)
          · rw [decide_eq_false (fun he => j3 u (by omega) (by omega) (by omega)), if_pos (by simp), succ_eq (by omega)]
            exact wp_some ⟨⟨u + 1, rfl, by omega, by omega⟩, by omega⟩
        · rw [if_neg hu, Option.bind_some, if_neg (by simp)]
          have : u = j := by omega
          subst this
          exact wp_some (wp_some rfl)
      obtain ⟨b, hb, rfl⟩ := hstep
      have hlo : ∀ {γ : Type} (o : Option (Out Int Empty)) (kb : Int → Option γ), onL o (fun b => some b) Empty.elim = some (j : Int) → onL o kb Empty.elim = kb (j : Int) := fun o kb ho => by
        match o, ho with
        | some (.brk b), ho => 
          have : b = (j : Int) := Option.some.inj ho
          rw [← this]; rfl
      rw [hlo _ _ hb]
      by_cases hj : j = s.length
      · rw [if_pos hj, if_pos (by omega)]
        simp only [if_true]
        rw [if_neg (by omega), Option.bind_some, if_neg (by simp), succ_eq (by omega)]
      · rw [if_neg hj, if_neg (by omega), if_pos (by omega)]
        simp only [if_true]
        simp only [decide_true, Bool.not_true, Option.bind_some, Bool.false_eq_true, if_false]
        rw [succ_eq (by omega)]
    · rw [if_neg (by omega)]
end Go.Vs.G

