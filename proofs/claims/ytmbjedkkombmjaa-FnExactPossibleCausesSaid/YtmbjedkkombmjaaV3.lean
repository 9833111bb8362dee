/- The framework by which this claim is proved, part 3 of 6: an interpreter of the program over value trees, and its soundness. No conditions. -/
import Derived.Test.YtmbjedkkombmjaaV2
import Derived.Laws.Strings2
/- Slice expressions; largest and least. -/
namespace Go.Vs
open Go

section
variable {P : Program} {ids : Nat → Nat} {S S' A : Nat → Prop} {N : Nat} {ρ : Roots} {fix : List Nat} {w w' : World} {tm : Array Value} {ds : List Deferred} {E : Env} {obs obs' : Nat → List Nat}
variable {K : Act → World → Prop} {Q : Exit → Act → World → Prop} {H : List Nat}

theorem run_bounds {isS : Bool} {len cap l hh : Nat} {lo hi : Option Value} (h1 : (hi = none ∧ hh = len) ∨ ∃ kk, hi = some (.int kk hh)) (h2 : (lo = none ∧ l = 0) ∨ ∃ kk, lo = some (.int kk l)) (h3 : l ≤ hh) (h4 : hh ≤ cap) :
    (Instr.sliceBounds isS len cap lo hi none).run P w = .ok (l, hh, cap) w := by
  unfold Instr.sliceBounds
  have b1 : (0 : Int) ≤ (hh : Int) ∧ (hh : Int) ≤ (cap : Int) := by omega
  have b2 : (0 : Int) ≤ (l : Int) ∧ (l : Int) ≤ (hh : Int) := by omega
  rcases h1 with ⟨rfl, rfl⟩ | ⟨kk, rfl⟩ <;> rcases h2 with ⟨rfl, rfl⟩ | ⟨kk', rfl⟩ <;> simp [run_sliceBound, h3, h4]

theorem sliceOf_sound {t : TypeId} {sz : Nat} (h : sliceOf P t sz = true) : ∃ e i, P.underlying t = some (.slice e) ∧ P.info? e = some i ∧ i.size = sz ∧ 0 < sz := by
  unfold sliceOf at h
  split at h
  · rename_i e he
    obtain ⟨i, h1, h2, h3⟩ := szOk_sound h
    exact ⟨e, i, he, h1, h2, h3⟩
  · cases h

theorem sound_slc {o : Oper} {ty : TypeId} {x : Operand} {lo hi : Option Operand} {d sz : Nat} {str : Bool} {x' : Opd} {lo' hi' : Option Opd} {m : Md} {σ : Oracle} {ws : Env} (h : Inv ids S A N ρ fix w tm E obs []) (hd : d < N) (hf : d ∉ fix)
    (hop : o.op = .slice ty x lo hi none) (ho : o.dst = some d) (hx : opdOk ids x x' = true) (hlo : opdOk? ids lo lo' = true) (hhi : opdOk? ids hi hi' = true)
    (hty : (if str then isString P ty else sliceOf P ty sz) = true)
    (hs : stepI σ ρ fix E (.slc d str sz x' lo' hi' m) = some ws)
    (hK : ∀ a' w', After ids S A N ρ fix w tm ds E [d] ws a' w' → K a' w') : o.wp P ⟨tm, ds⟩ w K Q := by
  simp only [stepI, Option.bind_eq_some_iff] at hs
  obtain ⟨⟨t, ws0⟩, ht, n, hn, hh, hhh, l, hl, hs⟩ := hs
  simp only at hn hs
  split at hs
  · rename_i hc
    obtain ⟨hlh, hhn⟩ := hc
    split at hn
    · rename_i hst
      obtain ⟨S', obs', ob, h1, h2, h3, h4, h5⟩ := h.take (ds := ds) (opdOk_sound hx) ht
      have r1 := opd?_sound (ds := ds) h hhi hhh
      have r2 := opd?_sound (ds := ds) h hlo hl
      have q1 : (hi.map (Act.mk tm ds).eval = none ∧ hh = n) ∨ ∃ kk, hi.map (Act.mk tm ds).eval = some (.int kk hh) := by
        rcases r1 with ⟨rfl, e⟩ | ⟨o', kk, rfl, e⟩
        · exact .inl ⟨rfl, e⟩
        · exact .inr ⟨kk, by simp [e]⟩
      have q2 : (lo.map (Act.mk tm ds).eval = none ∧ l = 0) ∨ ∃ kk, lo.map (Act.mk tm ds).eval = some (.int kk l) := by
        rcases r2 with ⟨rfl, e⟩ | ⟨o', kk, rfl, e⟩
        · exact .inl ⟨rfl, e⟩
        · exact .inr ⟨kk, by simp [e]⟩
      -- what was taken is shared from now on
      have hsh := rep_shr (S' := fun b => S' b ∨ b ∈ ob) (fun b h => .inl h) _ _ ob (fun b h => .inr h) h2
      have h1' : Inv ids (fun b => S' b ∨ b ∈ ob) A N ρ fix w tm (ws0 ++ E) obs' ([] ++ []) := by
        have hh1 : Inv ids S' A N ρ fix w tm (ws0 ++ E) obs' ob := by simpa using h1
        refine { hh1 with slot := fun s => ?_, own := fun s b hb => ?_, hnd := by simp, hap := by simp, st := fun b hb => ?_ }
        · have h0 := hh1.slot s
          simp only [SlotOk] at h0 ⊢
          split at h0
          · exact rep_mono (fun _ h => .inl h) (fun _ _ => rfl) _ _ _ (fun _ _ => rfl) h0
          · exact h0
          · exact h0
          · exact h0
          · exact h0
          · exact h0
        · obtain ⟨g1, g2, g3⟩ := hh1.own s b hb
          exact ⟨fun hx => hx.elim g1 (fun hx => (hh1.hap b hx).2.2.2 s hb), g2, g3⟩
        · exact hb.elim (hh1.st b) (fun hx => (hh1.hap b hx).2.2.1)
      have hS1 : ∀ b, S b → S' b ∨ b ∈ ob := fun b hb => .inl (h3 b hb)
      have hS2 : ∀ b, S' b ∨ b ∈ ob → S b ∨ A b := by
        intro b hb
        rcases hb with hb | hb
        · exact h4 b hb
        · have hh1 : Inv ids S' A N ρ fix w tm (ws0 ++ E) obs' ob := by simpa using h1
          exact .inr (hh1.hap b hb).2.1
      cases str with
      | true =>
        have hts := isString_sound (by simpa using hty)
        unfold Tree.len at hn
        split at hn <;> simp only [if_true, Option.some.injEq, reduceCtorEq] at hn
        rename_i s heq
        subst hn
        rw [heq] at hsh
        simp only [heq, Option.some.injEq] at hs; subst hs
        simp only [Rep] at hsh
        refine after_fin (t := .str ((s.take hh).drop l)) (v := .string ⟨((s.take hh).drop l).toArray⟩) (ob := []) (H := []) h1' ho hd hf ?_ (by simp [Rep]) (Evo.refl A w) hS1 hS2 hK
        have hb := run_bounds (P := P) (w := w) (isS := false) (cap := s.length) q1 q2 hlh hhn
        unfold execOp
        simp only [hop, hsh.1, run_sliceAt_string w ty _ _ _ _ hts, Instr.slice, Sem.run_bind, run_underlying hts, Result.andThen_ok]
        simp only [Option.map_none, Option.isSome_none, Bool.false_eq_true, if_false, size_mk, Sem.run_bind, hb, Result.andThen_ok, Sem.run_pure, ByteArray.extract_mk]
        have : List.take (hh - l) (List.drop l s) = List.drop l (List.take hh s) := by rw [List.drop_take]
        rw [this]
      | false =>
        obtain ⟨e, i, hts, hi', hisz, hipos⟩ := sliceOf_sound (P := P) (t := ty) (sz := sz) (by simpa using hty)
        have hel : P.elem ty = e := by simp [Program.elem, hts]
        have hts' : P.underlying ty = some (.slice (P.elem ty)) := by rw [hel]; exact hts
        have run : ∀ aa cap, (Act.mk tm ds).eval x = .slice aa n cap → n ≤ cap → (execOp (Act.mk tm ds).eval o).run P w = .ok (.value (.slice (if cap = l then aa else aa.map (·.add (l * i.size))) (hh - l) (cap - l))) w := by
          intro aa cap hv hle
          have hb := run_bounds (P := P) (w := w) (isS := true) (cap := cap) q1 q2 hlh (by omega)
          unfold execOp
          simp only [hop, hv, run_sliceAt_slice w ty _ _ _ _ hts', Instr.slice, Sem.run_bind, run_underlying hts, Result.andThen_ok, Option.map_none, hb, run_sizeOf hi', Sem.run_pure]
        unfold Tree.len at hn
        split at hn <;> simp only [if_false, Bool.false_eq_true, Option.some.injEq, reduceCtorEq] at hn
        · rename_i heq
          simp [heq] at hs
        · rename_i ow sz0 es heq
          subst hn
          rw [heq] at hsh
          simp only [heq] at hs
          have hsz : sz = sz0 := by
            by_cases hq : sz = sz0
            · exact hq
            · simp [hq] at hs
          subst hsz
          simp only [if_true, Option.some.injEq] at hs; subst hs
          have how : ow = false := by
            cases t <;> simp only [Tree.shr, reduceCtorEq, Tree.sl.injEq] at heq <;> exact heq.1.symm
          subst how
          simp only [Rep] at hsh
          obtain ⟨_, hpos, aa, cap, hv, hle, h6⟩ := hsh
          have hrun := run aa cap hv hle
          have hlen : ((es.take hh).drop l).length = hh - l := by simp; omega
          refine after_fin (t := .sl false sz ((es.take hh).drop l)) (ob := []) (H := []) h1' ho hd hf hrun ?_ (Evo.refl A w) hS1 hS2 hK
          simp only [Rep, hlen]
          refine ⟨trivial, hpos, _, cap - l, rfl, by omega, ?_⟩
          by_cases hem : hh - l = 0
          · exact .inl (List.eq_nil_of_length_eq_zero (by omega))
          · right
            rcases h6 with h6 | ⟨b, off, rfl, hSb, hes⟩
            · subst h6; simp at hhn; omega
            · have hcl : ¬ cap = l := by omega
              refine ⟨b, off + l * i.size, by simp [hcl, Addr.add_lit], hSb, ?_⟩
              rw [hisz]
              exact repEs_sub hes hlh hhn rfl
    · cases hn
  · cases hs

theorem zeroConst_sound {x : Operand} (h : zeroConst x = true) : ∃ k, (Act.mk tm ds).eval x = .int k 0 := by
  unfold zeroConst at h
  split at h
  · rename_i k; exact ⟨k, rfl⟩
  · cases h

theorem sound_slc0 {o : Oper} {ty : TypeId} {x hi mx : Operand} {d : Nat} {x' : Opd} {σ : Oracle} {ws : Env} (h : Inv ids S A N ρ fix w tm E obs []) (hd : d < N) (hf : d ∉ fix)
    (hop : o.op = .slice ty x none (some hi) (some mx)) (ho : o.dst = some d) (hx : opdOk ids x x' = true) (h1 : zeroConst hi = true) (h2 : zeroConst mx = true) (hty : isSlice P ty = true)
    (hs : stepI σ ρ fix E (.slc0 d x') = some ws)
    (hK : ∀ a' w', After ids S A N ρ fix w tm ds E [d] ws a' w' → K a' w') : o.wp P ⟨tm, ds⟩ w K Q := by
  simp only [stepI, Option.bind_eq_some_iff] at hs
  obtain ⟨t, ht, hs⟩ := hs
  obtain ⟨ob, hrep, _⟩ := h.peek (ds := ds) (opdOk_sound hx) ht
  obtain ⟨e, i, hts, hi', hipos⟩ := isSlice_sound hty
  have hel : P.elem ty = e := by simp [Program.elem, hts]
  have hts' : P.underlying ty = some (.slice (P.elem ty)) := by rw [hel]; exact hts
  obtain ⟨k1, e1⟩ := zeroConst_sound (tm := tm) (ds := ds) h1
  obtain ⟨k2, e2⟩ := zeroConst_sound (tm := tm) (ds := ds) h2
  have go : ∀ aa n cap, (Act.mk tm ds).eval x = .slice aa n cap → ∀ z, 0 < z → ws = wr ρ d (.tree (.nil z)) → o.wp P ⟨tm, ds⟩ w K Q := by
    rintro aa n cap hv z hz rfl
    refine after_tree h ho hd hf (v := .slice aa 0 0) ?_ (by simp [Rep, hz]) hK
    unfold execOp
    simp only [hop, hv, Option.map_none, Option.map_some, e1, e2, run_sliceAt_slice w ty _ _ _ _ hts', Instr.slice, Sem.run_bind, run_underlying hts, Result.andThen_ok]
    simp [Instr.sliceBounds, run_sliceBound, run_sizeOf hi']
  split at hs
  · rename_i ow sz es
    simp only [Option.some.injEq] at hs
    cases ow with
    | true =>
      simp only [Rep] at hrep
      rcases hrep with ⟨_, hv, _, hz⟩ | ⟨b, cap, ob', hv, _, hz, _⟩
      · exact go _ _ _ hv _ hz hs.symm
      · exact go _ _ cap hv _ hz hs.symm
    | false => simp only [Rep] at hrep; obtain ⟨_, hz, aa, cap, hv, _⟩ := hrep; exact go _ _ cap hv _ hz hs.symm
  · simp only [Option.some.injEq] at hs
    simp only [Rep] at hrep
    obtain ⟨⟨aa, hv⟩, _, hz⟩ := hrep
    exact go aa 0 0 hv _ hz hs.symm
  · cases hs

/-- max and min of integers -/
theorem mm_fold {mx : Bool} {k : IntKind} (h : Inv ids S A N ρ fix w tm E obs []) : ∀ (ys : List Operand) (xs : List Opd) (a a' : Int), opdsOk ids ys xs = true → mmAll E mx k xs a = some a' →
    (List.foldlM (if mx then Builtin.max2 else Builtin.min2) (.int k a) (ys.map (Act.mk tm ds).eval)).run P w = .ok (.int k a') w
  | [], [], a, a', _, hs => by
    simp only [mmAll, Option.some.injEq] at hs; subst hs
    rfl
  | [], _ :: _, _, _, h, _ => by simp [opdsOk] at h
  | _ :: _, [], _, _, h, _ => by simp [opdsOk] at h
  | y :: ys, x :: xs, a, a', ho, hs => by
    simp only [opdsOk, Bool.and_eq_true] at ho
    simp only [mmAll, Option.bind_eq_some_iff] at hs
    obtain ⟨t, hp, hs⟩ := hs
    split at hs
    · rename_i k' b
      split at hs
      · rename_i hk; subst hk
        have e1 := h.peekInt (ds := ds) ho.1 hp
        have ih := mm_fold h ys xs _ a' ho.2 hs
        rw [List.map_cons, List.foldlM_cons, e1]
        cases mx
        · exact ih
        · exact ih
      · cases hs
    · cases hs

theorem sound_mm {o : Oper} {c : Call} {y : Operand} {ys : List Operand} {d : Nat} {mx : Bool} {x' : Opd} {xs : List Opd} {σ : Oracle} {ws : Env} (h : Inv ids S A N ρ fix w tm E obs []) (hd : d < N) (hf : d ∉ fix)
    (hop : o.op = .call c) (hcal : c.callee = .builtin (if mx then .max else .min)) (hargs : c.args.toList = y :: ys) (ho : o.dst = some d) (hx : opdOk ids y x' = true) (hxs : opdsOk ids ys xs = true)
    (hs : stepI σ ρ fix E (.mm d mx x' xs) = some ws)
    (hK : ∀ a' w', After ids S A N ρ fix w tm ds E [d] ws a' w' → K a' w') : o.wp P ⟨tm, ds⟩ w K Q := by
  simp only [stepI, Option.bind_eq_some_iff] at hs
  obtain ⟨t, ht, hs⟩ := hs
  split at hs
  · rename_i k a
    simp only [Option.bind_eq_some_iff, Option.some.injEq] at hs
    obtain ⟨a', ha', rfl⟩ := hs
    have e1 := h.peekInt (ds := ds) hx ht
    have hfold := mm_fold (P := P) (ds := ds) h ys xs a a' hxs ha'
    have hal : (c.args.map (Act.mk tm ds).eval).toList = .int k a :: ys.map (Act.mk tm ds).eval := by
      rw [Array.toList_map, hargs, List.map_cons, e1]
    refine after_tree h ho hd hf (v := .int k a') ?_ (by simp [Rep]) hK
    unfold execOp
    cases mx with
    | true =>
      simp only [if_true] at hcal hfold
      simp only [hop, resolve, hcal, invoke, builtin, Sem.run_bind, Sem.run_pure, Result.andThen_ok, Builtin.max_, hal, hfold]
    | false =>
      simp only [Bool.false_eq_true, if_false] at hcal hfold
      simp only [hop, resolve, hcal, invoke, builtin, Sem.run_bind, Sem.run_pure, Result.andThen_ok, Builtin.min_, hal, hfold]
  · cases hs
end
end Go.Vs
/- Appends. -/
namespace Go.Vs
open Go

section
variable {P : Program} {ids : Nat → Nat} {S S' A : Nat → Prop} {N : Nat} {ρ : Roots} {fix : List Nat} {w w' : World} {tm : Array Value} {ds : List Deferred} {E : Env} {obs obs' : Nat → List Nat}
variable {K : Act → World → Prop} {Q : Exit → Act → World → Prop} {H : List Nat}

/-- elements read from one row stand in any other row that holds the same cells -/
theorem repEs_copy {sz : Nat} (hsz : 0 < sz) : ∀ (es : List Tree) (b off : Nat) (ob : List Nat), RepEs ids S w es sz b off ob →
    ∃ us : List Value, us.length = es.length * sz ∧ (∀ u, u ∈ us → u.oneCell' = true) ∧ (∀ j u, us[j]? = some u → w.cell? ⟨b, off + j, none⟩ = some u) ∧
      ∀ (S' : Nat → Prop) (w' : World) (b' off' : Nat), (∀ x, S x → S' x) → (∀ x, S x → w'.heap[x]? = w.heap[x]?) → (∀ x, x ∈ ob → w'.heap[x]? = w.heap[x]?) →
        (∀ j u, us[j]? = some u → w'.cell? ⟨b', off' + j, none⟩ = some u) → RepEs ids S' w' es sz b' off' ob
  | [], b, off, ob, h => by
    simp only [RepEs] at h
    exact ⟨[], by simp, by simp, by simp, fun S' w' b' off' _ _ _ _ => by simp only [RepEs]; exact h⟩
  | e :: es, b, off, ob, h => by
    simp only [RepEs, repE_iff] at h
    obtain ⟨ob1, ob2, ⟨hl, hcs⟩, hrest, rfl⟩ := h
    obtain ⟨vs, v1, v2, v3, v4⟩ := repCs_load _ _ _ _ hcs
    obtain ⟨us, u1, u2, u3, u4⟩ := repEs_copy hsz es b (off + sz) ob2 hrest
    have hvl : vs.length = sz := by omega
    refine ⟨vs ++ us, ?_, ?_, ?_, ?_⟩
    · simp only [List.length_append, List.length_cons, Nat.succ_mul]; omega
    · intro u hu
      rcases List.mem_append.1 hu with hu | hu
      · exact v3 u hu
      · exact u2 u hu
    · intro j u hj
      by_cases hjs : j < sz
      · rw [List.getElem?_append_left (by omega)] at hj
        exact v4 j u hj
      · rw [List.getElem?_append_right (by omega)] at hj
        have := u3 (j - vs.length) u hj
        rwa [show off + sz + (j - vs.length) = off + j by omega] at this
    · intro S' w' b' off' hS hw hob hc
      simp only [RepEs, repE_iff]
      refine ⟨ob1, ob2, ⟨hl, ?_⟩, ?_, rfl⟩
      · refine repCs_row _ vs _ _ _ (repL_mono hS hw _ _ _ (fun x hx => hob x (by simp [hx])) v2) v3 fun j u hj => ?_
        have hlt := (List.getElem?_eq_some_iff.1 hj).1
        exact hc j u (by rw [List.getElem?_append_left hlt]; exact hj)
      · refine u4 S' w' b' (off' + sz) hS hw (fun x hx => hob x (by simp [hx])) fun j u hj => ?_
        have := hc (sz + j) u (by rw [List.getElem?_append_right (by omega)]; rw [show sz + j - vs.length = j by omega]; exact hj)
        rwa [show off' + (sz + j) = off' + sz + j by omega] at this

/-- the world changes where no slot looks -/
theorem Inv.world (h : Inv ids S A N ρ fix w tm E obs H) (hsz : w.heap.size ≤ w'.heap.size) (hS : ∀ b, S b → w'.heap[b]? = w.heap[b]?)
    (hO : ∀ s b, b ∈ obs s → w'.heap[b]? = w.heap[b]?) : Inv ids S A N ρ fix w' tm E obs H :=
  { h with
    slot := fun s => by
      have h0 := h.slot s
      simp only [SlotOk] at h0 ⊢
      split at h0
      · exact rep_mono (fun _ h => h) hS _ _ _ (hO s) h0
      · rename_i r p ht
        refine ⟨h0.1, fun T n hT hp => ?_⟩
        have hr := h.slot r
        simp only [SlotOk, hT] at hr
        rw [vAt_frame p T n _ _ hr (hO r) hp]
        exact h0.2 T n hT hp
      · rename_i r p i j ht
        refine ⟨h0.1, fun T n e hT hp he => ?_⟩
        have hr := h.slot r
        simp only [SlotOk, hT] at hr
        rw [vAt_frame p T n _ _ hr (hO r) hp]
        exact h0.2 T n e hT hp he
      · exact h0
      · exact h0
      · exact h0
    own := fun s b hb => ⟨(h.own s b hb).1, (h.own s b hb).2.1, by have := (h.own s b hb).2.2; omega⟩
    hap := fun b hb => by obtain ⟨g1, g2, g3, g4⟩ := h.hap b hb; exact ⟨g1, g2, by omega, g4⟩
    st := fun b hb => by have := h.st b hb; omega
    fresh := fun b hb => h.fresh b (by omega) }

theorem Inv.handSub {H' : List Nat} (h : Inv ids S A N ρ fix w tm E obs H) (hn : H'.Nodup) (hs : ∀ b, b ∈ H' → b ∈ H) : Inv ids S A N ρ fix w tm E obs H' :=
  { h with hnd := hn, hap := fun b hb => h.hap b (hs b hb) }

/-- not a make as the second argument -/
def NoMake (P : Program) (u : TypeId) : Prop := ∃ d, P.underlying u = some d ∧ ∀ k, d ≠ .int k

theorem zerosFalse {u : TypeId} (hu : NoMake P u) (w : World) :
    ((match some u with | some xType => (do pure ((← underlying xType) matches .int _)) | none => pure false : Sem Bool)).run P w = .ok false w := by
  obtain ⟨d, hd, hn⟩ := hu
  simp only [Sem.run_bind, run_underlying hd, Result.andThen_ok]
  cases d <;> first | rfl | exact absurd rfl (hn _)

theorem run_app_room {t u ty e : TypeId} {sz n sLen sCap : Nat} {i : TypeInfo} {z xv : Value} {base : Option Addr} {news : List Value} (he : ElemIs P t sz e i z) (hu : NoMake P u)
    (hlen : (Builtin.lenOf xv).run P w = .ok n w) (hfc : (Builtin.firstCells sz n xv).run P w = .ok news.toArray w) (hroom : sLen + n ≤ sCap)
    (hst : match base with | some a => (storeCells (a.add (sLen * sz)) news).run P w = .ok () w' | none => w' = w) :
    (Builtin.append_ #[t, u] ty #[.slice base sLen sCap, xv]).run P w = .ok (.slice base (sLen + n) sCap) w' := by
  have hz := zerosFalse hu w
  obtain ⟨d, hd, hn⟩ := hu
  unfold Builtin.append_
  cases base with
  | none =>
    subst hst
    simp [run_underlying he.ty, run_sizeOf he.info, he.size, run_underlying hd, hlen, hroom, hfc]
  | some a =>
    simp only at hst
    simp [run_underlying he.ty, run_sizeOf he.info, he.size, run_underlying hd, hlen, hroom, hfc, hst]

theorem run_app_grow {t u ty e : TypeId} {sz n sLen sCap : Nat} {i : TypeInfo} {z xv : Value} {base : Option Addr} {news olds : List Value} (he : ElemIs P t sz e i z) (hu : NoMake P u)
    (hlen : (Builtin.lenOf xv).run P w = .ok n w) (hfc : (Builtin.firstCells sz n xv).run P w.drew = .ok news.toArray w.drew) (hroom : ¬ sLen + n ≤ sCap)
    (hold : (Builtin.firstCells sz sLen (.slice base sLen sCap)).run P w.drew = .ok olds.toArray w.drew) (hlim : sLen + n ≤ lim) :
    (Builtin.append_ #[t, u] ty #[.slice base sLen sCap, xv]).run P w = .ok (.slice (some ⟨w.heap.size, 0, none⟩) (sLen + n) (grownCap w (sLen + n) sCap e))
      (w.drew.alloc (.cells (olds.toArray ++ news.toArray ++ Builtin.zeroCells z.cells (grownCap w (sLen + n) sCap e - (sLen + n))) e)) := by
  obtain ⟨d, hd, hn⟩ := hu
  simp only [lim] at hlim
  have hb : (sLen + n) * i.bytes ≤ 140737488355328 := by
    have := Nat.mul_le_mul hlim he.bytes; omega
  have h48 := growslice_fits (by omega : sCap < sLen + n) hb
  have h48' : ¬ (281474976710656 < Builtin.nextslicecap (sLen + n) sCap * i.bytes) := by omega
  have h63 : ¬ (9223372036854775807 < ((sLen : Int) + (n : Int))) := by omega
  unfold Builtin.append_
  simp [run_underlying he.ty, run_sizeOf he.info, he.size, he.info, typeInfo, zeroValue, he.zero, run_underlying hd, hlen, hroom, hfc, hold, h48', h63, Question.forced, newRow, grownCap]
  congr 2
  apply Array.ext'
  simp [List.append_assoc]

def Tree.elems : Tree → List Tree
  | .sl _ _ es => es
  | _ => []

/-- what append adds: the elements of the second operand -/
structure Adds (P : Program) (ids : Nat → Nat) (S : Nat → Prop) (w : World) (sz : Nat) (xv : Value) (new : List Tree) (ob : List Nat) : Prop where
  len : (Builtin.lenOf xv).run P w = .ok new.length w
  cells : ∃ us : List Value, us.length = new.length * sz ∧ (∀ u, u ∈ us → u.oneCell' = true) ∧ (∀ W : World, (∀ a, W.cell? a = w.cell? a) → (Builtin.firstCells sz new.length xv).run P W = .ok us.toArray W) ∧
    ∀ (S' : Nat → Prop) (w' : World) (b' off' : Nat), (∀ x, S x → S' x) → (∀ x, S x → w'.heap[x]? = w.heap[x]?) → (∀ x, x ∈ ob → w'.heap[x]? = w.heap[x]?) →
        (∀ j u, us[j]? = some u → w'.cell? ⟨b', off' + j, none⟩ = some u) → RepEs ids S' w' new sz b' off' ob

theorem adds_row {sz b off n cap : Nat} {new : List Tree} {ob : List Nat} (hsz : 0 < sz) (hn : new.length = n) (h : RepEs ids S w new sz b off ob) :
    Adds P ids S w sz (.slice (some ⟨b, off, none⟩) n cap) new ob := by
  subst hn
  obtain ⟨us, u1, u2, u3, u4⟩ := repEs_copy hsz new b off ob h
  refine ⟨rfl, us, u1, u2, fun W hW => ?_, u4⟩
  exact run_firstCells_some (P := P) W sz new.length _ _ _ us u1 (fun j v hj => by rw [Addr.add_lit, hW]; exact u3 j v hj)

theorem adds_none {sz : Nat} {a : Option Addr} {cap : Nat} : Adds P ids S w sz (.slice a 0 cap) [] [] := by
  refine ⟨rfl, [], by simp, by simp, fun W hW => ?_, fun S' w' b' off' _ _ _ _ => by simp [RepEs]⟩
  cases a with
  | none => rfl
  | some a => simp only [Builtin.firstCells, List.length_nil, Nat.zero_mul]; rfl

theorem firstCells_none {sz : Nat} {a : Option Addr} {cap : Nat} (W : World) : (Builtin.firstCells sz 0 (.slice a 0 cap)).run P W = .ok #[] W := by
  cases a with
  | none => rfl
  | some a => simp only [Builtin.firstCells, Nat.zero_mul]; rfl

theorem adds_str {l : List UInt8} : Adds P ids S w 1 (.string ⟨l.toArray⟩) (l.map fun (b : UInt8) => Tree.int .u8 b.toNat) [] := by
  refine ⟨by simp [Builtin.lenOf, size_mk], l.map fun (b : UInt8) => Value.int .u8 b.toNat, by simp, ?_, fun W hW => ?_, ?_⟩
  · intro u hu
    obtain ⟨b, _, rfl⟩ := List.mem_map.1 hu
    rfl
  · simp only [Builtin.firstCells, List.length_map, Sem.run_pure]
    congr 1
    apply Array.ext'
    rw [Array.toList_map, ByteArray.extract_mk]
    simp
  · intro S' w' b' off' _ _ _ hc
    refine repEs_bytes l off' fun j hj => ?_
    exact hc j _ (by simp [hj])

/-- an append, its elements at hand -/
theorem app_core {t u ty e : TypeId} {sz : Nat} {i : TypeInfo} {z sv xv : Value} {ts : Tree} {new : List Tree} {ob obn : List Nat} (he : ElemIs P t sz e i z) (hzs : z.cells.size = sz) (hu : NoMake P u)
    (hs : Rep ids S w ts sv ob) (hnd : (ob ++ obn).Nodup) (hSo : ∀ b, b ∈ ob ++ obn → ¬ S b) (hstl : ∀ b, S b → b < w.heap.size) (hlt : ∀ b, b ∈ ob ++ obn → b < w.heap.size) (ha : Adds P ids S w sz xv new obn) :
    (∀ z0, ts = .nil z0 → new.length ≤ lim → new = [] → ∃ v, (Builtin.append_ #[t, u] ty #[sv, xv]).run P w = .ok v w ∧ Rep ids S w (.nil z0) v []) ∧
    (((∃ z0, ts = .nil z0) ∧ new ≠ [] ∧ new.length ≤ lim) ∨ (∃ es, ts = .sl true sz es ∧ es.length + new.length ≤ lim ∧ sv ≠ .slice none 0 0) →
      ∃ v w' B obe, (Builtin.append_ #[t, u] ty #[sv, xv]).run P w = .ok v w' ∧
        Rep ids S w' (.sl true sz (ts.elems ++ new)) v (B :: (obe ++ obn)) ∧ (ob = [] ∧ obe = [] ∧ B = w.heap.size ∨ (∃ b, ob = b :: obe ∧ (B = b ∨ B = w.heap.size))) ∧
        w'.os = w.os ∧ w'.tape = w.tape ∧ w'.output = w.output ∧ w.heap.size ≤ w'.heap.size ∧ B < w'.heap.size ∧ ∀ x, x < w.heap.size → x ∉ ob → w'.heap[x]? = w.heap[x]?) := by
  obtain ⟨hlen, us, hul, hu1, hfc, hcopy⟩ := ha
  have hfw := hfc w (fun _ => rfl)
  have hfd := hfc w.drew (fun _ => rfl)
  constructor
  · rintro z0 rfl hl rfl
    simp only [Rep] at hs
    obtain ⟨⟨a, rfl⟩, rfl, hz0⟩ := hs
    have hus : us = [] := List.eq_nil_of_length_eq_zero (by simpa using hul)
    subst hus
    have := run_app_room (P := P) (w := w) (w' := w) (ty := ty) (base := a) (sLen := 0) (sCap := 0) he hu hlen hfw (by simp) (by cases a <;> first | rfl | simp [storeCells])
    exact ⟨_, this, by simp [Rep, hz0]⟩
  · intro hcase
    -- the old row
    have key : ∃ (es : List Tree) (base : Option Addr) (cap : Nat) (obe : List Nat) (olds : List Value), ts.elems = es ∧ sv = .slice base es.length cap ∧ es.length + new.length ≤ lim ∧
        olds.length = es.length * sz ∧ (∀ W : World, (∀ a, W.cell? a = w.cell? a) → (Builtin.firstCells sz es.length sv).run P W = .ok olds.toArray W) ∧
        (∀ (w' : World) (b' off' : Nat), (∀ x, S x → w'.heap[x]? = w.heap[x]?) → (∀ x, x ∈ obe → w'.heap[x]? = w.heap[x]?) →
          (∀ j u, olds[j]? = some u → w'.cell? ⟨b', off' + j, none⟩ = some u) → RepEs ids S w' es sz b' off' obe) ∧
        ((ob = [] ∧ obe = [] ∧ cap = 0 ∧ es = [] ∧ new ≠ []) ∨ ∃ b, ob = b :: obe ∧ base = some ⟨b, 0, none⟩ ∧ OwnBlk w b (cap * sz) ∧ es.length ≤ cap ∧ ∀ j u, olds[j]? = some u → w.cell? ⟨b, 0 + j, none⟩ = some u) := by
      rcases hcase with ⟨⟨z0, rfl⟩, hne, hl⟩ | ⟨es, rfl, hl, hnn⟩
      · simp only [Rep] at hs
        obtain ⟨⟨a, rfl⟩, rfl, _⟩ := hs
        exact ⟨[], a, 0, [], [], rfl, rfl, by simpa using hl, by simp, fun W _ => firstCells_none W, fun w' b' off' _ _ _ => by simp [RepEs], .inl ⟨rfl, rfl, rfl, rfl, hne⟩⟩
      · simp only [Rep] at hs
        rcases hs with ⟨_, e, _⟩ | ⟨b, cap, ob', rfl, rfl, h1, h2, h3, h4⟩
        · exact absurd e hnn
        obtain ⟨os, o1, o2, o3, o4⟩ := repEs_copy h1 es b 0 ob' h4
        refine ⟨es, some ⟨b, 0, none⟩, cap, ob', os, rfl, rfl, hl, o1, fun W hW => ?_, fun w' b' off' g1 g2 g3 => o4 S w' b' off' (fun _ h => h) g1 g2 g3, .inr ⟨b, rfl, rfl, h3, h2, o3⟩⟩
        exact run_firstCells_some (P := P) W sz es.length _ _ _ os o1 (fun j v hj => by rw [Addr.add_lit, hW]; exact o3 j v hj)
    obtain ⟨es, base, cap, obe, olds, hes, rfl, hlim, hol, hof, hocopy, hk⟩ := key
    rw [hes]
    have holen : (es ++ new).length = es.length + new.length := by simp
    by_cases hroom : es.length + new.length ≤ cap
    · rcases hk with ⟨_, _, rfl, rfl, hne⟩ | ⟨b, rfl, rfl, hblk, hle, ho3⟩
      · exact absurd (List.eq_nil_of_length_eq_zero (by have h9 := hroom; simp only [List.length_nil] at h9; omega)) hne
      · have hfit : es.length * sz + us.length ≤ cap * sz := by
          rw [hul, ← Nat.add_mul]; exact Nat.mul_le_mul_right _ hroom
        have hst := run_write (P := P) hblk hfit hu1
        have hrun := run_app_room (P := P) (w := w) (w' := w.setCells b (es.length * sz) us) (ty := ty) (base := some ⟨b, 0, none⟩) (sCap := cap) he hu hlen hfw hroom
          (by simpa [Addr.add_lit] using hst)
        obtain ⟨c1, c2⟩ := cells_written hblk hfit
        have hbS : ∀ x, S x → x ≠ b := fun x hx e => hSo b (by simp) (e ▸ hx)
        obtain ⟨nd1, nd2⟩ := List.nodup_cons.1 hnd
        refine ⟨_, _, b, obe, hrun, ?_, .inr ⟨b, rfl, .inl rfl⟩, (setCells_rest b us _ w).1, (setCells_rest b us _ w).2.1, (setCells_rest b us _ w).2.2, by rw [setCells_size]; exact Nat.le_refl _,
          by rw [setCells_size]; exact hlt b (by simp), fun x _ hx => setCells_heap b us _ w x (fun e => hx (by simp [e]))⟩
        simp only [Rep, holen]
        refine .inr ?_
        refine ⟨b, cap, obe ++ obn, rfl, rfl, he.pos, hroom, hblk.setCells us _ w, ?_⟩
        rw [repEs_append]
        refine ⟨obe, obn, ?_, ?_, rfl⟩
        · refine hocopy _ b 0 (fun x hx => setCells_heap b us _ w x (hbS x hx)) (fun x hx => setCells_heap b us _ w x (fun e => nd1 (by simp [← e, hx]))) fun j u hj => ?_
          have hlt := (List.getElem?_eq_some_iff.1 hj).1
          rw [c2 (0 + j) (.inl (by omega))]
          exact ho3 j u hj
        · refine hcopy S _ b _ (fun _ h => h) (fun x hx => setCells_heap b us _ w x (hbS x hx)) (fun x hx => setCells_heap b us _ w x (fun e => nd1 (by simp [← e, hx]))) fun j u hj => ?_
          rw [Nat.zero_add]; exact c1 j u hj
    · have hrun := run_app_grow (P := P) (w := w) (ty := ty) he hu hlen hfd hroom (hof w.drew (fun _ => rfl)) hlim
      have hge := grownCap_ge w (es.length + new.length) cap e
      generalize hcap : grownCap w (es.length + new.length) cap e = nc at *
      have hsz0 : (olds.toArray ++ us.toArray ++ Builtin.zeroCells z.cells (nc - (es.length + new.length))).size = nc * sz := by
        simp only [Array.size_append, List.size_toArray, size_zeroCells, hzs, hol, hul, ← Nat.add_mul]
        congr 1; omega
      generalize hcs : (olds.toArray ++ us.toArray ++ Builtin.zeroCells z.cells (nc - (es.length + new.length))) = cs at *
      have hold : ∀ x, x < w.heap.size → (w.drew.alloc (.cells cs e)).heap[x]? = w.heap[x]? := fun x hx => heap_push_old w.drew _ hx
      refine ⟨_, _, w.heap.size, obe, hrun, ?_, ?_, rfl, rfl, rfl, by simp, by simp, fun x hx _ => hold x hx⟩
      · simp only [Rep, holen]
        have hcell : ∀ j, (w.drew.alloc (.cells cs e)).cell? ⟨w.heap.size, j, none⟩ = cs[j]? := fun j => World.cell?_alloc_new w.drew cs e j
        refine .inr ?_
        refine ⟨w.heap.size, nc, obe ++ obn, rfl, rfl, he.pos, hge, ⟨cs, e, (0, 0), heap_push_new w.drew _, hsz0, by simp⟩, ?_⟩
        have hobe : ∀ x, x ∈ obe → x < w.heap.size := by
          intro x hx
          rcases hk with ⟨_, rfl, _⟩ | ⟨b, rfl, _⟩
          · simp at hx
          · exact hlt x (by simp [hx])
        rw [repEs_append]
        refine ⟨obe, obn, ?_, ?_, rfl⟩
        · refine hocopy _ _ 0 (fun x hx => hold x (hstl x hx)) (fun x hx => hold x (hobe x hx)) fun j u hj => ?_
          have hlt := (List.getElem?_eq_some_iff.1 hj).1
          rw [hcell, ← hcs, Nat.zero_add, Array.getElem?_append_left (by simp; omega), Array.getElem?_append_left (by simpa using hlt)]
          simpa using hj
        · refine hcopy S _ _ _ (fun _ h => h) (fun x hx => hold x (hstl x hx)) (fun x hx => hold x (hlt x (by simp [hx]))) fun j u hj => ?_
          have hlt := (List.getElem?_eq_some_iff.1 hj).1
          rw [hcell, ← hcs, Nat.zero_add, Array.getElem?_append_left (by simp; omega), Array.getElem?_append_right (by simp; omega)]
          simp only [List.size_toArray, hol, Nat.add_sub_cancel_left]
          simpa using hj
      · rcases hk with ⟨h1, h2, _⟩ | ⟨b, h1, _⟩
        · exact .inl ⟨h1, h2, rfl⟩
        · exact .inr ⟨b, h1, .inr rfl⟩

theorem run_app_nil {t u ty e : TypeId} {sz : Nat} {i : TypeInfo} {z xv : Value} {obn : List Nat} (he : ElemIs P t sz e i z) (hu : NoMake P u) (ha : Adds P ids S w sz xv [] obn) :
    (Builtin.append_ #[t, u] ty #[.slice none 0 0, xv]).run P w = .ok (.slice none 0 0) w := by
  obtain ⟨hlen, us, hul, hu1, hfc, hcopy⟩ := ha
  have hus : us = [] := List.eq_nil_of_length_eq_zero (by simpa using hul)
  subst hus
  exact run_app_room (P := P) (w := w) (w' := w) (ty := ty) (base := none) (sLen := 0) (sCap := 0) he hu hlen (hfc w (fun _ => rfl)) (by simp) rfl
end
end Go.Vs
/- Appends and literals, as operations. -/
namespace Go.Vs
open Go

section
variable {P : Program} {ids : Nat → Nat} {S S' A : Nat → Prop} {N : Nat} {ρ : Roots} {fix : List Nat} {w w' : World} {tm : Array Value} {ds : List Deferred} {E : Env} {obs obs' : Nat → List Nat}
variable {K : Act → World → Prop} {Q : Exit → Act → World → Prop} {H : List Nat}

theorem noMake_string {u : TypeId} (h : isString P u = true) : NoMake P u := ⟨_, isString_sound h, by simp⟩

theorem noMake_elem {u : TypeId} {sz : Nat} {z : Option Tree} (h : elemIs P u sz z = true) : NoMake P u := by
  obtain ⟨e, i, v, he, _⟩ := elemIs_sound h
  exact ⟨_, he.ty, by simp⟩

theorem sound_app {o : Oper} {c : Call} {y z : Operand} {t u : TypeId} {d sz : Nat} {s' x' : Opd} {m : Md} {σ : Oracle} {ws : Env} (h : Inv ids S A N ρ fix w tm E obs []) (hd : d < N) (hf : d ∉ fix)
    (hop : o.op = .call c) (hcal : c.callee = .builtin .append) (hargs : c.args = #[y, z]) (htys : c.argTypes = #[t, u]) (ho : o.dst = some d) (hy : opdOk ids y s' = true) (hz : opdOk ids z x' = true)
    (hel : elemIs P t sz none = true) (hu : NoMake P u)
    (hs : stepI σ ρ fix E (.app d sz s' x' m) = some ws)
    (hK : ∀ a' w', After ids S A N ρ fix w tm ds E [d] ws a' w' → K a' w') : o.wp P ⟨tm, ds⟩ w K Q := by
  simp only [stepI, Option.bind_eq_some_iff] at hs
  obtain ⟨⟨tx, w1⟩, htx, ⟨ts, w2⟩, hts, new, hnew, hs⟩ := hs
  simp only at hts hnew hs
  obtain ⟨S1, obs1, ob1, a1, a2, a3, a4, a5⟩ := h.take (ds := ds) (opdOk_sound hz) htx
  have a1' : Inv ids S1 A N ρ fix w tm (w1 ++ E) obs1 ob1 := by simpa using a1
  obtain ⟨S2, obs2, ob2, b1, b2, b3, b4, b5⟩ := a1'.take (ds := ds) (opdOk_sound hy) hts
  have a2' : Rep ids S2 w tx ((Act.mk tm ds).eval z) ob1 := rep_mono b3 (fun _ _ => rfl) _ _ _ (fun _ _ => rfl) a2
  obtain ⟨e, i, v, he, hzs⟩ := elemIs_sound hel
  -- what is added
  have hadds : ∃ obn, Adds P ids S2 w sz ((Act.mk tm ds).eval z) new obn ∧ obn.Nodup ∧ ∀ b, b ∈ obn → b ∈ ob1 := by
    have hn1 := a1'.hnd
    split at hnew
    · simp only [Option.some.injEq] at hnew; subst hnew
      simp only [Rep] at a2'
      obtain ⟨⟨aa, hv⟩, _⟩ := a2'
      rw [hv]; exact ⟨[], adds_none, by simp, by simp⟩
    · rename_i ow sz' es
      split at hnew
      · rename_i hsz
        subst hsz
        simp only [Option.some.injEq] at hnew; subst hnew
        cases ow with
        | true =>
          simp only [Rep] at a2'
          rcases a2' with ⟨rfl, hv, _⟩ | ⟨b, cap, ob', hv, rfl, h1, h2, h3, h4⟩
          · rw [hv]; exact ⟨[], adds_none, by simp, by simp⟩
          rw [hv]
          exact ⟨ob', adds_row h1 rfl h4, (List.nodup_cons.1 hn1).2, fun x hx => by simp [hx]⟩
        | false =>
          simp only [Rep] at a2'
          obtain ⟨_, h1, aa, cap, hv, h2, h3⟩ := a2'
          rw [hv]
          rcases h3 with rfl | ⟨b, off, rfl, _, h4⟩
          · exact ⟨[], adds_none, by simp, by simp⟩
          · exact ⟨[], adds_row h1 rfl h4, by simp, by simp⟩
      · cases hnew
    · rename_i l
      split at hnew
      · rename_i hsz
        subst hsz
        simp only [Option.some.injEq] at hnew; subst hnew
        simp only [Rep] at a2'
        rw [a2'.1]
        exact ⟨[], adds_str, by simp, by simp⟩
      · cases hnew
    · cases hnew
  obtain ⟨obn, hadd, hobn1, hobn2⟩ := hadds
  have hhnd := b1.hnd
  obtain ⟨n1, n2, n3⟩ := List.nodup_append.1 hhnd
  have hnd : (ob2 ++ obn).Nodup := List.nodup_append.2 ⟨n1, hobn1, fun x hx y hy e => n3 x hx y (hobn2 y hy) e⟩
  have hin : ∀ b, b ∈ ob2 ++ obn → b ∈ ob2 ++ ob1 := by
    intro b hb
    rcases List.mem_append.1 hb with hb | hb
    · simp [hb]
    · simp [hobn2 b hb]
  have core := fun (ts : Tree) (b2 : Rep ids S2 w ts ((Act.mk tm ds).eval y) ob2) => app_core (P := P) (ty := o.type) he hzs hu b2 hnd (fun b hb => (b1.hap b (hin b hb)).1) b1.st (fun b hb => (b1.hap b (hin b hb)).2.2.1) hadd
  have hS : ∀ b, S b → S2 b := fun b hb => b3 b (a3 b hb)
  have hS' : ∀ b, S2 b → S b ∨ A b := fun b hb => (b4 b hb).elim (a4 b) .inr
  have hex : ∀ {v' : Value} {w' : World}, (Builtin.append_ #[t, u] o.type #[(Act.mk tm ds).eval y, (Act.mk tm ds).eval z]).run P w = .ok v' w' → (execOp (Act.mk tm ds).eval o).run P w = .ok (.value v') w' := by
    intro v' w' hr
    unfold execOp
    simp only [hop, resolve, hcal, hargs, htys, invoke, builtin, Sem.run_bind, Sem.run_pure, Result.andThen_ok, List.map_toArray, List.map_cons, List.map_nil, hr]
  -- the end where a row is laid
  have fin : ∀ ts, Rep ids S2 w ts ((Act.mk tm ds).eval y) ob2 → ((∃ z0, ts = .nil z0) ∧ new ≠ [] ∧ new.length ≤ lim) ∨ (∃ es, ts = .sl true sz es ∧ es.length + new.length ≤ lim ∧ (Act.mk tm ds).eval y ≠ .slice none 0 0) → ws = wr ρ d (.tree (.sl true sz (ts.elems ++ new))) ++ (w2 ++ w1) → o.wp P ⟨tm, ds⟩ w K Q := by
    rintro ts b2 hcase rfl
    obtain ⟨v', w', B, obe, r1, r2, r3, r4, r5, r6, r7, r8, r9⟩ := (core ts b2).2 hcase
    have hBnd : (B :: (obe ++ obn)).Nodup ∧ ∀ x, x ∈ obe ++ obn → x ∈ ob2 ++ ob1 := by
      rcases r3 with ⟨rfl, rfl, rfl⟩ | ⟨b, rfl, rfl | rfl⟩
      · refine ⟨List.nodup_cons.2 ⟨fun hx => ?_, by simpa using hnd⟩, fun x hx => hin x hx⟩
        have := (b1.hap w.heap.size (hin _ (by simpa using hx))).2.2.1; omega
      · exact ⟨by simpa using hnd, fun x hx => hin x (by rcases List.mem_append.1 hx with hx | hx <;> simp [hx])⟩
      · refine ⟨List.nodup_cons.2 ⟨fun hx => ?_, (List.nodup_cons.1 (by simpa using hnd)).2⟩, fun x hx => hin x (by rcases List.mem_append.1 hx with hx | hx <;> simp [hx])⟩
        have := (b1.hap w.heap.size (hin _ (by rcases List.mem_append.1 hx with hx | hx <;> simp [hx]))).2.2.1; omega
    have hunS : ∀ b, S2 b → w'.heap[b]? = w.heap[b]? := fun b hb => r9 b (b1.st b hb) (fun hx => (b1.hap b (by simp [hx])).1 hb)
    have hunO : ∀ s b, b ∈ obs2 s → w'.heap[b]? = w.heap[b]? := fun s b hb => r9 b (b1.own s b hb).2.2 (fun hx => (b1.hap b (by simp [hx])).2.2.2 s hb)
    have hI : Inv ids S2 A N ρ fix w' tm (w2 ++ (w1 ++ E)) obs2 ((B :: (obe ++ obn)) ++ []) := by
      have h0 := b1.world r7 hunS hunO
      have h1 : Inv ids S2 A N ρ fix w' tm (w2 ++ (w1 ++ E)) obs2 [] := h0.handSub (by simp) (by simp)
      refine h1.hand hBnd.1 fun b hb => ?_
      rcases List.mem_cons.1 hb with rfl | hb
      · rcases r3 with ⟨rfl, rfl, rfl⟩ | ⟨b', rfl, rfl | rfl⟩
        · exact ⟨by simp, fun hx => by have := b1.st _ hx; omega, b1.fresh _ (Nat.le_refl _), r8, fun s hs => by have := (b1.own s _ hs).2.2; omega⟩
        · obtain ⟨g1, g2, g3, g4⟩ := b1.hap b (by simp)
          exact ⟨by simp, g1, g2, r8, g4⟩
        · exact ⟨by simp, fun hx => by have := b1.st _ hx; omega, b1.fresh _ (Nat.le_refl _), r8, fun s hs => by have := (b1.own s _ hs).2.2; omega⟩
      · obtain ⟨g1, g2, g3, g4⟩ := b1.hap b (hBnd.2 b hb)
        exact ⟨by simp, g1, g2, by omega, g4⟩
    refine after_fin (H := []) (by rw [List.append_assoc]; exact hI) ho hd hf (hex r1) r2 ⟨r4, r5, r6, r7, fun b hb hA => r9 b hb (fun hx => hA (b1.hap b (by simp [hx])).2.1)⟩ hS hS' hK
  split at hs
  · split at hs
    · rename_i hlim
      split at hs
      · simp only [Option.some.injEq] at hs; subst hs
        obtain ⟨v', r1, r2⟩ := (core _ b2).1 _ rfl hlim rfl
        refine after_fin (t := .nil _) (ob := []) (H := ob2 ++ ob1) (by rw [List.append_assoc]; exact b1) ho hd hf (hex r1) r2 (Evo.refl A w) hS hS' hK
      · rename_i hne
        simp only [Option.some.injEq] at hs
        refine fin _ b2 (.inl ⟨⟨_, rfl⟩, fun e => hne e, hlim⟩) ?_
        rw [← hs]; rfl
    · cases hs
  · rename_i sz' es
    split at hs
    · rename_i hc
      obtain ⟨rfl, hlim⟩ := hc
      simp only [Option.some.injEq] at hs
      by_cases hnn : (Act.mk tm ds).eval y = .slice none 0 0
      · have b2' := b2
        simp only [Rep] at b2'
        rcases b2' with ⟨rfl, _, rfl, hp⟩ | ⟨b, cap, ob', e, _⟩
        · have bn : Rep ids S2 w (.nil sz) ((Act.mk tm ds).eval y) [] := by simp only [Rep]; exact ⟨⟨none, hnn⟩, trivial, hp⟩
          by_cases hne : new = []
          · subst hne
            obtain ⟨v', r1, r2⟩ := (core _ bn).1 _ rfl (by simp) rfl
            subst hs
            refine after_fin (t := .sl true sz []) (ob := []) (H := [] ++ ob1) (by rw [List.append_assoc]; exact b1) ho hd hf (hex r1) ?_ (Evo.refl A w) hS hS' hK
            have hv : v' = .slice none 0 0 := by
              have q := run_app_nil (P := P) (w := w) (ty := o.type) he hu hadd
              rw [hnn, q] at r1
              simp only [Result.ok.injEq] at r1
              exact r1.1.symm
            simp only [Rep]; exact .inl ⟨trivial, hv, trivial, hp⟩
          · refine fin _ bn (.inl ⟨⟨_, rfl⟩, hne, by simpa using hlim⟩) ?_
            rw [← hs]; rfl
        · rw [hnn] at e; cases e
      refine fin _ b2 (.inr ⟨es, rfl, hlim, hnn⟩) ?_
      rw [← hs]; rfl
    · cases hs
  · cases hs
end
end Go.Vs
/- Struct and slice literals. -/
namespace Go.Vs
open Go

section
variable {P : Program} {ids : Nat → Nat} {S S' A : Nat → Prop} {N : Nat} {ρ : Roots} {fix : List Nat} {w w' : World} {tm : Array Value} {ds : List Deferred} {E : Env} {obs obs' : Nat → List Nat}
variable {K : Act → World → Prop} {Q : Exit → Act → World → Prop} {H : List Nat}

theorem fold_set (off : Nat) : ∀ (vs : List Value) (k : Nat) (cells : Array Value), off + k + vs.length ≤ cells.size →
    ((vs.zipIdx k).foldl (fun cs (p : Value × Nat) => cs.setIfInBounds (off + p.2) p.1) cells).toList = cells.toList.take (off + k) ++ vs ++ cells.toList.drop (off + k + vs.length)
  | [], k, cells, _ => by simp
  | v :: vs, k, cells, h => by
    simp only [List.zipIdx_cons, List.foldl_cons]
    rw [fold_set off vs (k + 1) _ (by simp at h ⊢; omega)]
    have hlt : off + k < cells.toList.length := by simp at h ⊢; omega
    have e1 : (cells.setIfInBounds (off + k) v).toList = cells.toList.set (off + k) v := by simp
    rw [e1, show off + (k + 1) = off + k + 1 by omega]
    have e2 : (cells.toList.set (off + k) v).take (off + k + 1) = cells.toList.take (off + k) ++ [v] := by
      rw [List.take_set, List.take_succ_eq_append_getElem hlt, List.set_append_right _ _ (by simp; omega)]
      have : off + k - (List.take (off + k) cells.toList).length = 0 := by simp; omega
      rw [this]; rfl
    have e3 : (cells.toList.set (off + k) v).drop (off + k + 1 + vs.length) = cells.toList.drop (off + k + (vs.length + 1)) := by
      rw [List.drop_set, if_pos (by omega), show off + k + 1 + vs.length = off + k + (vs.length + 1) by omega]
    rw [e2, e3]
    simp

theorem repL_setRange {cs new : List Tree} {vs us : List Value} {ob obn : List Nat} {j : Nat} (h : RepL ids S w cs vs ob) (hn : RepL ids S w new us obn) (hj : j + new.length ≤ cs.length) :
    ∃ o1 o2 o3, ob = o1 ++ o2 ++ o3 ∧ RepL ids S w (setRange cs j new) (vs.take j ++ us ++ vs.drop (j + us.length)) (o1 ++ obn ++ o3) := by
  have hul := repL_length _ _ _ hn
  have e1 : cs = cs.take j ++ ((cs.drop j).take new.length ++ cs.drop (j + new.length)) := by
    rw [← List.drop_drop, List.take_append_drop, List.take_append_drop]
  have h' := h
  rw [e1, repL_append] at h'
  obtain ⟨v1, v2, o1, o4, rfl, h1, h2, rfl⟩ := h'
  rw [repL_append] at h2
  obtain ⟨v3, v4, o2, o3, rfl, h2, h3, rfl⟩ := h2
  have l1 := repL_length _ _ _ h1
  have l2 := repL_length _ _ _ h2
  have hl1 : v1.length = j := by rw [l1]; simp; omega
  have hl2 : v3.length = new.length := by rw [l2]; simp; omega
  refine ⟨o1, o2, o3, by simp, ?_⟩
  have e2 : (v1 ++ (v3 ++ v4)).take j = v1 := by rw [← hl1]; exact List.take_left
  have e3 : (v1 ++ (v3 ++ v4)).drop (j + us.length) = v4 := by
    rw [hul, ← hl1, ← hl2, ← List.length_append, ← List.append_assoc]; exact List.drop_left
  rw [e2, e3]
  unfold setRange
  rw [repL_append]
  exact ⟨v1 ++ us, v4, o1 ++ obn, o3, rfl, by rw [repL_append]; exact ⟨v1, us, o1, obn, rfl, h1, hn, rfl⟩, h3, rfl⟩

/-- a part laid into the cells at hand -/
theorem part_step {place : Nat → Option (Nat × Nat)} {i off sz : Nat} {x : Operand} {y : Opd} {m : Md} {cs : List Tree} {cells : Array Value} {obc : List Nat} {t : Tree} {ws : Env} {rest : List (Nat × Value)}
    (h : Inv ids S A N ρ fix w tm E obs (obc ++ H)) (hx : opdOk ids x y = true) (ht : Vs.take ρ E m y = some (t, ws)) (hst : t.storable = true) (hl : t.cells.length = sz) (hfit : off + sz ≤ cs.length)
    (hp : place i = some (off, sz)) (hL : RepL ids S w cs cells.toList obc) (h1 : ∀ u, u ∈ cells.toList → u.oneCell' = true) :
    ∃ S' obs' obc' cells', Inv ids S' A N ρ fix w tm (ws ++ E) obs' (obc' ++ H) ∧ RepL ids S' w (setRange cs off t.cells) cells'.toList obc' ∧ (∀ u, u ∈ cells'.toList → u.oneCell' = true) ∧
      (∀ b, S b → S' b) ∧ (∀ b, S' b → S b ∨ A b) ∧ Instr.fill place cells ((i, (Act.mk tm ds).eval x) :: rest) = Instr.fill place cells' rest := by
  obtain ⟨S', obs', ob, a1, a2, a3, a4, a5⟩ := h.take (ds := ds) (opdOk_sound hx) ht
  obtain ⟨r1, r2⟩ := rep_cells hst a2
  have hL' : RepL ids S' w cs cells.toList obc := repL_mono a3 (fun _ _ => rfl) _ _ _ (fun _ _ => rfl) hL
  obtain ⟨o1, o2, o3, rfl, hset⟩ := repL_setRange hL' r1 (j := off) (by omega)
  have hvl := repL_length _ _ _ r1
  have hcl := repL_length _ _ _ hL
  have hvs : ((Act.mk tm ds).eval x).cells.size = sz := by rw [← hl, ← hvl]; simp
  have hcz : cells.size = cs.length := by rw [← hcl]; simp
  refine ⟨S', obs', o1 ++ ob ++ o3, (((Act.mk tm ds).eval x).cells.zipIdx.foldl (fun cs (p : Value × Nat) => cs.setIfInBounds (off + p.2) p.1) cells), ?_, ?_, ?_, a3, a4, ?_⟩
  · refine a1.handSub ?_ ?_
    · have hn := a1.hnd
      have : (ob ++ (o1 ++ o2 ++ o3 ++ H)).Perm ((o1 ++ ob ++ o3 ++ H) ++ o2) := by
        rw [List.perm_iff_count]; intro c; simp only [List.count_append]; omega
      exact (List.nodup_append.1 ((this.nodup_iff).1 hn)).1
    · intro b hb
      simp only [List.mem_append] at hb ⊢
      rcases hb with ((hb | hb) | hb) | hb <;> simp [hb]
  · have hfs := fold_set off ((Act.mk tm ds).eval x).cells.toList 0 cells (by simp [hvs, hcz]; omega)
    simp only [Nat.add_zero] at hfs
    rw [← Array.foldl_toList, Array.toList_zipIdx, hfs]
    exact hset
  · have hfs := fold_set off ((Act.mk tm ds).eval x).cells.toList 0 cells (by simp [hvs, hcz]; omega)
    simp only [Nat.add_zero] at hfs
    rw [← Array.foldl_toList, Array.toList_zipIdx, hfs]
    intro u hu
    rcases List.mem_append.1 hu with hu | hu
    · rcases List.mem_append.1 hu with hu | hu
      · exact h1 u (List.mem_of_mem_take hu)
      · exact r2 u hu
    · exact h1 u (List.mem_of_mem_drop hu)
  · rw [Instr.fill]
    simp only [hp]
    have hc : ¬ ((((Act.mk tm ds).eval x).cells.size ≠ sz || off + ((Act.mk tm ds).eval x).cells.size > cells.size) = true) := by
      simp [hvs, hcz, hfit]
    rw [if_neg (by simpa using hc)]


theorem takeParts_sound {fs : Array Field} {place : Nat → Option (Nat × Nat)} : ∀ (ps : List (Nat × Operand)) (qs : List (Nat × Nat × Opd × Md)) (S : Nat → Prop) (E : Env) (obs : Nat → List Nat) (cs cs' : List Tree) (cells : Array Value) (obc : List Nat) (ws : Env),
    (∀ (i : Nat) (f : Field) (i' : TypeInfo), fs[i]? = some f → P.info? f.type = some i' → place i = some (f.offset, i'.size)) →
    partsOk P ids fs ps qs = true → takeParts ρ E qs cs = some (cs', ws) → Inv ids S A N ρ fix w tm E obs (obc ++ []) → RepL ids S w cs cells.toList obc → (∀ u, u ∈ cells.toList → u.oneCell' = true) →
    ∃ S' obs' obc' cells', Inv ids S' A N ρ fix w tm (ws ++ E) obs' (obc' ++ []) ∧ RepL ids S' w cs' cells'.toList obc' ∧ (∀ u, u ∈ cells'.toList → u.oneCell' = true) ∧
      (∀ b, S b → S' b) ∧ (∀ b, S' b → S b ∨ A b) ∧ Instr.fill place cells (ps.map fun (i, x) => (i, (Act.mk tm ds).eval x)) = some cells' ∧ cs'.length = cs.length
  | [], [], S, E, obs, cs, cs', cells, obc, ws, _, _, ht, h, hL, h1 => by
    simp only [takeParts, Option.some.injEq, Prod.mk.injEq] at ht
    obtain ⟨rfl, rfl⟩ := ht
    exact ⟨S, obs, obc, cells, h, hL, h1, fun _ h => h, fun _ h => .inl h, rfl, rfl⟩
  | [], _ :: _, _, _, _, _, _, _, _, _, _, ho, _, _, _, _ => by simp [partsOk] at ho
  | _ :: _, [], _, _, _, _, _, _, _, _, _, ho, _, _, _, _ => by simp [partsOk] at ho
  | (i, x) :: ps, (off, sz, y, m) :: qs, S, E, obs, cs, cs', cells, obc, ws, hpl, ho, ht, h, hL, h1 => by
    simp only [partsOk, Bool.and_eq_true] at ho
    obtain ⟨⟨ho1, ho2⟩, ho3⟩ := ho
    simp only [takeParts, Option.bind_eq_some_iff] at ht
    obtain ⟨⟨t, ws0⟩, ht0, ht⟩ := ht
    simp only at ht
    split at ht
    · rename_i hc
      obtain ⟨hst, hl, hfit⟩ := hc
      simp only [Option.bind_eq_some_iff, Option.some.injEq, Prod.mk.injEq] at ht
      obtain ⟨⟨cs1, ws1⟩, ht1, rfl, rfl⟩ := ht
      have hp : place i = some (off, sz) := by
        split at ho1
        · rename_i f hf'
          simp only [Bool.and_eq_true, beq_iff_eq] at ho1
          obtain ⟨i', hi', hs', _⟩ := szOk_sound ho1.2
          rw [hpl i f i' hf' hi', ho1.1, hs']
        · cases ho1
      obtain ⟨S1, obs1, obc1, cells1, a1, a2, a3, a4, a5, a6⟩ := part_step (ds := ds) (H := []) (rest := ps.map fun (i, x) => (i, (Act.mk tm ds).eval x)) h ho2 ht0 hst hl hfit hp hL h1
      obtain ⟨S2, obs2, obc2, cells2, b1, b2, b3, b4, b5, b6, b7⟩ := takeParts_sound ps qs S1 (ws0 ++ E) obs1 _ cs1 cells1 obc1 ws1 hpl ho3 ht1 a1 a2 a3
      refine ⟨S2, obs2, obc2, cells2, by rw [List.append_assoc]; exact b1, b2, b3, fun b hb => b4 b (a4 b hb), fun b hb => (b5 b hb).elim (a5 b) .inr, ?_, ?_⟩
      · rw [List.map_cons]; exact a6.trans b6
      · rw [b7, (setRange_parts (by omega)).2.2.2]
    · cases ht

theorem sound_build {o : Oper} {t : TypeId} {ps : Array (Nat × Operand)} {d : Nat} {z : List Tree} {qs : List (Nat × Nat × Opd × Md)} {fs : Array Field} {σ : Oracle} {ws : Env} (h : Inv ids S A N ρ fix w tm E obs []) (hd : d < N) (hf : d ∉ fix)
    (hop : o.op = .build t ps) (ho : o.dst = some d) (hz : zeroIs P t (.agg z) = true) (hty : P.underlying t = some (.struct fs)) (hfi : fs.all (fun (f : Field) => (P.info? f.type).isSome) = true) (hps : partsOk P ids fs ps.toList qs = true)
    (hs : stepI σ ρ fix E (.build d z qs) = some ws)
    (hK : ∀ a' w', After ids S A N ρ fix w tm ds E [d] ws a' w' → K a' w') : o.wp P ⟨tm, ds⟩ w K Q := by
  simp only [stepI, Option.bind_eq_some_iff, Option.some.injEq] at hs
  obtain ⟨⟨cs, ws0⟩, ht, rfl⟩ := hs
  obtain ⟨i, v, hi, hv, hzt⟩ := zeroIs_sound hz
  obtain ⟨r1, r3⟩ := rep_zero (ids := ids) (S := S) (w := w) hzt
  obtain ⟨g1, g2⟩ := rep_cells (zero_storable hzt) r1
  simp only [Tree.cells] at g1
  -- the places of the fields
  have hmap : ∃ pl : Array (Nat × Nat), (fs.mapM fun (f : Field) => (do pure (f.offset, ← Go.sizeOf f.type) : Sem (Nat × Nat))).run P w = .ok pl w ∧ ∀ (i : Nat) (f : Field) (i' : TypeInfo), fs[i]? = some f → P.info? f.type = some i' → pl[i]? = some (f.offset, i'.size) := by
    have key : ∀ (l : List Field), (∀ f, f ∈ l → (P.info? f.type).isSome = true) → ∃ pl : List (Nat × Nat), (l.mapM fun (f : Field) => (do pure (f.offset, ← Go.sizeOf f.type) : Sem (Nat × Nat))).run P w = .ok pl w ∧ ∀ (i : Nat) (f : Field) (i' : TypeInfo), l[i]? = some f → P.info? f.type = some i' → pl[i]? = some (f.offset, i'.size) := by
      intro l
      induction l with
      | nil => intro _; exact ⟨[], by simp, by simp⟩
      | cons f l ih =>
        intro hl
        obtain ⟨pl, p1, p2⟩ := ih fun g hg => hl g (by simp [hg])
        obtain ⟨i', hi'⟩ := Option.isSome_iff_exists.1 (hl f (by simp))
        refine ⟨(f.offset, i'.size) :: pl, ?_, ?_⟩
        · simp only [List.mapM_cons, Sem.run_bind, run_sizeOf hi', Result.andThen_ok, Sem.run_pure, p1]
        · intro j g j' hj hj'
          cases j with
          | zero => simp only [List.getElem?_cons_zero, Option.some.injEq] at hj; subst hj; rw [hi'] at hj'; cases hj'; rfl
          | succ j => simp only [List.getElem?_cons_succ] at hj ⊢; exact p2 j g j' hj hj'
    obtain ⟨pl, p1, p2⟩ := key fs.toList (fun f hf => Array.all_eq_true_iff_forall_mem.1 hfi f (by simpa using hf))
    refine ⟨pl.toArray, ?_, fun i f i' h1 h2 => by simpa using p2 i f i' (by simpa using h1) h2⟩
    rw [Array.mapM_eq_mapM_toList]
    simp only [Sem.run_map, p1, Result.andThen_ok]
  obtain ⟨pl, hpl1, hpl2⟩ := hmap
  obtain ⟨S', obs', obc', cells', a1, a2, a3, a4, a5, a6, a7⟩ := takeParts_sound (ds := ds) (place := (pl[·]?)) ps.toList qs S E obs z cs v.cells [] ws0 hpl2 hps ht (by simpa using h) g1 g2
  refine after_fin (t := .agg cs) (v := .agg cells') (H := []) a1 ho hd hf ?_ (by simp only [Rep]; exact ⟨cells', rfl, a3, a2⟩) (Evo.refl A w) a4 a5 hK
  have hpm : (ps.map fun (i, x) => (i, (Act.mk tm ds).eval x)).toList = ps.toList.map fun (i, x) => (i, (Act.mk tm ds).eval x) := by simp
  unfold execOp
  simp only [hop, Instr.build, zeroValue, typeInfo, Sem.run_bind, run_program, Result.andThen_ok, hi, hv, Sem.run_pure, run_underlying hty]
  rw [hpl1]
  simp only [Result.andThen_ok, hpm, a6, Sem.run_pure]
end
end Go.Vs
/- Slice literals. -/
namespace Go.Vs
open Go

def flat : List Tree → List Tree
  | [] => []
  | e :: es => e.cells ++ flat es

section
variable {P : Program} {ids : Nat → Nat} {S S' A : Nat → Prop} {N : Nat} {ρ : Roots} {fix : List Nat} {w w' : World} {tm : Array Value} {ds : List Deferred} {E : Env} {obs obs' : Nat → List Nat}
variable {K : Act → World → Prop} {Q : Exit → Act → World → Prop} {H : List Nat}

theorem flat_length {sz : Nat} : ∀ (es : List Tree), (∀ e, e ∈ es → e.cells.length = sz) → (flat es).length = es.length * sz
  | [], _ => by simp [flat]
  | e :: es, h => by
    simp only [flat, List.length_append, List.length_cons, Nat.succ_mul, h e (by simp), flat_length es (fun x hx => h x (by simp [hx]))]; omega

theorem flat_set {sz : Nat} {t : Tree} (ht : t.cells.length = sz) : ∀ (es : List Tree) (i : Nat), i < es.length → (∀ e, e ∈ es → e.cells.length = sz) → flat (es.set i t) = setRange (flat es) (i * sz) t.cells
  | [], i, hi, _ => by simp at hi
  | e :: es, 0, _, h => by
    have := h e (by simp)
    simp only [List.set_cons_zero, flat, setRange, Nat.zero_mul, List.take_zero, List.nil_append, Nat.zero_add]
    rw [ht, ← this, List.drop_left]
  | e :: es, i + 1, hi, h => by
    have he := h e (by simp)
    have ih := flat_set ht es i (by simpa using hi) (fun x hx => h x (by simp [hx]))
    simp only [List.set_cons_succ, flat, ih, setRange]
    have e1 : (i + 1) * sz = e.cells.length + i * sz := by rw [he, Nat.succ_mul]; omega
    rw [e1, List.take_length_add_append, show e.cells.length + i * sz + t.cells.length = e.cells.length + (i * sz + t.cells.length) by omega, List.drop_length_add_append]
    simp

theorem repEs_flat {sz : Nat} : ∀ (es : List Tree) (vs : List Value) (ob : List Nat) (b off : Nat), (∀ e, e ∈ es → e.cells.length = sz) → RepL ids S w (flat es) vs ob → (∀ u, u ∈ vs → u.oneCell' = true) →
    (∀ j u, vs[j]? = some u → w.cell? ⟨b, off + j, none⟩ = some u) → RepEs ids S w es sz b off ob
  | [], vs, ob, b, off, _, h, _, _ => by simp only [flat, RepL] at h; simp only [RepEs]; exact h.2
  | e :: es, vs, ob, b, off, hl, h, h1, hc => by
    simp only [flat, repL_append] at h
    obtain ⟨v1, v2, ob1, ob2, rfl, r1, r2, rfl⟩ := h
    have hl1 := repL_length _ _ _ r1
    have he := hl e (by simp)
    simp only [RepEs, repE_iff]
    refine ⟨ob1, ob2, ⟨he, repCs_row _ _ _ _ _ r1 (fun u hu => h1 u (by simp [hu])) fun j u hj => ?_⟩, repEs_flat es v2 ob2 b (off + sz) (fun x hx => hl x (by simp [hx])) r2 (fun u hu => h1 u (by simp [hu])) fun j u hj => ?_, rfl⟩
    · have hlt := (List.getElem?_eq_some_iff.1 hj).1
      exact hc j u (by rw [List.getElem?_append_left hlt]; exact hj)
    · have := hc (sz + j) u (by rw [List.getElem?_append_right (by omega), show sz + j - v1.length = j by omega]; exact hj)
      rwa [show off + (sz + j) = off + sz + j by omega] at this

theorem takeElems_sound {sz : Nat} : ∀ (ps : List (Nat × Operand)) (qs : List (Nat × Opd × Md)) (S : Nat → Prop) (E : Env) (obs : Nat → List Nat) (es es' : List Tree) (cells : Array Value) (obc : List Nat) (ws : Env),
    elemsOk ids ps qs = true → takeElems ρ E sz qs es = some (es', ws) → Inv ids S A N ρ fix w tm E obs (obc ++ []) → (∀ e, e ∈ es → e.cells.length = sz) → RepL ids S w (flat es) cells.toList obc → (∀ u, u ∈ cells.toList → u.oneCell' = true) →
    ∃ S' obs' obc' cells', Inv ids S' A N ρ fix w tm (ws ++ E) obs' (obc' ++ []) ∧ (∀ e, e ∈ es' → e.cells.length = sz) ∧ RepL ids S' w (flat es') cells'.toList obc' ∧ (∀ u, u ∈ cells'.toList → u.oneCell' = true) ∧
      (∀ b, S b → S' b) ∧ (∀ b, S' b → S b ∨ A b) ∧ Instr.fill (fun i => some (i * sz, sz)) cells (ps.map fun (i, x) => (i, (Act.mk tm ds).eval x)) = some cells' ∧ es'.length = es.length
  | [], [], S, E, obs, es, es', cells, obc, ws, _, ht, h, hl, hL, h1 => by
    simp only [takeElems, Option.some.injEq, Prod.mk.injEq] at ht
    obtain ⟨rfl, rfl⟩ := ht
    exact ⟨S, obs, obc, cells, h, hl, hL, h1, fun _ h => h, fun _ h => .inl h, rfl, rfl⟩
  | [], _ :: _, _, _, _, _, _, _, _, _, ho, _, _, _, _, _ => by simp [elemsOk] at ho
  | _ :: _, [], _, _, _, _, _, _, _, _, ho, _, _, _, _, _ => by simp [elemsOk] at ho
  | (i, x) :: ps, (j, y, m) :: qs, S, E, obs, es, es', cells, obc, ws, ho, ht, h, hl, hL, h1 => by
    simp only [elemsOk, Bool.and_eq_true, beq_iff_eq] at ho
    obtain ⟨⟨rfl, ho2⟩, ho3⟩ := ho
    simp only [takeElems, Option.bind_eq_some_iff] at ht
    obtain ⟨⟨t, ws0⟩, ht0, ht⟩ := ht
    simp only at ht
    split at ht
    · rename_i hc
      obtain ⟨hst, htl, hlt⟩ := hc
      simp only [Option.bind_eq_some_iff, Option.some.injEq, Prod.mk.injEq] at ht
      obtain ⟨⟨es1, ws1⟩, ht1, rfl, rfl⟩ := ht
      have hfit : i * sz + sz ≤ (flat es).length := by
        rw [flat_length es hl]
        have : (i + 1) * sz ≤ es.length * sz := Nat.mul_le_mul_right _ hlt
        rw [Nat.succ_mul] at this; omega
      obtain ⟨S1, obs1, obc1, cells1, a1, a2, a3, a4, a5, a6⟩ := part_step (ds := ds) (H := []) (place := fun i => some (i * sz, sz)) (i := i) (rest := ps.map fun (i, x) => (i, (Act.mk tm ds).eval x)) h ho2 ht0 hst htl hfit rfl hL h1
      rw [← flat_set htl es i hlt hl] at a2
      have hl' : ∀ e, e ∈ es.set i t → e.cells.length = sz := by
        intro e he
        rcases List.mem_or_eq_of_mem_set he with he | rfl
        · exact hl e he
        · exact htl
      obtain ⟨S2, obs2, obc2, cells2, b1, b2, b3, b4, b5, b6, b7, b8⟩ := takeElems_sound ps qs S1 (ws0 ++ E) obs1 _ es1 cells1 obc1 ws1 ho3 ht1 a1 hl' a2 a3
      refine ⟨S2, obs2, obc2, cells2, by rw [List.append_assoc]; exact b1, b2, b3, b4, fun b hb => b5 b (a4 b hb), fun b hb => (b6 b hb).elim (a5 b) .inr, ?_, by simpa using b8⟩
      rw [List.map_cons]; exact a6.trans b7
    · cases ht

theorem flat_zeros {v : Value} {z : Tree} (hz : zeroOk v z = true) : ∀ (n : Nat), ∃ vs : List Value, RepL ids S w (flat (List.replicate n z)) vs [] ∧ (∀ u, u ∈ vs → u.oneCell' = true) ∧ vs = (List.replicate n v.cells.toList).flatten
  | 0 => ⟨[], by simp [flat, RepL], by simp, by simp⟩
  | n + 1 => by
    obtain ⟨vs, h1, h2, h3⟩ := flat_zeros hz n
    obtain ⟨r1, r2⟩ := rep_cells (ids := ids) (S := S) (w := w) (zero_storable hz) (rep_zero hz).1
    refine ⟨v.cells.toList ++ vs, ?_, ?_, by simp [List.replicate_succ, h3]⟩
    · simp only [List.replicate_succ, flat, repL_append]
      exact ⟨_, _, [], [], rfl, r1, h1, rfl⟩
    · intro u hu
      rcases List.mem_append.1 hu with hu | hu
      · exact r2 u hu
      · exact h2 u hu

theorem madeCells_flat {z : Array Value} {sz : Nat} (hz : z.size = sz) : ∀ (n : Nat), (madeCells z (n * sz)).toList = (List.replicate n z.toList).flatten := by
  intro n
  apply List.ext_getElem?
  intro j
  by_cases hj : j < n * sz
  · have hpos : 0 < sz := by rcases Nat.eq_zero_or_pos sz with h | h; · simp [h] at hj
                             · exact h
    have hd : j = (j / sz) * sz + j % sz := by rw [Nat.mul_comm]; exact (Nat.div_add_mod j sz).symm
    have hq : j / sz < n := Nat.div_lt_of_lt_mul (by rw [Nat.mul_comm]; exact hj)
    have hr : j % sz < z.size := by rw [hz]; exact Nat.mod_lt _ hpos
    have h1 := madeCells_get (z := z) (n := n * sz) (i := j / sz) (j := j % sz) (u := z[j % sz]) hz (by omega) (Array.getElem?_eq_getElem hr)
    rw [← hd] at h1
    rw [Array.getElem?_toList, h1]
    have : ∀ (m q : Nat), q < m → (List.replicate m z.toList).flatten[q * sz + j % sz]? = some z[j % sz] := by
      intro m
      induction m with
      | zero => intro q hq; omega
      | succ m ih =>
        intro q hq
        simp only [List.replicate_succ, List.flatten_cons]
        cases q with
        | zero => rw [Nat.zero_mul, Nat.zero_add, List.getElem?_append_left (by simpa using hr)]; simp [hr]
        | succ q =>
          rw [List.getElem?_append_right (by simp [hz, Nat.succ_mul]; omega)]
          have : (q + 1) * sz + j % sz - z.toList.length = q * sz + j % sz := by simp [hz, Nat.succ_mul]; omega
          rw [this]; exact ih q (by omega)
    have h2 := this n (j / sz) hq
    rw [← hd] at h2
    exact h2.symm
  · rw [List.getElem?_eq_none (by simp [size_madeCells]; omega), List.getElem?_eq_none (by simp [hz]; omega)]

theorem sound_mksl {o : Oper} {t : TypeId} {ps : Array (Nat × Operand)} {d sz n : Nat} {z : Tree} {qs : List (Nat × Opd × Md)} {σ : Oracle} {ws : Env} (h : Inv ids S A N ρ fix w tm E obs []) (hd : d < N) (hf : d ∉ fix)
    (hop : o.op = .buildSlice t n ps) (ho : o.dst = some d) (hlim : n * sz ≤ 16777216) (hel : elemIs P t sz (some z) = true) (hps : elemsOk ids ps.toList qs = true)
    (hs : stepI σ ρ fix E (.mksl d sz z n qs) = some ws)
    (hK : ∀ a' w', After ids S A N ρ fix w tm ds E [d] ws a' w' → K a' w') : o.wp P ⟨tm, ds⟩ w K Q := by
  simp only [stepI, Option.bind_eq_some_iff, Option.some.injEq] at hs
  obtain ⟨⟨es, ws0⟩, ht, rfl⟩ := hs
  obtain ⟨e, i, v, he, hz, hzl⟩ := elemIs_sound hel
  have hvs : v.cells.size = sz := by have := (rep_zero (ids := ids) (S := S) (w := w) hz).2; omega
  obtain ⟨vs0, r1, r2, r3⟩ := flat_zeros (ids := ids) (S := S) (w := w) hz n
  have hcells : (madeCells v.cells (n * sz)).toList = vs0 := by rw [madeCells_flat hvs, r3]
  have hzl' : ∀ x, x ∈ List.replicate n z → x.cells.length = sz := by intro x hx; rw [(List.mem_replicate.1 hx).2]; exact hzl
  obtain ⟨S', obs', obc', cells', a1, a2, a3, a4, a5, a6, a7, a8⟩ := takeElems_sound (ds := ds) ps.toList qs S E obs (List.replicate n z) es (madeCells v.cells (n * sz)) [] ws0 hps ht (by simpa using h) hzl' (by rw [hcells]; exact r1) (by rw [hcells]; exact r2)
  have hlen : es.length = n := by simpa using a8
  have a1' : Inv ids S' A N ρ fix w tm (ws0 ++ E) obs' obc' := by simpa using a1
  have hcsz : cells'.size = n * sz := by
    have := repL_length _ _ _ a3
    rw [flat_length es a2, hlen] at this
    simpa using this
  have hpm : (ps.map fun (i, x) => (i, (Act.mk tm ds).eval x)).toList = ps.toList.map fun (i, x) => (i, (Act.mk tm ds).eval x) := by simp
  have hrun : (Instr.buildSlice t n (ps.map fun (i, x) => (i, (Act.mk tm ds).eval x))).run P w = .ok (.slice (some ⟨w.heap.size, 0, none⟩) n n) (w.alloc (.cells cells' e)) := by
    have h24 : ¬ (16777216 < n * sz) := by omega
    unfold Instr.buildSlice
    by_cases hn : n * sz = 0
    · have hm : (madeCells v.cells (n * sz)) = #[] := by simp [madeCells, hn, Array.range_zero']
      rw [hm] at a7
      simp only [Sem.run_bind, run_underlying he.ty, Result.andThen_ok, run_sizeOf he.info, he.size, hn, if_true, hpm]
      simp [Array.range_zero', a7, newRow]
    · simp only [Sem.run_bind, run_underlying he.ty, Result.andThen_ok, run_sizeOf he.info, he.size, hpm]
      have hmc : (Array.range (n * sz)).map (v.cells[· % v.cells.size]!) = madeCells v.cells (n * sz) := rfl
      simp [h24, hn, zeroValue, typeInfo, he.info, he.zero, hmc, a7, newRow]
  refine after_fin (t := .sl true sz es) (v := .slice (some ⟨w.heap.size, 0, none⟩) n n) (ob := w.heap.size :: obc') (H := []) (by simpa using a1'.alloc (.cells cells' e)) ho hd hf ?_ ?_ (evo_alloc h.fresh _) a5 a6 hK
  · unfold execOp
    simp only [hop, Sem.run_bind, hrun, Result.andThen_ok, Sem.run_pure]
  · simp only [Rep, hlen]
    refine .inr ⟨w.heap.size, n, obc', rfl, rfl, he.pos, Nat.le_refl _, wf_alloc (_b := 0) hcsz, ?_⟩
    refine repEs_flat es cells'.toList obc' _ 0 a2 (repL_alloc a1'.st a3 _) a4 fun j u hj => ?_
    rw [Nat.zero_add, World.cell?_alloc_new]
    simpa using hj
end
end Go.Vs
/- Contracts of functions; a call's arguments. -/
namespace Go.Vs
open Go

section
variable {ids : Nat → Nat} {S S' : Nat → Prop} {w w' : World}

mutual
theorem rep_det : ∀ (t : Tree) (v : Value) (ob ob' : List Nat), Rep ids S w t v ob → Rep ids S' w t v ob' → ob = ob'
  | .int k n, v, ob, ob', h, h' => by simp only [Rep] at h h'; rw [h.2, h'.2]
  | .bool b, v, ob, ob', h, h' => by simp only [Rep] at h h'; rw [h.2, h'.2]
  | .str s, v, ob, ob', h, h' => by simp only [Rep] at h h'; rw [h.2, h'.2]
  | .nil sz, v, ob, ob', h, h' => by simp only [Rep] at h h'; rw [h.2.1, h'.2.1]
  | .nilp, v, ob, ob', h, h' => by simp only [Rep] at h h'; rw [h.2, h'.2]
  | .dead, v, ob, ob', h, h' => by simp only [Rep] at h h'; rw [h, h']
  | .sl true sz es, v, ob, ob', h, h' => by
    simp only [Rep] at h h'
    rcases h with ⟨_, rfl, rfl, _⟩ | ⟨b, cap, o1, rfl, rfl, _, _, _, h4⟩
    · rcases h' with ⟨_, _, rfl, _⟩ | ⟨b', cap', o2, hv, rfl, _, _, _, h4'⟩
      · rfl
      · cases hv
    rcases h' with ⟨_, hv, _, _⟩ | ⟨b', cap', o2, hv, rfl, _, _, _, h4'⟩
    · cases hv
    simp only [Value.slice.injEq, Option.some.injEq, Addr.mk.injEq] at hv
    obtain ⟨⟨rfl, _⟩, _, rfl⟩ := hv
    rw [repEs_det es sz b 0 o1 o2 h4 h4']
  | .sl false sz es, v, ob, ob', h, h' => by simp only [Rep] at h h'; rw [h.1, h'.1]
  | .ptr true cs, v, ob, ob', h, h' => by
    simp only [Rep] at h h'
    obtain ⟨b, o1, rfl, rfl, _, h4⟩ := h
    obtain ⟨b', o2, hv, rfl, _, h4'⟩ := h'
    simp only [Value.pointer.injEq, Option.some.injEq, Addr.mk.injEq] at hv
    obtain ⟨rfl, _⟩ := hv
    rw [repCs_det cs b 0 o1 o2 h4 h4']
  | .ptr false cs, v, ob, ob', h, h' => by simp only [Rep] at h h'; rw [h.1, h'.1]
  | .agg cs, v, ob, ob', h, h' => by
    simp only [Rep] at h h'
    obtain ⟨vs, rfl, _, h⟩ := h
    obtain ⟨vs', hv, _, h'⟩ := h'
    cases hv
    exact repL_det cs _ ob ob' h h'
  | .fn f cs, v, ob, ob', h, h' => by
    simp only [Rep] at h h'
    obtain ⟨g, vs, rfl, _, h⟩ := h
    obtain ⟨g', vs', hv, _, h'⟩ := h'
    simp only [Value.func.injEq] at hv
    obtain ⟨_, _, rfl⟩ := hv
    exact repL_det cs _ ob ob' h h'
  | .tup cs, v, ob, ob', h, h' => by
    simp only [Rep] at h h'
    obtain ⟨vs, rfl, h⟩ := h
    obtain ⟨vs', hv, h'⟩ := h'
    cases hv
    exact repL_det cs _ ob ob' h h'
theorem repL_det : ∀ (ts : List Tree) (vs : List Value) (ob ob' : List Nat), RepL ids S w ts vs ob → RepL ids S' w ts vs ob' → ob = ob'
  | [], vs, ob, ob', h, h' => by simp only [RepL] at h h'; rw [h.2, h'.2]
  | t :: ts, vs, ob, ob', h, h' => by
    simp only [RepL] at h h'
    obtain ⟨v, vs1, o1, o2, rfl, h1, h2, rfl⟩ := h
    obtain ⟨v', vs2, o3, o4, hv, h3, h4, rfl⟩ := h'
    cases hv
    rw [rep_det t v o1 o3 h1 h3, repL_det ts vs1 o2 o4 h2 h4]
theorem repCs_det : ∀ (ts : List Tree) (b off : Nat) (ob ob' : List Nat), RepCs ids S w ts b off ob → RepCs ids S' w ts b off ob' → ob = ob'
  | [], b, off, ob, ob', h, h' => by simp only [RepCs] at h h'; rw [h, h']
  | t :: ts, b, off, ob, ob', h, h' => by
    simp only [RepCs] at h h'
    obtain ⟨v, o1, o2, ⟨hc, _⟩, h1, h2, rfl⟩ := h
    obtain ⟨v', o3, o4, ⟨hc', _⟩, h3, h4, rfl⟩ := h'
    rw [hc] at hc'; cases hc'
    rw [rep_det t v o1 o3 h1 h3, repCs_det ts b _ o2 o4 h2 h4]
theorem repEs_det : ∀ (ts : List Tree) (sz b off : Nat) (ob ob' : List Nat), RepEs ids S w ts sz b off ob → RepEs ids S' w ts sz b off ob' → ob = ob'
  | [], sz, b, off, ob, ob', h, h' => by simp only [RepEs] at h h'; rw [h, h']
  | t :: ts, sz, b, off, ob, ob', h, h' => by
    simp only [RepEs] at h h'
    obtain ⟨o1, o2, h1, h2, rfl⟩ := h
    obtain ⟨o3, o4, h3, h4, rfl⟩ := h'
    have e2 := repEs_det ts sz b _ o2 o4 h2 h4
    have e1 : o1 = o3 := by
      match t, h1, h3 with
      | .agg cs, h1, h3 => simp only [RepE] at h1 h3; exact repCs_det cs b off o1 o3 h1.2 h3.2
      | .int .., h1, h3 | .bool .., h1, h3 | .str .., h1, h3 | .nil .., h1, h3 | .nilp, h1, h3 | .sl .., h1, h3 | .ptr .., h1, h3 | .fn .., h1, h3 | .tup .., h1, h3 | .dead, h1, h3 =>
        simp only [RepE] at h1 h3
        obtain ⟨_, v, ⟨hc, _⟩, hr⟩ := h1
        obtain ⟨_, v', ⟨hc', _⟩, hr'⟩ := h3
        rw [hc] at hc'; cases hc'
        exact rep_det _ v o1 o3 hr hr'
    rw [e1, e2]
end
end

/-- the in-and-out arguments hold their new contents -/
def RepIO (ids : Nat → Nat) (S : Nat → Prop) (w : World) : List Tree → List Value → List Tree → List Nat → Prop
  | [], _, outs, ob => outs = [] ∧ ob = []
  | _ :: _, [], _, _ => False
  | a :: as, v :: vs, outs, ob => if a.plain = true then RepIO ids S w as vs outs ob else
      ∃ t outs' ob1 ob2, outs = t :: outs' ∧ Rep ids S w t v ob1 ∧ RepIO ids S w as vs outs' ob2 ∧ ob = ob1 ++ ob2

/-- what a call does -/
def Post (ids : Nat → Nat) (S : Nat → Prop) (w : World) (args : List Tree) (vs : List Value) (ob : List Nat) (r : Tree) (outs : List Tree) (e : Ending) (w' : World) : Prop :=
  ∃ v S' obr obo, e = .returned v ∧ Rep ids S' w' r v obr ∧ RepIO ids S' w' args vs outs obo ∧ (obr ++ obo).Nodup ∧
    (∀ b, b ∈ obr ++ obo → ¬ S' b ∧ (b ∈ ob ∨ w.heap.size ≤ b)) ∧ (∀ b, S b → S' b) ∧ (∀ b, S' b → S b ∨ b ∈ ob ∨ w.heap.size ≤ b) ∧ (∀ b, S' b → b < w'.heap.size) ∧
    Evo (fun b => b ∈ ob ∨ w.heap.size ≤ b) w w'

def Contract (P : Program) (ids : Nat → Nat) (g : FuncId) (args : List Tree) (r : Tree) (outs : List Tree) : Prop :=
  ∀ (S : Nat → Prop) (w : World) (vs : Array Value) (ob : List Nat), RepL ids S w args vs.toList ob → ob.Nodup → (∀ b, b ∈ ob → ¬ S b) → (∀ b, S b → b < w.heap.size) →
    Calls P g vs w (Post ids S w args vs.toList ob r outs)

def Sound (P : Program) (ids : Nat → Nat) (σ : Oracle) : Prop :=
  ∀ g args r outs, σ (ids g) args = some (r, outs) → callable P g = true ∧ Contract P ids g args r outs

section
variable {P : Program} {ids : Nat → Nat} {S S' A : Nat → Prop} {N : Nat} {ρ : Roots} {fix : List Nat} {w w' : World} {tm : Array Value} {ds : List Deferred} {E : Env} {obs obs' : Nat → List Nat}
variable {K : Act → World → Prop} {Q : Exit → Act → World → Prop} {H : List Nat}

/-- several roots change at once, with the world -/
theorem Inv.multi {H' : List Nat} {E' : Env} (R : Nat → Option Tree) (Kf : Nat → Bool) (obR : Nat → List Nat) (h : Inv ids S A N ρ fix w tm E obs H)
    (hget : ∀ s, get E' s = match R s with | some T' => .tree T' | none => if Kf s then .undef else get E s)
    (hR : ∀ r T', R r = some T' → ∃ T, get E r = .tree T ∧ Rep ids S' w' T' (tm.getD r undef) (obR r) ∧ (∀ i e', T'.elem i = some e' → (∃ e, T.elem i = some e) ∧ T'.szOf = T.szOf) ∧ ∀ s, killedL ρ s r = true → Kf s = true)
    (hS : ∀ b, S b → S' b) (hst : ∀ b, S' b → b < w'.heap.size) (hsz : w.heap.size ≤ w'.heap.size)
    (hw : ∀ b, S b → w'.heap[b]? = w.heap[b]?) (hoth : ∀ s, R s = none → ∀ b, b ∈ obs s → w'.heap[b]? = w.heap[b]?)
    (hnd : ∀ r T', R r = some T' → (obR r).Nodup)
    (hob : ∀ r T', R r = some T' → ∀ b, b ∈ obR r → ¬ S' b ∧ A b ∧ (∀ s, R s = none → b ∉ obs s) ∧ ∀ r2 T2, R r2 = some T2 → r2 ≠ r → b ∉ obR r2)
    (hSo : ∀ s, R s = none → ∀ b, b ∈ obs s → ¬ S' b)
    (hnd' : H'.Nodup) (hH : ∀ b, b ∈ H' → ¬ S' b ∧ A b ∧ b < w'.heap.size ∧ (∀ r T', R r = some T' → b ∉ obR r) ∧ ∀ s, R s = none → b ∉ obs s) :
    Inv ids S' A N ρ fix w' tm E' (fun s => match R s with | some _ => obR s | none => if Kf s then [] else obs s) H' := by
  have hsub : ∀ s, R s = none → ∀ b, b ∈ (match R s with | some _ => obR s | none => if Kf s then [] else obs s) → b ∈ obs s := by
    intro s hs b hb
    simp only [hs] at hb
    split at hb
    · simp at hb
    · exact hb
  refine ⟨h.size, ?_, ?_, ?_, ?_, ?_, ?_, hnd', ?_, hst, fun b hb => h.fresh b (by omega)⟩
  · intro s
    cases hRs : R s with
    | some T' =>
      obtain ⟨T, _, h2, _⟩ := hR s T' hRs
      simp only [SlotOk, hget, hRs]; exact h2
    | none =>
      have h0 := h.slot s
      simp only [SlotOk, hget, hRs] at h0 ⊢
      by_cases hk : Kf s = true
      · simp [hk]
      · simp only [hk, Bool.false_eq_true, if_false]
        split at h0
        · rename_i t ht
          simp only [ht]
          exact rep_mono hS hw _ _ _ (fun b hb => hoth s hRs b hb) h0
        · rename_i r2 p ht
          simp only [ht]
          refine ⟨h0.1, fun T2 n hT2 hp => ?_⟩
          cases hR2 : R r2 with
          | some T' =>
            obtain ⟨T, g1, _, _, g4⟩ := hR r2 T' hR2
            have hkl : killedL ρ s r2 = false := by
              cases hq : killedL ρ s r2 with
              | false => rfl
              | true => exact absurd (g4 s hq) hk
            have hpn := okRef_long (h.ref s r2 p (.inl ht)) hkl
            subst hpn
            have := h0.2 T T g1 rfl
            simpa only [vAt] using this
          | none =>
            simp only [hR2] at hT2
            split at hT2
            · exact absurd hT2 (by simp)
            · have hr := h.slot r2
              simp only [SlotOk, hT2] at hr
              rw [vAt_frame p T2 n _ _ hr (fun b hb => hoth r2 hR2 b hb) hp]
              exact h0.2 T2 n hT2 hp
        · rename_i r2 p i j ht
          simp only [ht]
          refine ⟨h0.1, fun T2 n e hT2 hp he => ?_⟩
          cases hR2 : R r2 with
          | some T' =>
            obtain ⟨T, g1, _, g3, g4⟩ := hR r2 T' hR2
            have hkl : killedL ρ s r2 = false := by
              cases hq : killedL ρ s r2 with
              | false => rfl
              | true => exact absurd (g4 s hq) hk
            have hpn := okRef_long (h.ref s r2 p (.inr ⟨i, j, ht⟩)) hkl
            subst hpn
            simp only [hR2, AV.tree.injEq] at hT2
            subst hT2
            simp only [Tree.tAt, Option.some.injEq] at hp
            subst hp
            obtain ⟨⟨e0, he0⟩, hs0⟩ := g3 i e he
            obtain ⟨vn, b, h1, h2, h3⟩ := h0.2 T T e0 g1 rfl he0
            exact ⟨vn, b, by simpa only [vAt] using h1, h2, by rw [hs0]; exact h3⟩
          | none =>
            simp only [hR2] at hT2
            split at hT2
            · exact absurd hT2 (by simp)
            · have hr := h.slot r2
              simp only [SlotOk, hT2] at hr
              rw [vAt_frame p T2 n _ _ hr (fun b hb => hoth r2 hR2 b hb) hp]
              exact h0.2 T2 n e hT2 hp he
        · rename_i ht; simp only [ht]; exact h0
        · rename_i ht; simp only [ht]; exact h0
        · rename_i ht; simp only [ht]; exact h0
  · intro s r2 p hra
    cases hRs : R s with
    | some T' =>
      simp only [RefAt, hget, hRs] at hra
      rcases hra with hra | ⟨i, j, hra⟩ <;> cases hra
    | none =>
      simp only [RefAt, hget, hRs] at hra
      split at hra
      · rcases hra with hra | ⟨i, j, hra⟩ <;> cases hra
      · exact h.ref s r2 p hra
  · intro s f caps hcl
    rw [hget] at hcl
    cases hRs : R s with
    | some T' => simp only [hRs] at hcl; cases hcl
    | none =>
      simp only [hRs] at hcl
      split at hcl
      · cases hcl
      · exact h.clo s f caps hcl
  · intro s
    cases hRs : R s with
    | some T' => simpa using hnd s T' hRs
    | none => simp only; split; · simp
              · exact h.nodup s
  · intro s s' hss b hb hb'
    cases hRs : R s with
    | some T' =>
      simp only [hRs] at hb
      obtain ⟨_, _, g3, g4⟩ := hob s T' hRs b hb
      cases hRs' : R s' with
      | some T2 => simp only [hRs'] at hb'; exact g4 s' T2 hRs' (fun e => hss e.symm) hb'
      | none => exact g3 s' hRs' (hsub s' hRs' b hb')
    | none =>
      cases hRs' : R s' with
      | some T2 =>
        simp only [hRs'] at hb'
        exact (hob s' T2 hRs' b hb').2.2.1 s hRs (hsub s hRs b hb)
      | none => exact h.apart s s' hss b (hsub s hRs b hb) (hsub s' hRs' b hb')
  · intro s b hb
    cases hRs : R s with
    | some T' =>
      simp only [hRs] at hb
      obtain ⟨_, _, h2, _⟩ := hR s T' hRs
      obtain ⟨g1, g2, _⟩ := hob s T' hRs b hb
      exact ⟨g1, g2, rep_lt _ _ _ h2 b hb⟩
    | none =>
      have := hsub s hRs b hb
      obtain ⟨_, g2, g3⟩ := h.own s b this
      exact ⟨hSo s hRs b this, g2, by omega⟩
  · intro b hb
    obtain ⟨g1, g2, g3, g4, g5⟩ := hH b hb
    refine ⟨g1, g2, g3, fun s hbs => ?_⟩
    cases hRs : R s with
    | some T' => simp only [hRs] at hbs; exact g4 s T' hRs hbs
    | none => exact g5 s hRs (hsub s hRs b hbs)
end
end Go.Vs
/- A call's arguments. -/
namespace Go.Vs
open Go

section
variable {P : Program} {ids : Nat → Nat} {S S' A : Nat → Prop} {N : Nat} {ρ : Roots} {fix : List Nat} {w w' : World} {tm : Array Value} {ds : List Deferred} {E : Env} {obs obs' : Nat → List Nat}
variable {K : Act → World → Prop} {Q : Exit → Act → World → Prop} {H : List Nat}

theorem freezeRoots_sound : ∀ (L : List Nat) (S : Nat → Prop) (E : Env) (obs : Nat → List Nat) (ws : Env), Inv ids S A N ρ fix w tm E obs [] → freezeRoots ρ E L = some ws →
    ∃ S1 obs1, Inv ids S1 A N ρ fix w tm (ws ++ E) obs1 [] ∧ (∀ b, S b → S1 b) ∧ (∀ r, r ∈ L → ∀ b, b ∈ obs r → S1 b) ∧ (∀ b, S1 b → S b ∨ ∃ r, r ∈ L ∧ b ∈ obs r) ∧
      (∀ s b, b ∈ obs1 s → b ∈ obs s) ∧ (∀ s, s ∉ L → (get (ws ++ E) s = get E s ∧ obs1 s = obs s) ∨ get (ws ++ E) s = .undef) ∧
      (∀ s, s ∈ L → (∃ T, get E s = .tree T) ∧ ((∃ T, get (ws ++ E) s = .tree T) ∨ get (ws ++ E) s = .undef))
  | [], S, E, obs, ws, h, hs => by
    simp only [freezeRoots, Option.some.injEq] at hs; subst hs
    exact ⟨S, obs, h, fun _ h => h, by simp, fun b hb => .inl hb, fun _ _ h => h, fun s _ => .inl ⟨rfl, rfl⟩, by simp⟩
  | r :: L, S, E, obs, ws, h, hs => by
    simp only [freezeRoots] at hs
    split at hs
    · rename_i T hT
      split at hs
      · rename_i hpl
        obtain ⟨S1, obs1, a1, a2, a3, a4, a5, a6, a7⟩ := freezeRoots_sound L S E obs ws h hs
        have hor : obs r = [] := by
          have h0 := h.slot r
          simp only [SlotOk, hT] at h0
          exact rep_plain _ _ _ hpl h0
        refine ⟨S1, obs1, a1, a2, ?_, ?_, a5, ?_, ?_⟩
        · intro q hq b hb
          rcases List.mem_cons.1 hq with rfl | hq
          · rw [hor] at hb; simp at hb
          · exact a3 q hq b hb
        · intro b hb
          rcases a4 b hb with hb | ⟨q, hq, hb⟩
          · exact .inl hb
          · exact .inr ⟨q, by simp [hq], hb⟩
        · intro s hs; exact a6 s (fun hx => hs (by simp [hx]))
        · intro s hs
          by_cases hsL : s ∈ L
          · exact a7 s hsL
          · rcases List.mem_cons.1 hs with rfl | hs
            · refine ⟨⟨T, hT⟩, ?_⟩
              rcases a6 s hsL with ⟨g, _⟩ | g
              · exact .inl ⟨T, by rw [g, hT]⟩
              · exact .inr g
            · exact absurd hs hsL
      · rename_i hpl
        simp only [Option.bind_eq_some_iff, Option.some.injEq] at hs
        obtain ⟨ws1, hs1, rfl⟩ := hs
        have h1 := h.freezeRoot hT
        obtain ⟨S1, obs1, a1, a2, a3, a4, a5, a6, a7⟩ := freezeRoots_sound L _ _ _ ws1 h1 hs1
        have hsub : ∀ s b, b ∈ (if s = r then [] else if killedL ρ s r then [] else obs s) → b ∈ obs s := by
          intro s b hb
          split at hb
          · simp at hb
          · split at hb
            · simp at hb
            · exact hb
        refine ⟨S1, obs1, by rw [List.append_assoc]; exact a1, fun b hb => a2 b (.inl hb), ?_, ?_, fun s b hb => hsub s b (a5 s b hb), ?_, ?_⟩
        · intro q hq b hb
          rcases List.mem_cons.1 hq with rfl | hq
          · exact a2 b (.inr hb)
          · by_cases hqr : q = r
            · subst hqr; exact a2 b (.inr hb)
            · have h7 := (a7 q hq).1
              obtain ⟨T2, hT2⟩ := h7
              rw [get_chg] at hT2
              simp only [hqr, if_false] at hT2
              split at hT2
              · cases hT2
              · rename_i hk
                refine a3 q hq b ?_
                simp [hqr, hk, hb]
        · intro b hb
          rcases a4 b hb with (hb | hb) | ⟨q, hq, hb⟩
          · exact .inl hb
          · exact .inr ⟨r, by simp, hb⟩
          · exact .inr ⟨q, by simp [hq], hsub q b hb⟩
        · intro s hs
          have hsr : s ≠ r := fun e => hs (by simp [e])
          have hsL : s ∉ L := fun hx => hs (by simp [hx])
          rw [List.append_assoc]
          rcases a6 s hsL with ⟨g1, g2⟩ | g
          · rw [get_chg] at g1
            simp only [hsr, if_false] at g1 g2
            by_cases hk : killedL ρ s r = true
            · simp only [hk, if_true] at g1; exact .inr g1
            · simp only [hk, Bool.false_eq_true, if_false] at g1 g2; exact .inl ⟨g1, g2⟩
          · exact .inr g
        · intro s hs
          rw [List.append_assoc]
          by_cases hsL : s ∈ L
          · obtain ⟨⟨T2, hT2⟩, h8⟩ := a7 s hsL
            refine ⟨?_, h8⟩
            by_cases hsr : s = r
            · subst hsr; exact ⟨T, hT⟩
            · rw [get_chg] at hT2
              simp only [hsr, if_false] at hT2
              split at hT2
              · cases hT2
              · exact ⟨T2, hT2⟩
          · rcases List.mem_cons.1 hs with rfl | hs
            · refine ⟨⟨T, hT⟩, ?_⟩
              rcases a6 s hsL with ⟨g, _⟩ | g
              · left; refine ⟨T.shr, ?_⟩; rw [g, get_chg]; simp
              · exact .inr g
            · exact absurd hs hsL
    · cases hs

theorem capTrees_sound (hS : ∀ b, S b → S' b) (h : Inv ids S A N ρ fix w tm E obs []) : ∀ (caps : List Nat) (ts : List Tree), capTrees E caps = some ts → (∀ c, c ∈ caps → ∀ b, b ∈ obs c → S' b) →
    RepL ids S' w (Tree.shrL ts) (caps.map fun c => tm.getD c undef) []
  | [], ts, hc, _ => by simp only [capTrees, Option.some.injEq] at hc; subst hc; simp [Tree.shrL, RepL]
  | c :: caps, ts, hc, hb => by
    simp only [capTrees] at hc
    split at hc
    · rename_i t ht
      simp only [Option.bind_eq_some_iff, Option.some.injEq] at hc
      obtain ⟨ts', h1, rfl⟩ := hc
      have h0 := h.slot c
      simp only [SlotOk, ht] at h0
      simp only [Tree.shrL, List.map_cons, RepL]
      exact ⟨_, _, [], [], rfl, rep_shr hS t _ (obs c) (fun b hx => hb c (by simp) b hx) h0, capTrees_sound hS h caps ts' h1 (fun c' hc' => hb c' (by simp [hc'])), rfl⟩
    · cases hc

/-- an argument by value -/
theorem peekArg_sound (hS : ∀ b, S b → S' b) (h : Inv ids S A N ρ fix w tm E obs []) {o : Operand} {x : Opd} (ho : opdOk ids o x = true) {t : Tree} (hp : peekArg E x = some t)
    (hb : ∀ r, r ∈ bvRoots E [(x, false)] → ∀ b, b ∈ obs r → S' b) : Rep ids S' w t ((Act.mk tm ds).eval o) [] := by
  cases x with
  | c t0 =>
    simp only [peekArg, Option.some.injEq] at hp; subst hp
    obtain ⟨ob, h1, h2⟩ := h.peek (ds := ds) (opdOk_sound ho) (t := t0) rfl
    refine rep_shr hS t0 _ ob (fun b hx => ?_) h1
    have : ob = [] := by
      have ho' := opdOk_sound ho
      cases o with
      | const v => exact rep_det (S' := S) _ _ _ _ h1 (rep_const ho').1
      | func f =>
        simp only [OpdOk] at ho'; subst ho'
        simp only [Rep, Act.eval, RepL] at h1
        obtain ⟨_, _, _, _, _, h1⟩ := h1
        exact h1
      | _ => simp [OpdOk] at ho'
    subst this; simp at hx
  | v s =>
    have := opd_v ho; subst this
    have h0 := h.slot s
    simp only [peekArg] at hp
    simp only [bvRoots, List.append_nil] at hb
    split at hp
    · rename_i t0 ht
      simp only [Option.some.injEq] at hp; subst hp
      simp only [SlotOk, ht] at h0
      simp only [ht] at hb
      exact rep_shr hS t0 _ (obs s) (fun b hx => hb s (by simp) b hx) h0
    · rename_i r p ht
      simp only [Option.bind_eq_some_iff, Option.some.injEq] at hp
      obtain ⟨t0, htr, rfl⟩ := hp
      obtain ⟨T, hT, hn⟩ := treeAt_some htr
      simp only [SlotOk, ht] at h0
      simp only [ht] at hb
      have hv := h0.2 T t0 hT hn
      obtain ⟨vn, pre, on, post, g1, g2, g3⟩ := h.node hT hn
      rw [hv] at g1; simp only [Option.some.injEq] at g1; subst g1
      exact rep_shr hS t0 _ on (fun b hx => hb r (by simp) b (by rw [g2]; simp [hx])) g3
    · rename_i r p i j ht
      simp only [Option.bind_eq_some_iff, Option.some.injEq] at hp
      obtain ⟨n, htr, e, he, rfl⟩ := hp
      obtain ⟨T, hT, hn⟩ := treeAt_some htr
      simp only [SlotOk, ht] at h0
      simp only [ht] at hb
      obtain ⟨vn, b, g1, g2, g3⟩ := h0.2 T n e hT hn he
      obtain ⟨vn', pre, on, post, k1, k2, k3⟩ := h.node hT hn
      rw [g1] at k1; simp only [Option.some.injEq] at k1; subst k1
      obtain ⟨b', o1, o2, o3, m, q1, rfl, q3, q4, q5, _⟩ := rep_elem k3 he
      rw [g2] at q1; simp only [Option.some.injEq] at q1; subst q1
      simp only [eval_tmp, g3, Rep]
      have hbo : ∀ x, x ∈ b :: (o1 ++ o2 ++ o3) → S' x := fun x hx => hb r (by simp) x (by rw [k2]; simp only [List.mem_append]; exact .inl (.inr hx))
      refine ⟨trivial, b, i * n.szOf + j, rfl, hbo b (by simp), ?_⟩
      by_cases hj : j ≤ e.cells.length
      · have e1 : e.cells = e.cells.take j ++ e.cells.drop j := (List.take_append_drop j _).symm
        rw [e1, repCs_append] at q5
        obtain ⟨p1, p2, _, c2, rfl⟩ := q5
        have hl : (e.cells.take j).length = j := by simp; omega
        rw [hl] at c2
        exact repCs_shr hS _ _ _ p2 (fun x hx => hbo x (by simp [hx])) c2
      · rw [List.drop_of_length_le (by omega)]; simp [Tree.shrL, RepCs]
    · rename_i f caps ht
      simp only [Option.bind_eq_some_iff, Option.some.injEq] at hp
      obtain ⟨ts, hts, rfl⟩ := hp
      simp only [SlotOk, ht] at h0
      simp only [ht] at hb
      obtain ⟨_, g, hg, hv⟩ := h0
      simp only [eval_tmp, hv, Rep]
      exact ⟨g, _, rfl, hg, by simpa using capTrees_sound hS h caps ts hts (fun c hc => hb c hc)⟩
    · cases hp
end
end Go.Vs
/- A call's in-and-out arguments. -/
namespace Go.Vs
open Go

section
variable {P : Program} {ids : Nat → Nat} {S S' S1 S2 A : Nat → Prop} {N : Nat} {ρ : Roots} {fix : List Nat} {w w' : World} {tm : Array Value} {ds : List Deferred} {E E1 : Env} {obs obs1 : Nat → List Nat}
variable {K : Act → World → Prop} {Q : Exit → Act → World → Prop} {H : List Nat}

/-- the blocks O lie at the places L -/
def Owns (ids : Nat → Nat) (S : Nat → Prop) (w : World) (tm : Array Value) (E : Env) (obs : Nat → List Nat) (L : List (Nat × Path)) (O : List Nat) : Prop :=
  ∀ x, x ∈ O → ∃ r p T t v on, (r, p) ∈ L ∧ get E r = .tree T ∧ T.tAt p = some t ∧ vAt w T (tm.getD r undef) p = some v ∧ (∀ b, b ∈ on → b ∈ obs r) ∧ Rep ids S w t v on ∧ x ∈ on

theorem Owns.mono {L L' : List (Nat × Path)} {O : List Nat} (h : Owns ids S w tm E obs L O) (hL : ∀ e, e ∈ L → e ∈ L') : Owns ids S w tm E obs L' O := by
  intro x hx
  obtain ⟨r, p, T, t, v, on, h1, h2⟩ := h x hx
  exact ⟨r, p, T, t, v, on, hL _ h1, h2⟩

theorem nodupB_sound : ∀ {l : List Nat}, nodupB l = true → l.Nodup
  | [], _ => List.nodup_nil
  | x :: xs, h => by
    simp only [nodupB, Bool.and_eq_true, List.all_eq_true, bne_iff_ne] at h
    exact List.nodup_cons.2 ⟨fun hm => h.1 x hm rfl, nodupB_sound h.2⟩

theorem nodup_fst {L : List (Nat × Path)} (h : (L.map (·.1)).Nodup) {r : Nat} {p q : Path} (h1 : (r, p) ∈ L) (h2 : (r, q) ∈ L) : p = q := by
  induction L with
  | nil => simp at h1
  | cons e L ih =>
    simp only [List.map_cons, List.nodup_cons] at h
    have hno : ∀ q', (r, q') ∈ L → r = e.1 → False := by
      intro q' hq hr
      apply h.1
      rw [← hr]
      exact List.mem_map_of_mem (f := (·.1)) hq
    rcases List.mem_cons.1 h1 with h1 | h1
    · rcases List.mem_cons.1 h2 with h2 | h2
      · rw [← h1] at h2; exact (Prod.mk.inj h2).2.symm
      · exact absurd (hno q h2 (by rw [← h1])) id
    · rcases List.mem_cons.1 h2 with h2 | h2
      · exact absurd (hno p h1 (by rw [← h2])) id
      · exact ih h.2 h1 h2

theorem Owns.at {L : List (Nat × Path)} {O : List Nat} (h : Inv ids S A N ρ fix w tm E obs H) (hn : (L.map (·.1)).Nodup) (ho : Owns ids S w tm E obs L O) :
    ∀ x, x ∈ O → ∀ r p T t v on, (r, p) ∈ L → get E r = .tree T → T.tAt p = some t → vAt w T (tm.getD r undef) p = some v → Rep ids S w t v on → x ∈ obs r → x ∈ on := by
  intro x hx r p T t v on hL hT ht hv hr hxo
  obtain ⟨r', p', T', t', v', on', h1, h2, h3, h4, h5, h6, h7⟩ := ho x hx
  have hrr : r' = r := by
    refine Classical.byContradiction fun hne => ?_
    exact h.apart r' r hne x (h5 x h7) hxo
  subst hrr
  have := nodup_fst hn h1 hL
  subst this
  rw [h2] at hT; cases hT
  rw [h3] at ht; cases ht
  rw [h4] at hv; cases hv
  rw [rep_det _ _ _ _ hr h6]; exact h7

theorem callArgs_sound (hS : ∀ b, S b → S' b) (h : Inv ids S A N ρ fix w tm E obs []) : ∀ (ops : List Operand) (args : List (Opd × Bool)) (ts : List Tree), argsOk ids ops args = true →
    callArgs ρ E args = some ts → (∀ r, r ∈ bvRoots E args → ∀ b, b ∈ obs r → S' b) → ((ioPlaces E args).map (·.1)).Nodup →
    ioOk ts (args.map (·.2)) = true ∧ ∃ O, RepL ids S' w ts (ops.map (Act.mk tm ds).eval) O ∧ O.Nodup ∧ Owns ids S w tm E obs (ioPlaces E args) O
  | [], [], ts, _, hc, _, _ => by
    simp only [callArgs, Option.some.injEq] at hc; subst hc
    exact ⟨rfl, [], by simp [RepL], by simp, by intro x hx; simp at hx⟩
  | o :: ops, (x, false) :: args, ts, ha, hc, hb, hn => by
    simp only [argsOk, Bool.and_eq_true] at ha
    simp only [callArgs, Option.bind_eq_some_iff] at hc
    obtain ⟨t, h1, hc⟩ := hc
    split at hc
    · rename_i hpl
      simp only [Option.bind_eq_some_iff, Option.some.injEq] at hc
      obtain ⟨ts', h2, rfl⟩ := hc
      have e1 : bvRoots E ((x, false) :: args) = bvRoots E [(x, false)] ++ bvRoots E args := by
        cases x <;> simp [bvRoots]
      rw [e1] at hb
      have e2 : ioPlaces E ((x, false) :: args) = ioPlaces E args := by simp [ioPlaces]
      rw [e2] at hn ⊢
      obtain ⟨g0, O, g1, g2, g3⟩ := callArgs_sound hS h ops args ts' ha.2 h2 (fun r hr => hb r (by simp [hr])) hn
      refine ⟨by simp [ioOk, hpl, g0], O, ?_, g2, g3⟩
      simp only [List.map_cons, RepL]
      exact ⟨_, _, [], O, rfl, peekArg_sound hS h ha.1 h1 (fun r hr => hb r (by simp [hr])), g1, rfl⟩
    · cases hc
  | o :: ops, (x, true) :: args, ts, ha, hc, hb, hn => by
    simp only [argsOk, Bool.and_eq_true] at ha
    simp only [callArgs, Option.bind_eq_some_iff] at hc
    obtain ⟨⟨r, p⟩, hp, t, ht, hc⟩ := hc
    simp only at ht hc
    split at hc
    · cases hc
    · rename_i hpl
      simp only [Option.bind_eq_some_iff, Option.some.injEq] at hc
      obtain ⟨ts', h2, rfl⟩ := hc
      have e1 : bvRoots E ((x, true) :: args) = bvRoots E args := by cases x <;> simp [bvRoots]
      rw [e1] at hb
      have e2 : ioPlaces E ((x, true) :: args) = (r, p) :: ioPlaces E args := by simp [ioPlaces, hp]
      rw [e2] at hn ⊢
      simp only [List.map_cons, List.nodup_cons] at hn
      obtain ⟨g0, O, g1, g2, g3⟩ := callArgs_sound hS h ops args ts' ha.2 h2 (fun r hr => hb r hr) hn.2
      obtain ⟨T, hT, hnT⟩ := treeAt_some ht
      have hv := h.place (ds := ds) (opdOk_sound ha.1) hp hT hnT
      obtain ⟨vn, pre, on, post, k1, k2, k3⟩ := h.node hT hnT
      rw [hv] at k1; cases k1
      have hon : ∀ b, b ∈ on → b ∈ obs r := by intro b hb; rw [k2]; simp [hb]
      have hnr := h.nodup r
      rw [k2] at hnr
      refine ⟨by simp [ioOk, hpl, g0], on ++ O, ?_, ?_, ?_⟩
      · simp only [List.map_cons, RepL]
        exact ⟨_, _, on, O, rfl, rep_mono hS (fun _ _ => rfl) _ _ _ (fun _ _ => rfl) k3, g1, rfl⟩
      · refine List.nodup_append.2 ⟨(List.nodup_append.1 (List.nodup_append.1 hnr).1).2.1, g2, ?_⟩
        rintro a ha' b hb' rfl
        obtain ⟨r', p', T', t', v', on', q1, q2, q3, q4, q5, q6, q7⟩ := g3 a hb'
        have hrr : r ≠ r' := by
          rintro rfl
          exact hn.1 (List.mem_map_of_mem (f := (·.1)) q1)
        exact h.apart r r' hrr a (hon a ha') (q5 a q7)
      · intro b hb'
        rcases List.mem_append.1 hb' with hb' | hb'
        · exact ⟨r, p, T, t, _, on, by simp, hT, hnT, hv, hon, k3, hb'⟩
        · exact (g3.mono (fun e he => by simp [he])) b hb'
  | [], _ :: _, _, ha, _, _, _ => by simp [argsOk] at ha
  | _ :: _, [], _, ha, _, _, _ => by simp [argsOk] at ha

/-- a new tree for the same value has the old one's elements -/
theorem rep_shape {t0 t' : Tree} {v : Value} {on on' : List Nat} (h0 : Rep ids S w t0 v on) (h' : Rep ids S' w' t' v on') (ho : t0.ownTop = true) :
    ∀ i e', t'.elem i = some e' → ∃ e, t0.elem i = some e := by
  intro i e' he'
  cases t' with
  | sl o sz es =>
    cases o with
    | false => simp [Tree.elem] at he'
    | true =>
      simp only [Rep] at h'
      rcases h' with ⟨rfl, _⟩ | ⟨b, cap, ob', rfl, _⟩
      · simp [Tree.elem] at he'
      have hlt := (List.getElem?_eq_some_iff.1 he').1
      cases t0 with
      | sl o0 sz0 es0 =>
        simp only [Tree.ownTop] at ho; subst ho
        simp only [Rep] at h0
        rcases h0 with ⟨_, hv, _⟩ | ⟨b2, cap2, ob2, hv, _⟩
        · cases hv
        simp only [Value.slice.injEq] at hv
        exact ⟨_, List.getElem?_eq_getElem (by omega)⟩
      | nil =>
        simp only [Rep, Value.slice.injEq] at h0
        obtain ⟨⟨a, hv⟩, _⟩ := h0
        omega
      | ptr o0 cs =>
        cases o0 <;> simp only [Rep] at h0
        · obtain ⟨_, b2, off, hv, _⟩ := h0; cases hv
        · obtain ⟨b2, ob2, hv, _⟩ := h0; cases hv
      | dead => simp [Tree.ownTop] at ho
      | agg cs => simp only [Rep] at h0; obtain ⟨vs, hv, _⟩ := h0; cases hv
      | fn f cs => simp only [Rep] at h0; obtain ⟨g, vs, hv, _⟩ := h0; cases hv
      | tup cs => simp only [Rep] at h0; obtain ⟨vs, hv, _⟩ := h0; cases hv
      | _ => simp only [Rep] at h0; cases h0.1
  | ptr o cs =>
    cases o with
    | false => simp [Tree.elem] at he'
    | true =>
      simp only [Tree.elem] at he'
      split at he'
      · rename_i hi
        simp only [Rep] at h'
        obtain ⟨b, ob', rfl, _⟩ := h'
        cases t0 with
        | sl o0 sz0 es0 =>
          cases o0 <;> simp only [Rep] at h0
          · obtain ⟨_, _, a, c, hv, _⟩ := h0; cases hv
          · rcases h0 with ⟨_, hv, _⟩ | ⟨b2, c, ob2, hv, _⟩ <;> cases hv
        | nil => simp only [Rep] at h0; obtain ⟨⟨a, hv⟩, _⟩ := h0; cases hv
        | ptr o0 cs0 =>
          simp only [Tree.ownTop] at ho; subst ho
          exact ⟨.agg cs0, by simp [Tree.elem, hi]⟩
        | dead => simp [Tree.ownTop] at ho
        | agg cs => simp only [Rep] at h0; obtain ⟨vs, hv, _⟩ := h0; cases hv
        | fn f cs => simp only [Rep] at h0; obtain ⟨g, vs, hv, _⟩ := h0; cases hv
        | tup cs => simp only [Rep] at h0; obtain ⟨vs, hv, _⟩ := h0; cases hv
        | _ => simp only [Rep] at h0; cases h0.1
      · cases he'
  | _ => simp [Tree.elem] at he'

/-- what is laid back: for each root its new tree and its blocks -/
structure BackOk (ids : Nat → Nat) (S2 : Nat → Prop) (w' : World) (tm : Array Value) (E1 : Env) (obs1 : Nat → List Nat) (O obo : List Nat) (L : List (Nat × Tree × List Nat)) : Prop where
  one : ∀ e, e ∈ L → ∃ T, get E1 e.1 = .tree T ∧ Rep ids S2 w' e.2.1 (tm.getD e.1 undef) e.2.2 ∧ ∀ i e', e.2.1.elem i = some e' → (∃ e0, T.elem i = some e0) ∧ e.2.1.szOf = T.szOf
  nodup : ∀ e, e ∈ L → e.2.2.Nodup
  from' : ∀ e, e ∈ L → ∀ b, b ∈ e.2.2 → (b ∈ obs1 e.1 ∧ b ∉ O) ∨ b ∈ obo
  apart : ∀ e1 e2, e1 ∈ L → e2 ∈ L → e1.1 ≠ e2.1 → ∀ b, b ∈ e1.2.2 → b ∉ e2.2.2

theorem back_sound {O : List Nat} {L0 : List (Nat × Path)} (h : Inv ids S1 A N ρ fix w tm E1 obs1 [])
    (hO : ∀ x, x ∈ O → ∀ r p T t v on, (r, p) ∈ L0 → get E1 r = .tree T → T.tAt p = some t → vAt w T (tm.getD r undef) p = some v → Rep ids S1 w t v on → x ∈ obs1 r → x ∈ on)
    (hS : ∀ b, S1 b → S2 b) (hSO : ∀ b, S1 b → b ∉ O) (hw : ∀ b, b < w.heap.size → b ∉ O → w'.heap[b]? = w.heap[b]?) :
    ∀ (ops : List Operand) (args : List (Opd × Bool)) (ts outs : List Tree) (ws : Env) (obo : List Nat), argsOk ids ops args = true → ioOk ts (args.map (·.2)) = true →
    backArgs ρ E1 args outs = some ws → RepIO ids S2 w' ts (ops.map (Act.mk tm ds).eval) outs obo → (∀ e, e ∈ ioPlaces E1 args → e ∈ L0) → ((ioPlaces E1 args).map (·.1)).Nodup →
    (∀ x, x ∈ obo → x ∈ O ∨ w.heap.size ≤ x) → obo.Nodup →
    ∃ L : List (Nat × Tree × List Nat), ws = L.flatMap (fun e => chg ρ e.1 e.2.1) ∧ L.map (·.1) = (ioPlaces E1 args).map (·.1) ∧ BackOk ids S2 w' tm E1 obs1 O obo L
  | [], [], ts, outs, ws, obo, _, hi, hb, hr, _, _, _, _ => by
    cases outs with
    | nil =>
      simp only [backArgs, Option.some.injEq] at hb; subst hb
      exact ⟨[], rfl, rfl, by simp, by simp, by simp, by simp⟩
    | cons t outs => simp [backArgs] at hb
  | o :: ops, (x, false) :: args, ts, outs, ws, obo, ha, hi, hb, hr, hL, hn, hf, hnd => by
    cases ts with
    | nil => simp [ioOk] at hi
    | cons t ts =>
      simp only [List.map_cons, ioOk, Bool.and_eq_true, beq_iff_eq, Bool.not_false] at hi
      simp only [argsOk, Bool.and_eq_true] at ha
      have hb' : backArgs ρ E1 args outs = some ws := by simpa [backArgs] using hb
      simp only [List.map_cons, RepIO, hi.1, if_true] at hr
      have e2 : ioPlaces E1 ((x, false) :: args) = ioPlaces E1 args := by simp [ioPlaces]
      rw [e2] at hL hn ⊢
      exact back_sound h hO hS hSO hw ops args ts outs ws obo ha.2 hi.2 hb' hr hL hn hf hnd
  | o :: ops, (x, true) :: args, ts, outs, ws, obo, ha, hi, hb, hr, hL, hn, hf, hnd => by
    cases ts with
    | nil => simp [ioOk] at hi
    | cons a ts =>
      simp only [List.map_cons, ioOk, Bool.and_eq_true, beq_iff_eq, Bool.not_true] at hi
      simp only [argsOk, Bool.and_eq_true] at ha
      simp only [List.map_cons, RepIO, hi.1, Bool.false_eq_true, if_false] at hr
      obtain ⟨t, outs', on', obo', rfl, hr1, hr2, rfl⟩ := hr
      simp only [backArgs, Option.bind_eq_some_iff] at hb
      obtain ⟨⟨r, p⟩, hp, hb⟩ := hb
      simp only at hb
      split at hb
      · rename_i T hT
        simp only [Option.bind_eq_some_iff] at hb
        obtain ⟨t0, ht0, hb⟩ := hb
        split at hb
        · rename_i hsh
          simp only [Option.bind_eq_some_iff, Option.some.injEq] at hb
          obtain ⟨T', hu, ws', hb', rfl⟩ := hb
          have e2 : ioPlaces E1 ((x, true) :: args) = (r, p) :: ioPlaces E1 args := by simp [ioPlaces, hp]
          rw [e2] at hL hn ⊢
          simp only [List.map_cons, List.nodup_cons] at hn
          obtain ⟨hn1, hn2, hn3⟩ := List.nodup_append.1 hnd
          obtain ⟨L, rfl, g2, g3⟩ := back_sound h hO hS hSO hw ops args ts outs' ws' obo' ha.2 hi.2 hb' hr2 (fun e he => hL e (by simp [he])) hn.2 (fun x hx => hf x (by simp [hx])) hn2
          have h0 := h.slot r
          simp only [SlotOk, hT] at h0
          obtain ⟨vn, pre, on, post, k1, k2, k3, k4⟩ := rep_at p T t0 _ _ h0 ht0
          have hv := h.place (ds := ds) (opdOk_sound ha.1) hp hT ht0
          rw [hv] at k1; cases k1
          have hnr := h.nodup r
          rw [k2] at hnr
          obtain ⟨m1, m2, m3⟩ := List.nodup_append.1 hnr
          obtain ⟨m4, m5, m6⟩ := List.nodup_append.1 m1
          have hpO : ∀ b, b ∈ pre ∨ b ∈ post → b ∈ obs1 r ∧ b ∉ O := by
            intro b hb
            have hbo : b ∈ obs1 r := by rw [k2]; rcases hb with hb | hb <;> simp [hb]
            refine ⟨hbo, fun hbO => ?_⟩
            have := hO b hbO r p T t0 _ on (hL _ (by simp)) hT ht0 hv k3 hbo
            rcases hb with hb | hb
            · exact m6 b hb b this rfl
            · exact m3 b (by simp [this]) b hb rfl
          have hlt : ∀ b, b ∈ obs1 r → b < w.heap.size := fun b hb => (h.own r b hb).2.2
          have hfr : ∀ b, b ∈ pre ∨ b ∈ post → w'.heap[b]? = w.heap[b]? := fun b hb => hw b (hlt b (hpO b hb).1) (hpO b hb).2
          obtain ⟨T2, hu2, hrep⟩ := k4 S2 w' t on' hS (fun b hb => hw b (h.st b hb) (hSO b hb)) (fun b hb => hfr b (.inl hb)) (fun b hb => hfr b (.inr hb)) hr1
          rw [hu] at hu2; cases hu2
          have hon' : ∀ b, b ∈ on' → b ∈ O ∨ w.heap.size ≤ b := fun b hb => hf b (by simp [hb])
          have hpn : ∀ b, b ∈ pre ∨ b ∈ post → ∀ c, (c ∈ O ∨ w.heap.size ≤ c) → b ≠ c := by
            rintro b hb c hc rfl
            obtain ⟨q1, q2⟩ := hpO b hb
            rcases hc with hc | hc
            · exact q2 hc
            · have := hlt b q1; omega
          have hmem : ∀ b, b ∈ pre ++ on' ++ post → (b ∈ pre ∨ b ∈ post) ∨ b ∈ on' := by
            intro b hb
            simp only [List.mem_append] at hb
            rcases hb with (hb | hb) | hb
            · exact .inl (.inl hb)
            · exact .inr hb
            · exact .inl (.inr hb)
          have hdis : ∀ e, e ∈ L → ∀ b, b ∈ pre ++ on' ++ post → b ∉ e.2.2 := by
            intro e he b hb hbe
            have hre : r ≠ e.1 := by
              rintro rfl
              exact hn.1 (g2 ▸ List.mem_map_of_mem (f := (·.1)) he)
            rcases hmem b hb with hb | hb
            · rcases g3.from' e he b hbe with ⟨q1, q2⟩ | q
              · exact h.apart r e.1 hre b (hpO b hb).1 q1
              · exact hpn b hb b (hf b (by simp [q])) rfl
            · rcases g3.from' e he b hbe with ⟨q1, q2⟩ | q
              · rcases hon' b hb with hb' | hb'
                · exact q2 hb'
                · have := (h.own e.1 b q1).2.2; omega
              · exact hn3 b hb b q rfl
          refine ⟨(r, T', pre ++ on' ++ post) :: L, rfl, by simp [g2], ?_, ?_, ?_, ?_⟩
          · intro e he
            rcases List.mem_cons.1 he with rfl | he
            · refine ⟨T, hT, hrep, upd_elem hu ?_⟩
              rintro rfl
              rcases hsh.2 with hz | hz
              · refine .inr ?_
                simp only [Tree.tAt, Option.some.injEq] at ht0; subst ht0
                exact ⟨hz, rep_shape k3 hr1 hsh.1⟩
              · refine .inl fun i => ?_
                unfold Tree.isDead at hz
                split at hz
                · rfl
                · cases hz
            · exact g3.one e he
          · intro e he
            rcases List.mem_cons.1 he with rfl | he
            · refine List.nodup_append.2 ⟨List.nodup_append.2 ⟨m4, hn1, fun b hb c hc => hpn b (.inl hb) c (hon' c hc)⟩, m2, ?_⟩
              intro b hb c hc hbc
              rcases List.mem_append.1 hb with hb | hb
              · exact m3 b (by simp [hb]) c hc hbc
              · exact hpn c (.inr hc) b (hon' b hb) hbc.symm
            · exact g3.nodup e he
          · intro e he b hb
            rcases List.mem_cons.1 he with rfl | he
            · rcases hmem b hb with hb | hb
              · exact .inl (hpO b hb)
              · exact .inr (by simp [hb])
            · rcases g3.from' e he b hb with q | q
              · exact .inl q
              · exact .inr (by simp [q])
          · intro e1 e2 he1 he2 hne b hb hb2
            rcases List.mem_cons.1 he1 with rfl | he1
            · rcases List.mem_cons.1 he2 with rfl | he2
              · exact hne rfl
              · exact hdis e2 he2 b hb hb2
            · rcases List.mem_cons.1 he2 with rfl | he2
              · exact hdis e1 he1 b hb2 hb
              · exact g3.apart e1 e2 he1 he2 hne b hb hb2
        · cases hb
      · cases hb
  | [], _ :: _, _, _, _, _, ha, _, _, _, _, _, _, _ => by simp [argsOk] at ha
  | _ :: _, [], _, _, _, _, ha, _, _, _, _, _, _, _ => by simp [argsOk] at ha
end
end Go.Vs
/- A call. -/
namespace Go.Vs
open Go

theorem killedL_none {ρ : Roots} {r q : Nat} (h : ρ.all (fun e => e.1 != r) = true) : killedL ρ r q = false := by
  simp only [killedL, List.any_eq_false]
  simp only [List.all_eq_true, bne_iff_ne] at h
  intro e he
  simp [h e he]

abbrev Backs := List (Nat × Tree × List Nat)

def backOf (L : Backs) (s : Nat) : Option (Nat × Tree × List Nat) := L.find? fun e => decide (e.1 = s)

theorem backOf_some {L : Backs} {s : Nat} {e : Nat × Tree × List Nat} (h : backOf L s = some e) : e ∈ L ∧ e.1 = s :=
  ⟨List.mem_of_find?_eq_some h, by simpa using List.find?_some h⟩

theorem backOf_none {L : Backs} {s : Nat} (h : backOf L s = none) : ∀ e, e ∈ L → e.1 ≠ s := by
  intro e he hs
  have := List.find?_eq_none.1 h e he
  simp [hs] at this

theorem get_multi {ρ : Roots} (E : Env) (s : Nat) : ∀ (L : Backs), (∀ e, e ∈ L → ∀ e', e' ∈ L → killedL ρ e.1 e'.1 = false) →
    get (L.flatMap (fun e => chg ρ e.1 e.2.1) ++ E) s = match backOf L s with | some e => .tree e.2.1 | none => if L.any (fun e => killedL ρ s e.1) then .undef else get E s
  | [], _ => by simp [backOf]
  | e :: L, hk => by
    rw [List.flatMap_cons, List.append_assoc, get_chg]
    by_cases hs : s = e.1
    · subst hs; simp [backOf]
    · have hs' : ¬ e.1 = s := fun x => hs x.symm
      have ih := get_multi (ρ := ρ) E s L (fun a ha b hb => hk a (by simp [ha]) b (by simp [hb]))
      have e1 : backOf (e :: L) s = backOf L s := by simp [backOf, hs']
      simp only [hs, if_false, e1]
      rw [ih]
      cases hb : backOf L s with
      | some e2 =>
        obtain ⟨g1, g2⟩ := backOf_some hb
        have : killedL ρ s e.1 = false := by rw [← g2]; exact hk e2 (by simp [g1]) e (by simp)
        simp [this]
      | none =>
        by_cases hq : killedL ρ s e.1 = true
        · have : (e :: L).any (fun e => killedL ρ s e.1) = true := by simp [hq]
          simp only [hq, this, if_true]
        · have : (e :: L).any (fun e => killedL ρ s e.1) = L.any (fun e => killedL ρ s e.1) := by simp [hq]
          simp only [hq, this, Bool.false_eq_true, if_false]

section
variable {P : Program} {ids : Nat → Nat} {S S' S1 S2 A : Nat → Prop} {N : Nat} {ρ : Roots} {fix : List Nat} {w w' : World} {tm : Array Value} {ds : List Deferred} {E E1 : Env} {obs obs1 : Nat → List Nat}
variable {K : Act → World → Prop} {Q : Exit → Act → World → Prop} {H : List Nat}

theorem call_core {O obr obo : List Nat} {ops : List Operand} {args : List (Opd × Bool)} {ts outs : List Tree} {t : Tree} {v : Value} {w2 : Env} (h : Inv ids S1 A N ρ fix w tm E1 obs1 [])
    (hO : ∀ x, x ∈ O → ∀ r p T t v on, (r, p) ∈ ioPlaces E1 args → get E1 r = .tree T → T.tAt p = some t → vAt w T (tm.getD r undef) p = some v → Rep ids S1 w t v on → x ∈ obs1 r → x ∈ on)
    (hOr : ∀ x, x ∈ O → ∃ r p, (r, p) ∈ ioPlaces E1 args ∧ x ∈ obs1 r)
    (hS : ∀ b, S1 b → S2 b) (hS2 : ∀ b, S2 b → S1 b ∨ b ∈ O ∨ w.heap.size ≤ b) (hst : ∀ b, S2 b → b < w'.heap.size) (_hSO : ∀ b, S2 b → b ∈ O → S1 b ∨ ∀ r p, (r, p) ∈ ioPlaces E1 args → True)
    (he : Evo (fun b => b ∈ O ∨ w.heap.size ≤ b) w w') (ha : argsOk ids ops args = true) (hi : ioOk ts (args.map (·.2)) = true) (hb : backArgs ρ E1 args outs = some w2)
    (hr : Rep ids S2 w' t v obr) (hio : RepIO ids S2 w' ts (ops.map (Act.mk tm ds).eval) outs obo) (hnd : (obr ++ obo).Nodup)
    (hof : ∀ b, b ∈ obr ++ obo → ¬ S2 b ∧ (b ∈ O ∨ w.heap.size ≤ b)) (hroots : ∀ r p, (r, p) ∈ ioPlaces E1 args → ρ.all (fun e => e.1 != r) = true)
    (hn : ((ioPlaces E1 args).map (·.1)).Nodup) :
    ∃ obs', Inv ids S2 A N ρ fix w' tm (w2 ++ E1) obs' obr := by
  have hSd : ∀ b, S1 b → b ∉ O := by
    intro b hb hbO
    obtain ⟨r, p, _, h2⟩ := hOr b hbO
    exact (h.own r b h2).1 hb
  obtain ⟨hn1, hn2, hn3⟩ := List.nodup_append.1 hnd
  obtain ⟨L, rfl, hL, hB⟩ := back_sound (ds := ds) h hO hS hSd (fun b hb hbO => he.block b hb (fun hx => hx.elim hbO (fun hx => by omega))) ops args ts outs w2 obo ha hi hb hio
    (fun _ h => h) hn (fun x hx => (hof x (by simp [hx])).2) hn2
  have hroot : ∀ e, e ∈ L → ρ.all (fun x => x.1 != e.1) = true := by
    intro e hem
    have : e.1 ∈ L.map (·.1) := List.mem_map_of_mem (f := (·.1)) hem
    rw [hL, List.mem_map] at this
    obtain ⟨⟨r, p⟩, h1, h2⟩ := this
    simp only at h2; subst h2
    exact hroots _ p h1
  have hlt : ∀ s b, b ∈ obs1 s → b < w.heap.size := fun s b hb => (h.own s b hb).2.2
  have hno : ∀ s, backOf L s = none → ∀ b, b ∈ obs1 s → b ∉ O ∧ b < w.heap.size := by
    intro s hs b hb
    refine ⟨fun hbO => ?_, hlt s b hb⟩
    obtain ⟨r, p, h1, h2⟩ := hOr b hbO
    have hm : r ∈ L.map (·.1) := by rw [hL]; exact List.mem_map_of_mem (f := (·.1)) h1
    obtain ⟨e, he1, he2⟩ := List.mem_map.1 hm
    have := backOf_none hs e he1
    exact h.apart r s (fun x => this (by rw [he2, x])) b h2 hb
  refine ⟨_, Inv.multi (S' := S2) (w' := w') (H' := obr) (fun s => (backOf L s).map (·.2.1)) (fun s => L.any (fun e => killedL ρ s e.1)) (fun s => ((backOf L s).map (·.2.2)).getD []) h ?_ ?_ hS hst he.size ?_ ?_ ?_ ?_ ?_ hn1 ?_⟩
  · intro s
    rw [get_multi E1 s L (fun e he e' he' => killedL_none (hroot e he))]
    cases backOf L s <;> rfl
  · intro r T' hRr
    simp only [Option.map_eq_some_iff] at hRr
    obtain ⟨e, h1, rfl⟩ := hRr
    obtain ⟨g1, rfl⟩ := backOf_some h1
    obtain ⟨T, k1, k2, k3⟩ := hB.one e g1
    refine ⟨T, k1, by simpa [h1] using k2, k3, fun s hs => ?_⟩
    exact List.any_eq_true.2 ⟨e, g1, hs⟩
  · exact fun b hb => he.block b (h.st b hb) (fun hx => hx.elim (hSd b hb) (fun hx => by have := h.st b hb; omega))
  · intro s hs b hb
    simp only [Option.map_eq_none_iff] at hs
    obtain ⟨g1, g2⟩ := hno s hs b hb
    exact he.block b g2 (fun hx => hx.elim g1 (fun hx => by omega))
  · intro r T' hRr
    simp only [Option.map_eq_some_iff] at hRr
    obtain ⟨e, h1, rfl⟩ := hRr
    simpa [h1] using hB.nodup e (backOf_some h1).1
  · intro r T' hRr b hb
    simp only [Option.map_eq_some_iff] at hRr
    obtain ⟨e, h1, rfl⟩ := hRr
    obtain ⟨g1, rfl⟩ := backOf_some h1
    simp only [h1, Option.map_some, Option.getD_some] at hb
    have hfrom := hB.from' e g1 b hb
    refine ⟨?_, ?_, ?_, ?_⟩
    · intro hS2b
      rcases hfrom with ⟨q1, q2⟩ | q
      · rcases hS2 b hS2b with q | q | q
        · exact (h.own e.1 b q1).1 q
        · exact q2 q
        · have := hlt e.1 b q1; omega
      · exact (hof b (by simp [q])).1 hS2b
    · rcases hfrom with ⟨q1, q2⟩ | q
      · exact (h.own e.1 b q1).2.1
      · rcases (hof b (by simp [q])).2 with q | q
        · obtain ⟨r, p, _, h2⟩ := hOr b q
          exact (h.own r b h2).2.1
        · exact h.fresh b q
    · intro s hs hbs
      simp only [Option.map_eq_none_iff] at hs
      rcases hfrom with ⟨q1, q2⟩ | q
      · exact h.apart e.1 s (fun x => backOf_none hs e g1 x) b q1 hbs
      · obtain ⟨g1, g2⟩ := hno s hs b hbs
        rcases (hof b (by simp [q])).2 with q | q
        · exact g1 q
        · omega
    · intro r2 T2 hR2 hne
      simp only [Option.map_eq_some_iff] at hR2
      obtain ⟨e2, k1, rfl⟩ := hR2
      obtain ⟨k2, rfl⟩ := backOf_some k1
      simp only [k1, Option.map_some, Option.getD_some]
      exact hB.apart e e2 g1 k2 (fun x => hne x.symm) b hb
  · intro s hs b hb hS2b
    simp only [Option.map_eq_none_iff] at hs
    obtain ⟨g1, g2⟩ := hno s hs b hb
    rcases hS2 b hS2b with q | q | q
    · exact (h.own s b hb).1 q
    · exact g1 q
    · omega
  · intro b hb
    obtain ⟨q1, q2⟩ := hof b (by simp [hb])
    refine ⟨q1, ?_, rep_lt _ _ _ hr b hb, ?_, ?_⟩
    · rcases q2 with q | q
      · obtain ⟨r, p, _, h2⟩ := hOr b q
        exact (h.own r b h2).2.1
      · exact h.fresh b q
    · intro r T' hRr hbr
      simp only [Option.map_eq_some_iff] at hRr
      obtain ⟨e, h1, rfl⟩ := hRr
      obtain ⟨g1, rfl⟩ := backOf_some h1
      simp only [h1, Option.map_some, Option.getD_some] at hbr
      rcases hB.from' e g1 b hbr with ⟨k1, k2⟩ | k
      · rcases q2 with q | q
        · exact k2 q
        · have := hlt e.1 b k1; omega
      · exact hn3 b hb b k rfl
    · intro s hs hbs
      simp only [Option.map_eq_none_iff] at hs
      obtain ⟨g1, g2⟩ := hno s hs b hbs
      rcases q2 with q | q
      · exact g1 q
      · omega

/-- the places stay where roots were frozen -/
theorem backArgs_places {ρ : Roots} {E E1 : Env} {L : List Nat} (h6 : ∀ s, s ∉ L → get E1 s = get E s ∨ get E1 s = .undef)
    (h7 : ∀ s, s ∈ L → (∃ T, get E s = .tree T) ∧ ((∃ T, get E1 s = .tree T) ∨ get E1 s = .undef)) :
    ∀ (args : List (Opd × Bool)) (outs : List Tree) (ws : Env), backArgs ρ E1 args outs = some ws →
      ioPlaces E1 args = ioPlaces E args ∧ ∀ r p, (r, p) ∈ ioPlaces E1 args → ∃ T, get E1 r = .tree T
  | [], outs, ws, h => by simp [ioPlaces]
  | (x, false) :: args, outs, ws, h => by
    have hb' : backArgs ρ E1 args outs = some ws := by simpa [backArgs] using h
    simpa [ioPlaces] using backArgs_places h6 h7 args outs ws hb'
  | (x, true) :: args, [], ws, h => by simp [backArgs] at h
  | (x, true) :: args, t :: outs, ws, h => by
    simp only [backArgs, Option.bind_eq_some_iff] at h
    obtain ⟨⟨r, p⟩, hp, h⟩ := h
    simp only at h
    split at h
    · rename_i T hT
      simp only [Option.bind_eq_some_iff] at h
      obtain ⟨t0, ht0, h⟩ := h
      split at h
      · simp only [Option.bind_eq_some_iff] at h
        obtain ⟨T', _, ws', hb', _⟩ := h
        obtain ⟨g1, g2⟩ := backArgs_places h6 h7 args outs ws' hb'
        have hp' : place E x = some (r, p) := by
          cases x with
          | c t => simp [place] at hp
          | v s =>
            simp only [place] at hp ⊢
            by_cases hs : s ∈ L
            · obtain ⟨⟨T0, hT0⟩, h8⟩ := h7 s hs
              rcases h8 with ⟨T1, hT1⟩ | hT1
              · simp only [hT1] at hp; simpa only [hT0] using hp
              · simp [hT1] at hp
            · rcases h6 s hs with h8 | h8
              · rw [h8] at hp; exact hp
              · simp [h8] at hp
        refine ⟨by simp [ioPlaces, hp, hp', g1], ?_⟩
        intro r' p' hm
        simp only [ioPlaces, hp, Option.toList, List.singleton_append, List.mem_cons] at hm
        rcases hm with hm | hm
        · cases hm; exact ⟨T, hT⟩
        · exact g2 r' p' hm
      · cases h
    · cases h

theorem run_callFunc {g : FuncId} {args : Array Value} {w : World} (h : callable P g = true) : (callFunc g args).run P w = .ok (.enter g args) w := by
  unfold callable at h
  split at h
  · rename_i fn hf
    simp only [Bool.and_eq_true, Bool.not_eq_true'] at h
    have hb : ¬ fn.body = none := by
      intro hq; rw [hq] at h; simp at h
    have h2 : ¬ fn.name = "runtime.NumGoroutine" := by simpa using h.2
    simp [callFunc, hf, h2, hb]
  · cases h

theorem repIO_noSh : ∀ (as : List Tree) (vs : List Value) (outs : List Tree) (ob : List Nat), Tree.noShL outs = true → RepIO ids S w as vs outs ob → RepIO ids S' w as vs outs ob
  | [], vs, outs, ob, hn, h => by simpa [RepIO] using h
  | a :: as, [], outs, ob, hn, h => by simp [RepIO] at h
  | a :: as, v :: vs, outs, ob, hn, h => by
    simp only [RepIO] at h ⊢
    split at h
    · rename_i hp
      simp only [hp, if_true]; exact repIO_noSh as vs outs ob hn h
    · rename_i hp
      simp only [hp]
      obtain ⟨t, outs', o1, o2, rfl, h1, h2, rfl⟩ := h
      simp only [Tree.noShL, Bool.and_eq_true] at hn
      exact ⟨t, outs', o1, o2, rfl, rep_noSh _ _ _ hn.1 h1, repIO_noSh as vs outs' o2 hn.2 h2, rfl⟩

/-- behind a call: the result is put -/
theorem call_put {d : Option Nat} {t : Tree} {v : Value} {ob : List Nat} {ws : Env} {o : Oper} (h : Inv ids S' A N ρ fix w' tm (ws ++ E) obs ob) (hd : ∀ x, d = some x → x < N ∧ x ∉ fix) (ho : o.dst = d)
    (hr : Rep ids S' w' t v ob) (he : Evo A w w') (hS : ∀ b, S b → S' b) (hS' : ∀ b, S' b → S b ∨ A b) :
    After ids S A N ρ fix w tm ds E d.toList (putRes ρ d t ++ ws) ((Act.mk tm ds).put o.dst v) w' := by
  rw [ho]
  cases d with
  | none =>
    refine ⟨tm, S', obs, rfl, ?_, he, hS, hS', fun s _ => rfl⟩
    simp only [putRes, List.nil_append]
    exact Inv.drop (ob := ob) (H := []) (by simpa using h)
  | some x =>
    obtain ⟨h1, h2⟩ := hd x rfl
    have hI := Inv.putT (H := []) (t := t) (v := v) (d := x) (ob := ob) (by simpa using h) h1 h2 hr
    exact ⟨_, S', (fun s => if s = x then ob else if killed ρ s x = true then [] else obs s), rfl, by simp only [putRes, List.append_assoc]; exact hI, he, hS, hS', fun s hs => getD_set_ne (by simpa using hs)⟩

theorem sound_call {o : Oper} {g : FuncId} {d : Option Nat} {f : Nat} {fz : Bool} {args : List (Opd × Bool)} {σ : Oracle} {ws : Env} {c : Call} (hσ : Sound P ids σ) (h : Inv ids S A N ρ fix w tm E obs [])
    (hd : ∀ x, d = some x → x < N ∧ x ∉ fix) (hop : o.op = .call c) (hcal : c.callee = .value (.func g)) (hid : ids g = f) (ho : o.dst = d) (ha : argsOk ids c.args.toList args = true)
    (hs : stepI σ ρ fix E (.call d f fz args) = some ws)
    (hK : ∀ a' w', After ids S A N ρ fix w tm ds E d.toList ws a' w' → K a' w') : o.wp P ⟨tm, ds⟩ w K Q := by
  simp only [stepI, callOp, Option.bind_eq_some_iff] at hs
  obtain ⟨ts, hts, hs⟩ := hs
  split at hs
  · rename_i hro
    simp only [Option.bind_eq_some_iff, Option.some.injEq] at hs
    obtain ⟨⟨t, outs⟩, hσt, w1, hw1, w2, hw2, rfl⟩ := hs
    simp only at hw1 hw2
    subst hid
    obtain ⟨hcb, hct⟩ := hσ g ts t outs hσt
    simp only [rootsOk, Bool.and_eq_true, List.all_eq_true, bne_iff_ne] at hro
    obtain ⟨hr1, hr2⟩ := hro
    have hnE : ((ioPlaces E args).map (·.1)).Nodup := nodupB_sound hr1
    let Sc : Nat → Prop := fun b => S b ∨ ∃ r, r ∈ bvRoots E args ∧ b ∈ obs r
    obtain ⟨hi, O, hL, hOn, hOw⟩ := callArgs_sound (S' := Sc) (ds := ds) (fun b hb => .inl hb) h c.args.toList args ts ha hts (fun r hr b hb => .inr ⟨r, hr, hb⟩) hnE
    have hOr : ∀ x, x ∈ O → ∃ r p, (r, p) ∈ ioPlaces E args ∧ x ∈ obs r := by
      intro x hx
      obtain ⟨r, p, T, t, v, on, k1, _, _, _, k5, _, k7⟩ := hOw x hx
      exact ⟨r, p, k1, k5 x k7⟩
    have hne : ∀ r p, (r, p) ∈ ioPlaces E args → r ∉ bvRoots E args := by
      intro r p hm hb
      have : r ∈ ioRoots E args := List.mem_map_of_mem (f := (·.1)) hm
      exact (hr2 r this).2 r hb rfl
    have hOS : ∀ b, b ∈ O → ¬ Sc b := by
      intro b hb hSc
      obtain ⟨r, p, k1, k2⟩ := hOr b hb
      rcases hSc with hSb | ⟨q, hq, hbq⟩
      · exact (h.own r b k2).1 hSb
      · exact h.apart r q (fun x => hne r p k1 (x ▸ hq)) b k2 hbq
    have hScst : ∀ b, Sc b → b < w.heap.size := by
      rintro b (hb | ⟨r, hr, hb⟩)
      · exact h.st b hb
      · exact (h.own r b hb).2.2
    have hcall := hct Sc w (c.args.map (Act.mk tm ds).eval) O (by simpa using hL) hOn hOS hScst
    have hrun : (execOp (Act.mk tm ds).eval o).run P w = .ok (.enter g (c.args.map (Act.mk tm ds).eval)) w := by
      unfold execOp
      simp [hop, resolve, hcal, Act.eval, Deferred.ofValue, invoke, run_callFunc hcb]
    unfold Oper.wp
    rw [hrun, Oper.upon_enter]
    refine Calls.mono hcall ?_
    rintro e w' ⟨v, S', obr, obo, rfl, p1, p2, p3, p4, p5, p6, p7, p8⟩
    simp only
    refine hK _ _ ?_
    have hEA : Evo A w w' := ⟨p8.os, p8.tape, p8.output, p8.size, fun b hb hA => p8.block b hb (fun hx => hA (hx.elim (fun hx => by
      obtain ⟨r, p, _, k2⟩ := hOr b hx; exact (h.own r b k2).2.1) (fun hx => h.fresh b hx)))⟩
    have hOA : ∀ b, b ∈ O ∨ w.heap.size ≤ b → A b := by
      rintro b (hb | hb)
      · obtain ⟨r, p, _, k2⟩ := hOr b hb; exact (h.own r b k2).2.1
      · exact h.fresh b hb
    have hvl : (c.args.map (Act.mk tm ds).eval).toList = c.args.toList.map (Act.mk tm ds).eval := by simp
    rw [hvl] at p2
    cases fz with
    | false =>
      simp only [Bool.false_eq_true, if_false] at hw1
      split at hw1
      case isFalse => cases hw1
      rename_i hnosh
      simp only [Option.some.injEq] at hw1; subst hw1
      simp only [List.nil_append] at hw2
      simp only [Bool.and_eq_true] at hnosh
      have hpl := backArgs_places (L := []) (fun s _ => .inl rfl) (by simp) args outs w2 hw2
      obtain ⟨obs', hI⟩ := call_core (S2 := S) (ds := ds) h (hOw.at h hnE) hOr (fun _ h => h) (fun b hb => .inl hb) (fun b hb => Nat.lt_of_lt_of_le (h.st b hb) p8.size) (fun b hb _ => .inl hb) p8 ha hi hw2
        (rep_noSh _ _ _ hnosh.1 p1) (repIO_noSh _ _ _ _ hnosh.2 p2) p3 (fun b hb => ⟨fun hx => (p4 b hb).1 (p5 b (.inl hx)), (p4 b hb).2⟩)
        (fun r p hm => by
          have : r ∈ ioRoots E args := List.mem_map_of_mem (f := (·.1)) hm
          simpa using (hr2 r this).1) hnE
      have := call_put (ds := ds) (o := o) hI hd ho (rep_noSh _ _ _ hnosh.1 p1) hEA (fun _ h => h) (fun b hb => .inl hb)
      simpa using this
    | true =>
      simp only [if_true] at hw1
      obtain ⟨S1, obs1, a1, a2, a3, a4, a5, a6, a7⟩ := freezeRoots_sound _ S E obs w1 h hw1
      have hpl := backArgs_places (L := bvRoots E args) (fun s hs => (a6 s hs).imp (fun x => x.1) id) a7 args outs w2 hw2
      have hsame : ∀ r p, (r, p) ∈ ioPlaces E args → get (w1 ++ E) r = get E r ∧ obs1 r = obs r := by
        intro r p hm
        rcases a6 r (hne r p hm) with k | k
        · exact k
        · obtain ⟨T, hT⟩ := hpl.2 r p (hpl.1 ▸ hm)
          rw [k] at hT; cases hT
      have hSc1 : ∀ b, Sc b → S1 b := by
        rintro b (hb | ⟨r, hr, hb⟩)
        · exact a2 b hb
        · exact a3 r hr b hb
      obtain ⟨obs', hI⟩ := call_core (S2 := S') (ds := ds) (O := O) (outs := outs) a1 (by
          intro x hx r p T t v on hm hT ht hv hrep hxo
          rw [hpl.1] at hm
          obtain ⟨k1, k2⟩ := hsame r p hm
          rw [k1] at hT; rw [k2] at hxo
          -- the blocks are the same, whatever is stable
          obtain ⟨vn, pre, on0, post, g1, g2, g3⟩ := h.node hT ht
          rw [hv] at g1; cases g1
          have := rep_det _ _ _ _ hrep g3
          subst this
          exact hOw.at h hnE x hx r p T t _ _ hm hT ht hv g3 hxo)
        (by
          intro x hx
          obtain ⟨r, p, k1, k2⟩ := hOr x hx
          exact ⟨r, p, hpl.1 ▸ k1, by rw [(hsame r p k1).2]; exact k2⟩)
        (fun b hb => (a4 b hb).elim (fun hx => p5 b (.inl hx)) (fun hx => p5 b (.inr hx)))
        (fun b hb => (p6 b hb).imp (hSc1 b) id) p7 (fun b hb _ => .inr fun _ _ _ => trivial) p8 ha hi hw2 p1 p2 p3 p4
        (fun r p hm => by
          have : r ∈ ioRoots E args := List.mem_map_of_mem (f := (·.1)) (hpl.1 ▸ hm)
          simpa using (hr2 r this).1) (hpl.1 ▸ hnE)
      have := call_put (ds := ds) (o := o) (ws := w2 ++ w1) (S := S) (by rw [List.append_assoc]; exact hI) hd ho p1 hEA (fun b hb => p5 b (.inl hb)) (fun b hb => by
        rcases p6 b hb with (hx | ⟨r, _, hx⟩) | hx
        · exact .inl hx
        · exact .inr (h.own r b hx).2.1
        · exact .inr (hOA b hx))
      simpa using this
  · cases hs
end
end Go.Vs
/- Every operation. -/
namespace Go.Vs
open Go

section
variable {P : Program} {ids : Nat → Nat} {S S' S1 S2 A : Nat → Prop} {N : Nat} {ρ : Roots} {fix : List Nat} {w w' : World} {tm : Array Value} {ds : List Deferred} {E E1 : Env} {obs obs1 : Nat → List Nat}
variable {K : Act → World → Prop} {Q : Exit → Act → World → Prop} {H : List Nat}

theorem peekArg_all (h : Inv ids S A N ρ fix w tm E obs []) {o : Operand} {x : Opd} (ho : opdOk ids o x = true) {t : Tree} (hp : peekArg E x = some t) :
    Rep ids (fun b => S b ∨ ∃ s, b ∈ obs s) w t ((Act.mk tm ds).eval o) [] :=
  peekArg_sound (fun _b hb => .inl hb) h ho hp (fun r _ _b hb => .inr ⟨r, hb⟩)

theorem peekArgs_all (h : Inv ids S A N ρ fix w tm E obs []) : ∀ (ops : List Operand) (args : List Opd) (ts : List Tree), opdsOk ids ops args = true → peekArgs E args = some ts →
    RepL ids (fun b => S b ∨ ∃ s, b ∈ obs s) w ts (ops.map (Act.mk tm ds).eval) []
  | [], [], ts, _, hp => by simp only [peekArgs, Option.some.injEq] at hp; subst hp; simp [RepL]
  | o :: ops, x :: args, ts, ho, hp => by
    simp only [opdsOk, Bool.and_eq_true] at ho
    simp only [peekArgs, Option.bind_eq_some_iff] at hp
    obtain ⟨t, h1, hp⟩ := hp
    split at hp
    · simp only [Option.bind_eq_some_iff, Option.some.injEq] at hp
      obtain ⟨ts', h2, rfl⟩ := hp
      simp only [List.map_cons, RepL]
      exact ⟨_, _, [], [], rfl, peekArg_all h ho.1 h1, peekArgs_all h ops args ts' ho.2 h2, rfl⟩
    · cases hp
  | [], _ :: _, _, ho, _ => by simp [opdsOk] at ho
  | _ :: _, [], _, ho, _ => by simp [opdsOk] at ho

theorem repIO_nil : ∀ (as : List Tree) (vs : List Value) (ob : List Nat), RepIO ids S w as vs [] ob → ob = []
  | [], vs, ob, h => by simp only [RepIO] at h; exact h.2
  | a :: as, [], ob, h => by simp [RepIO] at h
  | a :: as, v :: vs, ob, h => by
    simp only [RepIO] at h
    split at h
    · exact repIO_nil as vs ob h
    · obtain ⟨t, outs', o1, o2, h1, _⟩ := h; cases h1

theorem sound_callv {o : Oper} {x : Operand} {d : Option Nat} {f : Opd} {args : List Opd} {σ : Oracle} {ws : Env} {c : Call} (hσ : Sound P ids σ) (h : Inv ids S A N ρ fix w tm E obs [])
    (hd : ∀ x, d = some x → x < N ∧ x ∉ fix) (hop : o.op = .call c) (hcal : c.callee = .value x) (ho : o.dst = d) (hx : opdOk ids x f = true) (ha : opdsOk ids c.args.toList args = true)
    (hs : stepI σ ρ fix E (.callv d f args) = some ws)
    (hK : ∀ a' w', After ids S A N ρ fix w tm ds E d.toList ws a' w' → K a' w') : o.wp P ⟨tm, ds⟩ w K Q := by
  simp only [stepI, Option.bind_eq_some_iff] at hs
  obtain ⟨ts, hts, tf, htf, hs⟩ := hs
  split at hs
  · rename_i fid caps
    split at hs
    · rename_i hpl
      simp only [Option.bind_eq_some_iff] at hs
      obtain ⟨⟨t, outs⟩, hσt, hs⟩ := hs
      simp only at hs
      split at hs
      · rename_i hcond
        simp only [Bool.and_eq_true, List.isEmpty_iff] at hcond
        obtain ⟨⟨c1, c2⟩, rfl⟩ := hcond
        simp only [Option.some.injEq] at hs; subst hs
        have hrf := peekArg_all (ds := ds) h hx htf
        simp only [Rep] at hrf
        obtain ⟨g, vs, hv, rfl, hcaps⟩ := hrf
        have hargs := peekArgs_all (ds := ds) h c.args.toList args ts ha hts
        obtain ⟨hcb, hct⟩ := hσ g _ t [] hσt
        have hL : RepL ids (fun b => S b ∨ ∃ s, b ∈ obs s) w (ts ++ caps) (c.args.map (Act.mk tm ds).eval ++ vs).toList [] := by
          rw [Array.toList_append, Array.toList_map, repL_append]
          exact ⟨_, _, [], [], rfl, hargs, hcaps, rfl⟩
        have hcall := hct _ w (c.args.map (Act.mk tm ds).eval ++ vs) [] hL (by simp) (by simp) (by
          rintro b (hb | ⟨s, hb⟩)
          · exact h.st b hb
          · exact (h.own s b hb).2.2)
        have hrun : (execOp (Act.mk tm ds).eval o).run P w = .ok (.enter g (c.args.map (Act.mk tm ds).eval ++ vs)) w := by
          unfold execOp
          simp [hop, resolve, hcal, hv, Deferred.ofValue, invoke, run_callFunc hcb]
        unfold Oper.wp
        rw [hrun, Oper.upon_enter]
        refine Calls.mono hcall ?_
        rintro e w' ⟨v, S', obr, obo, rfl, p1, p2, p3, p4, p5, p6, p7, p8⟩
        simp only
        refine hK _ _ ?_
        have hob := rep_plain _ _ _ c1 p1
        subst hob
        have hk : ∀ b, b < w.heap.size → w'.heap[b]? = w.heap[b]? := fun b hb => p8.block b hb (by simp; omega)
        have hI := h.world (w' := w') p8.size (fun b hb => hk b (h.st b hb)) (fun s b hb => hk b (h.own s b hb).2.2)
        have := call_put (ds := ds) (o := o) (ws := []) (S := S) (A := A) (w := w) hI hd ho (rep_noSh _ _ _ c2 p1)
          ⟨p8.os, p8.tape, p8.output, p8.size, fun b hb _ => hk b hb⟩ (fun _ h => h) (fun b hb => .inl hb)
        simpa using this
      · cases hs
    · cases hs
  · cases hs

theorem isTrue_and {a b : Bool} : (a && b) = true ↔ a = true ∧ b = true := by simp

theorem okCall_sound {σ : Oracle} {o : Oper} {c : Call} {i : Ins} {ws : Env} (hσ : Sound P ids σ) (h : Inv ids S A N ρ fix w tm E obs []) (hop : o.op = .call c) (hok : okCall P ids c o.dst i = true)
    (hd : ∀ x, x ∈ dstOf i → x < N ∧ x ∉ fix) (hs : stepI σ ρ fix E i = some ws)
    (hK : ∀ a' w', After ids S A N ρ fix w tm ds E (dstOf i) ws a' w' → K a' w') : o.wp P ⟨tm, ds⟩ w K Q := by
  unfold okCall at hok
  split at hok
  · -- len
    rename_i d str x
    obtain ⟨h1, h2⟩ := hd d (by simp [dstOf])
    split at hok
    · rename_i y t hcal hargs htys
      simp only [Bool.and_eq_true, beq_iff_eq] at hok
      exact sound_len h h1 h2 hop hcal (by rw [← Array.toArray_toList (xs := c.args), hargs]) (by rw [← Array.toArray_toList (xs := c.argTypes), htys]) hok.1.1 hok.1.2 hok.2 hs hK
    · cases hok
  · rename_i d sz s x m
    obtain ⟨h1, h2⟩ := hd d (by simp [dstOf])
    split at hok
    · rename_i y z t u hcal hargs htys
      simp only [Bool.and_eq_true, beq_iff_eq, Bool.or_eq_true] at hok
      obtain ⟨⟨⟨⟨k1, k2⟩, k3⟩, k4⟩, k5⟩ := hok
      have hnm : NoMake P u := by
        rcases k5 with k5 | k5
        · exact noMake_string k5.1
        · exact noMake_elem k5
      exact sound_app h h1 h2 hop hcal (by rw [← Array.toArray_toList (xs := c.args), hargs]) (by rw [← Array.toArray_toList (xs := c.argTypes), htys]) k1 k2 k3 k4 hnm hs hK
    · cases hok
  · rename_i d mx x xs
    obtain ⟨h1, h2⟩ := hd d (by simp [dstOf])
    split at hok
    · rename_i y ys hcal hargs
      simp only [Bool.and_eq_true, beq_iff_eq] at hok
      obtain ⟨⟨⟨k1, k2⟩, k3⟩, k4⟩ := hok
      exact sound_mm h h1 h2 hop (by simp [hcal, k2]) hargs k1 k3 k4 hs hK
    · rename_i y ys hcal hargs
      simp only [Bool.and_eq_true, beq_iff_eq, Bool.not_eq_true'] at hok
      obtain ⟨⟨⟨k1, k2⟩, k3⟩, k4⟩ := hok
      exact sound_mm h h1 h2 hop (by simp [hcal, k2]) hargs k1 k3 k4 hs hK
    · cases hok
  · rename_i d f fz args
    split at hok
    · rename_i g hcal
      simp only [Bool.and_eq_true, beq_iff_eq] at hok
      obtain ⟨⟨⟨k1, k2⟩, k3⟩, k4⟩ := hok
      exact sound_call hσ h (fun x hx => hd x (by simp [dstOf, hx])) hop hcal k2 k1 k4 hs hK
    · cases hok
  · rename_i d f args
    split at hok
    · rename_i x hcal
      simp only [Bool.and_eq_true, beq_iff_eq] at hok
      obtain ⟨⟨k1, k2⟩, k3⟩ := hok
      exact sound_callv hσ h (fun x hx => hd x (by simp [dstOf, hx])) hop hcal k1 k2 k3 hs hK
    · cases hok
  · cases hok

theorem op_sound {σ : Oracle} {o : Oper} {i : Ins} {ws : Env} (hσ : Sound P ids σ) (h : Inv ids S A N ρ fix w tm E obs []) (hok : okIns P ids o i = true)
    (hd : ∀ x, x ∈ dstOf i → x < N ∧ x ∉ fix) (hs : stepI σ ρ fix E i = some ws)
    (hK : ∀ a' w', After ids S A N ρ fix w tm ds E (dstOf i) ws a' w' → K a' w') : o.wp P ⟨tm, ds⟩ w K Q := by
  unfold okIns at hok
  split at hok
  case h_1 hop => -- move
    simp only [Bool.and_eq_true, beq_iff_eq] at hok
    obtain ⟨h1, h2⟩ := hd _ (by simp [dstOf]; rfl)
    refine sound_mv h h1 h2 hok.1 hok.2 ?_ hs hK
    unfold execOp; simp [hop]
  case h_2 hop =>
    simp only [Bool.and_eq_true, beq_iff_eq] at hok
    obtain ⟨h1, h2⟩ := hd _ (by simp [dstOf]; rfl)
    exact sound_asg h h1 h2 (.inr hop) hok.1 hok.2 hs hK
  case h_3 hop =>
    simp only [Bool.and_eq_true, beq_iff_eq] at hok
    obtain ⟨h1, h2⟩ := hd _ (by simp [dstOf]; rfl)
    exact sound_asg h h1 h2 (.inl hop) hok.1 hok.2 hs hK
  case h_4 hop =>
    simp only [Bool.and_eq_true, beq_iff_eq] at hok
    obtain ⟨h1, h2⟩ := hd _ (by simp [dstOf]; rfl)
    refine sound_mv h h1 h2 hok.1 hok.2 ?_ hs hK
    unfold execOp; simp [hop]
  case h_5 hop =>
    simp only [Bool.and_eq_true, beq_iff_eq] at hok
    obtain ⟨h1, h2⟩ := hd _ (by simp [dstOf]; rfl)
    exact sound_nchk h h1 h2 hop hok.1 hok.2 hs hK
  case h_6 hop =>
    simp only [Bool.and_eq_true, beq_iff_eq] at hok
    obtain ⟨h1, h2⟩ := hd _ (by simp [dstOf]; rfl)
    exact sound_pick h h1 h2 hop hok.1.1.1 hok.1.1.2 hok.1.2 hok.2 hs hK
  case h_7 hop =>
    simp only [Bool.and_eq_true, beq_iff_eq] at hok
    obtain ⟨h1, h2⟩ := hd _ (by simp [dstOf]; rfl)
    exact sound_new h h1 h2 hop hok.1 hok.2 hs hK
  case h_8 hop =>
    simp only [Bool.and_eq_true, beq_iff_eq] at hok
    obtain ⟨h1, h2⟩ := hd _ (by simp [dstOf]; rfl)
    exact sound_box h h1 h2 hop hok.1 hok.2 hs hK
  case h_9 hop =>
    rw [Bool.and_eq_true, Bool.and_eq_true, beq_iff_eq] at hok
    obtain ⟨⟨k1, k2⟩, k3⟩ := hok
    obtain ⟨h1, h2⟩ := hd _ (by simp [dstOf]; rfl)
    split at k3
    · rename_i fs hty
      rw [Bool.and_eq_true] at k3
      exact sound_build h h1 h2 hop k1 k2 hty k3.1 k3.2 hs hK
    · cases k3
  case h_10 hop =>
    simp only [Bool.and_eq_true, beq_iff_eq, decide_eq_true_eq] at hok
    obtain ⟨⟨⟨⟨k1, k2⟩, k3⟩, k4⟩, k5⟩ := hok
    obtain ⟨h1, h2⟩ := hd _ (by simp [dstOf]; rfl)
    subst k2
    exact sound_mksl h h1 h2 hop k1 k3 k4 k5 hs hK
  case h_11 hop =>
    simp only [Bool.and_eq_true, beq_iff_eq] at hok
    obtain ⟨h1, h2⟩ := hd _ (by simp [dstOf]; rfl)
    exact sound_load h h1 h2 hop hok.1.1 hok.1.2 hok.2 hs hK
  case h_12 hop =>
    simp only [Bool.and_eq_true, beq_iff_eq] at hok
    exact sound_store h hop hok.1.1.1 hok.1.1.2 hok.1.2 hok.2 hs hK
  case h_13 hop =>
    simp only [Bool.and_eq_true, beq_iff_eq] at hok
    obtain ⟨⟨⟨k1, rfl⟩, k3⟩, k4⟩ := hok
    obtain ⟨h1, h2⟩ := hd _ (by simp [dstOf]; rfl)
    exact sound_bin h h1 h2 hop k1 k3 k4 hs hK
  case h_14 hop =>
    simp only [Bool.and_eq_true, beq_iff_eq] at hok
    obtain ⟨⟨⟨⟨k1, k2⟩, k3⟩, k4⟩, k5⟩ := hok
    obtain ⟨h1, h2⟩ := hd _ (by simp [dstOf]; rfl)
    exact sound_eqb h h1 h2 hop k1 k3 k4 k2 k5 hs hK
  case h_15 hop =>
    simp only [Bool.and_eq_true, beq_iff_eq] at hok
    obtain ⟨⟨⟨⟨k1, k2⟩, k3⟩, k4⟩, k5⟩ := hok
    obtain ⟨h1, h2⟩ := hd _ (by simp [dstOf]; rfl)
    exact sound_eqv h h1 h2 hop k1 k3 k4 k2 k5 hs hK
  case h_16 hop =>
    simp only [Bool.and_eq_true, beq_iff_eq] at hok
    obtain ⟨⟨k1, rfl⟩, k3⟩ := hok
    obtain ⟨h1, h2⟩ := hd _ (by simp [dstOf]; rfl)
    exact sound_un h h1 h2 hop k1 k3 hs hK
  case h_17 hop =>
    rw [Bool.and_eq_true, Bool.and_eq_true, Bool.and_eq_true, beq_iff_eq] at hok
    obtain ⟨⟨⟨k1, k2⟩, k3⟩, k4⟩ := hok
    obtain ⟨h1, h2⟩ := hd _ (by simp [dstOf]; rfl)
    split at k4
    · rename_i k' hty
      rw [beq_iff_eq] at k4; subst k4
      exact sound_conv h h1 h2 hop k1 k2 k3 hty hs hK
    · cases k4
  case h_18 hop =>
    simp only [Bool.and_eq_true, beq_iff_eq] at hok
    obtain ⟨h1, h2⟩ := hd _ (by simp [dstOf]; rfl)
    exact sound_s2b h h1 h2 hop hok.1.1.1 hok.1.1.2 hok.1.2 hok.2 hs hK
  case h_19 hop =>
    simp only [Bool.and_eq_true, beq_iff_eq] at hok
    obtain ⟨h1, h2⟩ := hd _ (by simp [dstOf]; rfl)
    exact sound_b2s h h1 h2 hop hok.1.1.1 hok.1.1.2 hok.1.2 hok.2 hs hK
  case h_20 hop =>
    simp only [Bool.and_eq_true, beq_iff_eq] at hok
    obtain ⟨h1, h2⟩ := hd _ (by simp [dstOf]; rfl)
    exact sound_make h h1 h2 hop hok.1.1.1 hok.1.1.2 hok.1.2 hok.2 hs hK
  case h_21 hop =>
    rw [Bool.and_eq_true, Bool.and_eq_true, Bool.and_eq_true, Bool.and_eq_true, beq_iff_eq] at hok
    obtain ⟨⟨⟨⟨k1, k2⟩, k3⟩, k4⟩, k5⟩ := hok
    obtain ⟨h1, h2⟩ := hd _ (by simp [dstOf]; rfl)
    exact sound_slc h h1 h2 hop k1 k2 k3 k4 k5 hs hK
  case h_22 hop =>
    simp only [Bool.and_eq_true, beq_iff_eq] at hok
    obtain ⟨⟨⟨⟨k1, k2⟩, k3⟩, k4⟩, k5⟩ := hok
    obtain ⟨h1, h2⟩ := hd _ (by simp [dstOf]; rfl)
    exact sound_slc0 h h1 h2 hop k1 k2 k3 k4 k5 hs hK
  case h_23 hop =>
    rw [Bool.and_eq_true, Bool.and_eq_true, beq_iff_eq] at hok
    obtain ⟨⟨k1, k2⟩, k3⟩ := hok
    obtain ⟨h1, h2⟩ := hd _ (by simp [dstOf]; rfl)
    split at k3
    · rename_i fs hty
      split at k3
      · rename_i g hg
        rw [Bool.and_eq_true, beq_iff_eq] at k3
        exact sound_fadr h h1 h2 hop k1 k2 hty hg k3.1 k3.2 hs hK
      · cases k3
    · cases k3
  case h_24 hop =>
    rw [Bool.and_eq_true, Bool.and_eq_true, beq_iff_eq] at hok
    obtain ⟨⟨k1, k2⟩, k3⟩ := hok
    obtain ⟨h1, h2⟩ := hd _ (by simp [dstOf]; rfl)
    split at k3
    · rename_i fs hty
      split at k3
      · rename_i g hg
        rw [Bool.and_eq_true, beq_iff_eq] at k3
        exact sound_fld h h1 h2 hop k1 k2 hty hg k3.1 k3.2 hs hK
      · cases k3
    · cases k3
  case h_25 hop =>
    rw [Bool.and_eq_true, Bool.and_eq_true, Bool.and_eq_true, beq_iff_eq] at hok
    obtain ⟨⟨⟨k1, k2⟩, k3⟩, k4⟩ := hok
    obtain ⟨h1, h2⟩ := hd _ (by simp [dstOf]; rfl)
    split at k4
    · rename_i e hty
      exact sound_iadr h h1 h2 hop k1 k2 k3 hty k4 hs hK
    · cases k4
  case h_26 hop =>
    simp only [Bool.and_eq_true, beq_iff_eq] at hok
    obtain ⟨h1, h2⟩ := hd _ (by simp [dstOf]; rfl)
    exact sound_idx h h1 h2 hop hok.1.1.1 hok.1.1.2 hok.1.2 hok.2 hs hK
  case h_27 hop =>
    simp only [Bool.and_eq_true, beq_iff_eq] at hok
    obtain ⟨⟨k1, k2⟩, rfl⟩ := hok
    obtain ⟨h1, h2⟩ := hd _ (by simp [dstOf]; rfl)
    exact sound_ext h h1 h2 hop k1 k2 hs hK
  case h_28 hop =>
    simp only [Bool.and_eq_true, beq_iff_eq] at hok
    obtain ⟨⟨k1, k2⟩, rfl⟩ := hok
    obtain ⟨h1, h2⟩ := hd _ (by simp [dstOf]; rfl)
    exact sound_extp h h1 h2 hop k1 k2 hs hK
  case h_29 hop =>
    simp only [Bool.and_eq_true, beq_iff_eq, Array.isEmpty_iff] at hok
    obtain ⟨⟨⟨⟨k1, k2⟩, k3⟩, k4⟩, k5⟩ := hok
    obtain ⟨h1, h2⟩ := hd _ (by simp [dstOf]; rfl)
    exact sound_mkfn h h1 h2 hop k2 k1 k3 k5 hs hK
  case h_30 hop => exact okCall_sound hσ h hop hok hd hs hK
  case h_31 => cases hok
end
end Go.Vs
