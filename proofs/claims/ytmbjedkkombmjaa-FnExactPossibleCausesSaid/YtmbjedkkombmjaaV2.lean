/- The framework by which this claim is proved, part 2 of 6: an interpreter of the program over value trees, and its soundness. No conditions. -/
import Derived.Test.YtmbjedkkombmjaaV1
import Derived.Laws.Entries
import Derived.Laws.Small
import Derived.Laws.StructEq
import Derived.Laws.Strings
import Derived.Laws.Concat
import Derived.Laws.Slices
import Derived.Laws.Cells
import Derived.Laws.MakeOwn
import Derived.Laws.IdiomStrings
import Derived.Laws.BytesString
import Derived.Laws.Rows
import Derived.Laws.IdiomCopy
import Derived.Laws.AppendOwn
/- Operations that write no memory. -/
namespace Go.Vs
open Go

/-- how a world may change: what is not of A's stays -/
structure Evo (A : Nat → Prop) (w w' : World) : Prop where
  os : w'.os = w.os
  tape : w'.tape = w.tape
  output : w'.output = w.output
  size : w.heap.size ≤ w'.heap.size
  block : ∀ b, b < w.heap.size → ¬ A b → w'.heap[b]? = w.heap[b]?

theorem Evo.refl (A : Nat → Prop) (w : World) : Evo A w w := ⟨rfl, rfl, rfl, Nat.le_refl _, fun _ _ _ => rfl⟩
theorem Evo.trans {A : Nat → Prop} {w1 w2 w3 : World} (h : Evo A w1 w2) (h' : Evo A w2 w3) : Evo A w1 w3 :=
  ⟨h'.os.trans h.os, h'.tape.trans h.tape, h'.output.trans h.output, Nat.le_trans h.size h'.size,
    fun b hb ha => (h'.block b (Nat.lt_of_lt_of_le hb h.size) ha).trans (h.block b hb ha)⟩

/-- behind an operation -/
def After (ids : Nat → Nat) (S A : Nat → Prop) (N : Nat) (ρ : Roots) (fix : List Nat) (w : World) (tm : Array Value) (ds : List Deferred) (E : Env) (dsts : List Nat) (ws : Env)
    (a' : Act) (w' : World) : Prop :=
  ∃ tm' S' obs', a' = ⟨tm', ds⟩ ∧ Inv ids S' A N ρ fix w' tm' (ws ++ E) obs' [] ∧ Evo A w w' ∧ (∀ b, S b → S' b) ∧ (∀ b, S' b → S b ∨ A b) ∧
    ∀ s, s ∉ dsts → tm'.getD s undef = tm.getD s undef

section
variable {P : Program} {ids : Nat → Nat} {S A : Nat → Prop} {N : Nat} {ρ : Roots} {fix : List Nat} {w : World} {tm : Array Value} {ds : List Deferred} {E : Env} {obs : Nat → List Nat}
variable {K : Act → World → Prop} {Q : Exit → Act → World → Prop}

theorem wp_value {o : Oper} {a : Act} {v : Value} {w w' : World} (hr : (execOp a.eval o).run P w = .ok (.value v) w') (h : K (a.put o.dst v) w') : o.wp P a w K Q := by
  unfold Oper.wp; rw [hr]; exact h

/-- an operation that puts a value into its slot and leaves the world alone -/
theorem after_put {o : Oper} {d : Nat} {a : AV} {v : Value} {ob : List Nat} (h : Inv ids S A N ρ fix w tm E obs (ob ++ [])) (ho : o.dst = some d) (hd : d < N) (hf : d ∉ fix)
    (hr : (execOp (Act.mk tm ds).eval o).run P w = .ok (.value v) w)
    (hs : SlotOk ids S w (tm.setIfInBounds d v) (wr ρ d a ++ E) d ob)
    (hrf : ∀ r p, (a = .bor r p ∨ ∃ i j, a = .adr r p i j) → okRef ρ d r p = true)
    (hc : ∀ f caps, a = .clo f caps → ∀ c, c ∈ caps → c ∈ fix)
    (hK : ∀ a' w', After ids S A N ρ fix w tm ds E [d] (wr ρ d a) a' w' → K a' w') : o.wp P ⟨tm, ds⟩ w K Q := by
  refine wp_value hr (hK _ _ ?_)
  rw [ho]
  refine ⟨_, S, _, rfl, h.put hd hf hs hrf hc, Evo.refl A w, fun _ h => h, fun _ h => .inl h, fun s hs => ?_⟩
  exact getD_set_ne (by simpa using hs)

theorem after_tree {o : Oper} {d : Nat} {t : Tree} {v : Value} (h : Inv ids S A N ρ fix w tm E obs []) (ho : o.dst = some d) (hd : d < N) (hf : d ∉ fix)
    (hr : (execOp (Act.mk tm ds).eval o).run P w = .ok (.value v) w) (hs : Rep ids S w t v [])
    (hK : ∀ a' w', After ids S A N ρ fix w tm ds E [d] (wr ρ d (.tree t)) a' w' → K a' w') : o.wp P ⟨tm, ds⟩ w K Q :=
  after_put (a := .tree t) (ob := []) (by simpa using h) ho hd hf hr
    (by simp only [SlotOk, get_wr, if_true, getD_set_self (by rw [h.size]; exact hd)]; exact hs) (by rintro r p (h | ⟨i, j, h⟩) <;> cases h) (by intro f caps h; cases h) hK

/-- the peeked value of a plain tree -/
theorem Inv.peekP (h : Inv ids S A N ρ fix w tm E obs []) {o : Operand} {x : Opd} (ho : opdOk ids o x = true) {t : Tree} (hp : Vs.peek E x = some t) (hpl : t.plain = true) :
    Rep ids S w t ((Act.mk tm ds).eval o) [] := by
  obtain ⟨ob, h1, _⟩ := h.peek (ds := ds) (opdOk_sound ho) hp
  rw [rep_plain _ _ _ hpl h1] at h1
  exact h1

theorem Inv.peekInt (h : Inv ids S A N ρ fix w tm E obs []) {o : Operand} {x : Opd} (ho : opdOk ids o x = true) {k : IntKind} {n : Int} (hp : Vs.peek E x = some (.int k n)) :
    (Act.mk tm ds).eval o = .int k n := by
  have := h.peekP (ds := ds) ho hp rfl
  simp only [Rep] at this
  exact this.1

theorem Inv.peekBool (h : Inv ids S A N ρ fix w tm E obs []) {o : Operand} {x : Opd} (ho : opdOk ids o x = true) {b : Bool} (hp : Vs.peek E x = some (.bool b)) :
    (Act.mk tm ds).eval o = .bool b := by
  have := h.peekP (ds := ds) ho hp rfl
  simp only [Rep] at this
  exact this.1

theorem Inv.peekStr (h : Inv ids S A N ρ fix w tm E obs []) {o : Operand} {x : Opd} (ho : opdOk ids o x = true) {l : List UInt8} (hp : Vs.peek E x = some (.str l)) :
    (Act.mk tm ds).eval o = .string ⟨l.toArray⟩ := by
  have := h.peekP (ds := ds) ho hp rfl
  simp only [Rep] at this
  exact this.1

/-- a slot of AV that is read as it stands -/
theorem eval_tmp (s : Nat) : (Act.mk tm ds).eval (.tmp s) = tm.getD s undef := rfl

theorem opd_v {o : Operand} {s : Nat} (h : opdOk ids o (.v s) = true) : o = .tmp s := by
  unfold opdOk at h
  split at h <;> simp_all

/-- move and nilCheck -/
theorem sound_mv {o : Oper} {x : Operand} {d : Nat} {y : Opd} {σ : Oracle} {ws : Env} (h : Inv ids S A N ρ fix w tm E obs []) (hd : d < N) (hf : d ∉ fix)
    (ho : o.dst = some d) (hx : opdOk ids x y = true) (hr : (execOp (Act.mk tm ds).eval o).run P w = .ok (.value ((Act.mk tm ds).eval x)) w)
    (hs : stepI σ ρ fix E (.mv d y) = some ws)
    (hK : ∀ a' w', After ids S A N ρ fix w tm ds E [d] ws a' w' → K a' w') : o.wp P ⟨tm, ds⟩ w K Q := by
  cases y with
  | c t =>
    simp only [stepI] at hs
    split at hs
    · simp only [Option.some.injEq] at hs; subst hs
      exact after_tree h ho hd hf hr (h.peekP hx rfl ‹_›) hK
    · cases hs
  | v s =>
    have hxs := opd_v hx
    subst hxs
    simp only [eval_tmp] at hr
    have h0 := h.slot s
    simp only [stepI] at hs
    split at hs
    · rename_i t ht
      simp only [SlotOk, ht] at h0
      split at hs
      · simp only [Option.some.injEq] at hs; subst hs
        rw [rep_plain _ _ _ ‹_› h0] at h0
        exact after_tree h ho hd hf hr h0 hK
      · split at hs
        · simp only [Option.some.injEq] at hs; subst hs
          refine after_put (a := .bor s []) (ob := []) (by simpa using h) ho hd hf hr ?_ ?_ (by intro f caps h; cases h) hK
          · simp only [SlotOk, get_wr, if_true, getD_set_self (by rw [h.size]; exact hd)]
            refine ⟨trivial, fun T n hT hp => ?_⟩
            by_cases hsd : s = d
            · simp only [hsd, if_true] at hT; cases hT
            · simp only [vAt, getD_set_ne hsd]
          · rintro r p (hb | ⟨i, j, hb⟩)
            · cases hb; assumption
            · cases hb
        · cases hs
    · rename_i r p ht
      simp only [SlotOk, ht] at h0
      split at hs
      · rename_i hok
        simp only [Option.some.injEq] at hs; subst hs
        refine after_put (a := .bor r p) (ob := []) (by simpa using h) ho hd hf hr ?_ ?_ (by intro f caps h; cases h) hK
        · simp only [SlotOk, get_wr, if_true, getD_set_self (by rw [h.size]; exact hd)]
          refine ⟨trivial, fun T n hT hp => ?_⟩
          by_cases hrd : r = d
          · simp only [hrd, if_true] at hT; cases hT
          · simp only [hrd, if_false] at hT
            split at hT
            · cases hT
            · rw [getD_set_ne hrd]; exact h0.2 T n hT hp
        · rintro r' p' (hb | ⟨i, j, hb⟩)
          · cases hb; assumption
          · cases hb
      · cases hs
    · rename_i r p i j ht
      simp only [SlotOk, ht] at h0
      split at hs
      · rename_i hok
        simp only [Option.some.injEq] at hs; subst hs
        refine after_put (a := .adr r p i j) (ob := []) (by simpa using h) ho hd hf hr ?_ ?_ (by intro f caps h; cases h) hK
        · simp only [SlotOk, get_wr, if_true, getD_set_self (by rw [h.size]; exact hd)]
          refine ⟨trivial, fun T n e hT hp he => ?_⟩
          by_cases hrd : r = d
          · simp only [hrd, if_true] at hT; cases hT
          · simp only [hrd, if_false] at hT
            split at hT
            · cases hT
            · rw [getD_set_ne hrd]; exact h0.2 T n e hT hp he
        · rintro r' p' (hb | ⟨i', j', hb⟩)
          · cases hb
          · cases hb; assumption
      · cases hs
    · cases hs

theorem run_nilCheck {o : Oper} {a : Act} {x : Operand} {ad : Addr} (ho : o.op = .nilCheck x) (hv : a.eval x = .pointer (some ad)) :
    (execOp a.eval o).run P w = .ok (.value (a.eval x)) w := by
  unfold execOp
  simp only [ho, hv]
  rfl

theorem sound_nchk {o : Oper} {x : Operand} {d : Nat} {y : Opd} {σ : Oracle} {ws : Env} (h : Inv ids S A N ρ fix w tm E obs []) (hd : d < N) (hf : d ∉ fix)
    (hop : o.op = .nilCheck x) (ho : o.dst = some d) (hx : opdOk ids x y = true)
    (hs : stepI σ ρ fix E (.nchk d y) = some ws)
    (hK : ∀ a' w', After ids S A N ρ fix w tm ds E [d] ws a' w' → K a' w') : o.wp P ⟨tm, ds⟩ w K Q := by
  cases y with
  | c t => simp only [stepI] at hs; cases hs
  | v s =>
    have hxs := opd_v hx
    subst hxs
    have h0 := h.slot s
    have hmv : ∀ ws', stepI σ ρ fix E (.mv d (.v s)) = some ws' → ws' = ws → (∃ ad, tm.getD s undef = .pointer (some ad)) → o.wp P ⟨tm, ds⟩ w K Q := by
      rintro ws' h1 rfl ⟨ad, had⟩
      exact sound_mv h hd hf ho hx (run_nilCheck hop had) h1 hK
    simp only [stepI] at hs
    split at hs
    · rename_i ob cs ht
      simp only [SlotOk, ht] at h0
      cases ob with
      | true =>
        simp only [if_true] at hs
        split at hs
        · rename_i hok
          simp only [Option.some.injEq] at hs
          refine hmv _ ?_ hs ?_
          · simp only [stepI, ht, Tree.plain]; simp [hok]
          · simp only [Rep] at h0
            obtain ⟨b, ob', h0, _⟩ := h0
            exact ⟨_, h0⟩
        · cases hs
      | false =>
        simp only [Bool.false_eq_true, if_false, Option.some.injEq] at hs
        refine hmv _ ?_ hs ?_
        · simp only [stepI, ht, Tree.plain]; simp
        · simp only [Rep] at h0
          obtain ⟨_, b, off, h0, _⟩ := h0
          exact ⟨_, h0⟩
    · rename_i r p ht
      split at hs
      · rename_i ob cs htr
        split at hs
        · rename_i hok
          simp only [Option.some.injEq] at hs
          refine hmv _ ?_ hs ?_
          · simp only [stepI, ht]; simp [hok]
          · obtain ⟨ob2, hr, _⟩ := h.peek (ds := ds) (o := .tmp s) (x := .v s) rfl (t := .ptr ob cs) (by simp only [Vs.peek, ht]; exact htr)
            simp only [eval_tmp] at hr
            cases ob with
            | true => simp only [Rep] at hr; obtain ⟨b, ob', hr, _⟩ := hr; exact ⟨_, hr⟩
            | false => simp only [Rep] at hr; obtain ⟨_, b, off, hr, _⟩ := hr; exact ⟨_, hr⟩
        · cases hs
      · cases hs
    · rename_i r p i j ht
      split at hs
      · rename_i e he
        split at hs
        · rename_i hok
          simp only [Option.some.injEq] at hs
          refine hmv _ ?_ hs ?_
          · simp only [stepI, ht]; simp [hok]
          · simp only [SlotOk, ht] at h0
            obtain ⟨n, hn, he⟩ := Option.bind_eq_some_iff.1 he
            obtain ⟨T, hT, hn⟩ := treeAt_some hn
            obtain ⟨vn, b, _, _, h3⟩ := h0.2 T n e hT hn he
            exact ⟨_, h3⟩
        · cases hs
      · cases hs
    · cases hs

theorem run_int {op : BinOp} {t : TypeId} {k : IntKind} {a b : Int} {r : Tree} (x y : Operand) (h : intOp op k a b = some r) :
    ∃ v, ((do eqGuard op t x y (.int k a) (.int k b); Go.binOp op t (.int k a) (.int k b) : Sem Value)).run P w = .ok v w ∧ Rep ids S w r v [] := by
  cases op <;> simp only [intOp, Option.some.injEq, reduceCtorEq] at h
  case quo =>
    split at h
    · cases h
    · simp only [Option.some.injEq] at h; subst h
      refine ⟨_, by simp [eqGuard_at_int, Go.binOp, Op.intDiv, *]; rfl, by simp [Rep]⟩
  case rem =>
    split at h
    · cases h
    · simp only [Option.some.injEq] at h; subst h
      refine ⟨_, by simp [eqGuard_at_int, Go.binOp, Op.intDiv, *]; rfl, by simp [Rep]⟩
  all_goals
    subst h
    exact ⟨_, by simp [eqGuard_at_int, Go.binOp, Op.intArith, Op.intBits, Op.intCmp]; rfl, by simp [Rep]⟩


theorem run_sh {op : BinOp} {t : TypeId} {k k' : IntKind} {a b : Int} {r : Tree} (x y : Operand) (hop : op = .shl ∨ op = .shr) (h : shOp op k a b = some r) :
    ∃ v, ((do eqGuard op t x y (.int k a) (.int k' b); Go.binOp op t (.int k a) (.int k' b) : Sem Value)).run P w = .ok v w ∧ Rep ids S w r v [] := by
  unfold shOp at h
  split at h
  · cases h
  · rename_i hb
    rcases hop with rfl | rfl
    · simp only [Option.some.injEq] at h; subst h
      exact ⟨_, by simp [eqGuard_at_int, Go.binOp, Op.shift, hb]; rfl, by simp [Rep]⟩
    · simp only [Option.some.injEq] at h; subst h
      exact ⟨_, by simp [eqGuard_at_int, Go.binOp, Op.shift, hb]; rfl, by simp [Rep]⟩

theorem size_mk (l : List UInt8) : (ByteArray.mk l.toArray).size = l.length := rfl

theorem run_str {op : BinOp} {t : TypeId} {a b : List UInt8} {r : Tree} (x y : Operand) (h : strOp op a b = some r) :
    ∃ v, ((do eqGuard op t x y (.string ⟨a.toArray⟩) (.string ⟨b.toArray⟩); Go.binOp op t (.string ⟨a.toArray⟩) (.string ⟨b.toArray⟩) : Sem Value)).run P w = .ok v w ∧ Rep ids S w r v [] := by
  cases op <;> simp only [strOp, Option.some.injEq, reduceCtorEq] at h
  case add =>
    split at h
    · rename_i hl
      simp only [Option.some.injEq] at h; subst h
      have hs : (ByteArray.mk a.toArray).size + (ByteArray.mk b.toArray).size ≤ 9223372036854775807 := by
        simp only [size_mk, lim] at *; omega
      refine ⟨.string ⟨(a ++ b).toArray⟩, ?_, by simp [Rep]⟩
      simp only [eqGuard_at_string, pure_bind, binOp_string_add, run_string_add_sum _ _ _ hs, ByteArray.mk_append_mk]
    · cases h
  all_goals
    subst h
    exact ⟨_, by simp [eqGuard_at_string, Go.binOp, Op.stringOp]; rfl, by simp [Rep]⟩

theorem sound_bin {o : Oper} {op : BinOp} {t u : TypeId} {x y : Operand} {d : Nat} {x' y' : Opd} {σ : Oracle} {ws : Env} (h : Inv ids S A N ρ fix w tm E obs []) (hd : d < N) (hf : d ∉ fix)
    (hop : o.op = .binOp op t x y u) (ho : o.dst = some d) (hx : opdOk ids x x' = true) (hy : opdOk ids y y' = true)
    (hs : stepI σ ρ fix E (.bin d op x' y') = some ws)
    (hK : ∀ a' w', After ids S A N ρ fix w tm ds E [d] ws a' w' → K a' w') : o.wp P ⟨tm, ds⟩ w K Q := by
  simp only [stepI, Option.bind_eq_some_iff, Option.some.injEq] at hs
  obtain ⟨a, ha, b, hb, r, hr, rfl⟩ := hs
  have key : ∀ va vb, (Act.mk tm ds).eval x = va → (Act.mk tm ds).eval y = vb → (∃ v, ((do eqGuard op t x y va vb; Go.binOp op t va vb : Sem Value)).run P w = .ok v w ∧ Rep ids S w r v []) → o.wp P ⟨tm, ds⟩ w K Q := by
    rintro va vb rfl rfl ⟨v, hrun, hrep⟩
    refine after_tree h ho hd hf (v := v) ?_ hrep hK
    unfold execOp
    simp only [hop]
    simp only [Sem.run_bind] at hrun ⊢
    rw [hrun]; rfl
  unfold binOp at hr
  split at hr
  · rename_i k m k' n
    have e1 := h.peekInt (ds := ds) hx ha
    have e2 := h.peekInt (ds := ds) hy hb
    split at hr
    · exact key _ _ e1 e2 (run_sh x y (.inl rfl) hr)
    · exact key _ _ e1 e2 (run_sh x y (.inr rfl) hr)
    · split at hr
      · rename_i hk; subst hk
        exact key _ _ e1 e2 (run_int x y hr)
      · cases hr
  · exact key _ _ (h.peekStr (ds := ds) hx ha) (h.peekStr (ds := ds) hy hb) (run_str x y hr)
  · cases hr

theorem sound_un {o : Oper} {op : UnOp} {t : TypeId} {x : Operand} {d : Nat} {x' : Opd} {σ : Oracle} {ws : Env} (h : Inv ids S A N ρ fix w tm E obs []) (hd : d < N) (hf : d ∉ fix)
    (hop : o.op = .unOp op t x) (ho : o.dst = some d) (hx : opdOk ids x x' = true)
    (hs : stepI σ ρ fix E (.un d op x') = some ws)
    (hK : ∀ a' w', After ids S A N ρ fix w tm ds E [d] ws a' w' → K a' w') : o.wp P ⟨tm, ds⟩ w K Q := by
  simp only [stepI, Option.bind_eq_some_iff, Option.some.injEq] at hs
  obtain ⟨a, ha, r, hr, rfl⟩ := hs
  have key : ∀ va, (Act.mk tm ds).eval x = va → (∃ v, (Op.unary op va).run P w = .ok v w ∧ Rep ids S w r v []) → o.wp P ⟨tm, ds⟩ w K Q := by
    rintro va rfl ⟨v, hrun, hrep⟩
    refine after_tree h ho hd hf (v := v) ?_ hrep hK
    unfold execOp
    simp only [hop, Sem.run_bind, hrun]; rfl
  unfold unOp at hr
  split at hr
  · have e1 := h.peekInt (ds := ds) hx ha
    split at hr
    · simp only [Option.some.injEq] at hr; subst hr
      exact key _ e1 ⟨_, by simp [Op.unary, Op.intArith]; rfl, by simp [Rep]⟩
    · simp only [intOp, Option.some.injEq] at hr; subst hr
      exact key _ e1 ⟨_, by simp [Op.unary, Op.intBits]; rfl, by simp [Rep]⟩
    · cases hr
  · have e1 := h.peekBool (ds := ds) hx ha
    split at hr
    · simp only [Option.some.injEq] at hr; subst hr
      exact key _ e1 ⟨_, by simp [Op.unary]; rfl, by simp [Rep]⟩
    · cases hr
  · cases hr

theorem sound_conv {o : Oper} {s t : TypeId} {k : IntKind} {x : Operand} {d : Nat} {x' : Opd} {σ : Oracle} {ws : Env} (h : Inv ids S A N ρ fix w tm E obs []) (hd : d < N) (hf : d ∉ fix)
    (hop : o.op = .convert s t x) (ho : o.dst = some d) (hx : opdOk ids x x' = true) (h1 : (P.underlying s).isSome = true) (h2 : P.underlying t = some (.int k))
    (hs : stepI σ ρ fix E (.conv d k x') = some ws)
    (hK : ∀ a' w', After ids S A N ρ fix w tm ds E [d] ws a' w' → K a' w') : o.wp P ⟨tm, ds⟩ w K Q := by
  simp only [stepI, Option.bind_eq_some_iff] at hs
  obtain ⟨a, ha, hs⟩ := hs
  split at hs
  · rename_i k0 n
    simp only [Option.some.injEq] at hs; subst hs
    have e1 := h.peekInt (ds := ds) hx ha
    obtain ⟨dd, hdd⟩ := Option.isSome_iff_exists.1 h1
    refine after_tree h ho hd hf (v := .int k (k.wrap n)) ?_ (by simp [Rep]) hK
    unfold execOp
    simp only [hop, e1, convert, Sem.run_bind, run_underlying hdd, run_underlying h2, Result.andThen_ok, Conv.intToInt]
    rfl
  · cases hs

theorem sound_pick {o : Oper} {c a b : Operand} {d : Nat} {c' a' b' : Opd} {σ : Oracle} {ws : Env} (h : Inv ids S A N ρ fix w tm E obs []) (hd : d < N) (hf : d ∉ fix)
    (hop : o.op = .pick c a b) (ho : o.dst = some d) (hc : opdOk ids c c' = true) (ha : opdOk ids a a' = true) (hb : opdOk ids b b' = true)
    (hs : stepI σ ρ fix E (.pick d c' a' b') = some ws)
    (hK : ∀ a' w', After ids S A N ρ fix w tm ds E [d] ws a' w' → K a' w') : o.wp P ⟨tm, ds⟩ w K Q := by
  simp only [stepI, Option.bind_eq_some_iff] at hs
  obtain ⟨q, hq, hs⟩ := hs
  split at hs
  · rename_i bv
    simp only [Option.bind_eq_some_iff] at hs
    obtain ⟨t, ht, hs⟩ := hs
    split at hs
    · simp only [Option.some.injEq] at hs; subst hs
      have e1 := h.peekBool (ds := ds) hc hq
      have hrep : Rep ids S w t (if bv = true then (Act.mk tm ds).eval a else (Act.mk tm ds).eval b) [] := by
        cases bv
        · simpa using h.peekP (ds := ds) hb (by simpa using ht) ‹_›
        · simpa using h.peekP (ds := ds) ha (by simpa using ht) ‹_›
      refine after_tree h ho hd hf ?_ hrep hK
      unfold execOp
      simp only [hop, e1, asBool, Sem.run_bind, Sem.run_pure, Result.andThen_ok]
    · cases hs
  · cases hs

theorem toList_getD (vs : Array Value) (i : Nat) : vs.toList[i]? = vs[i]? := by simp

theorem repL_get : ∀ (ts : List Tree) (vs : List Value) (ob : List Nat) (i : Nat) (t : Tree), RepL ids S w ts vs ob → ts[i]? = some t →
    ∃ v o1 o2 o3, vs[i]? = some v ∧ Rep ids S w t v o2 ∧ ob = o1 ++ o2 ++ o3 ∧ ∀ t' o2', Rep ids S w t' v o2' → RepL ids S w (ts.set i t') vs (o1 ++ o2' ++ o3)
  | [], vs, ob, i, t, h, ht => by simp at ht
  | t0 :: ts, vs, ob, 0, t, h, ht => by
    simp only [List.getElem?_cons_zero, Option.some.injEq] at ht; subst ht
    simp only [RepL] at h
    obtain ⟨v, vs', ob1, ob2, rfl, h1, h2, rfl⟩ := h
    refine ⟨v, [], ob1, ob2, rfl, h1, by simp, fun t' o2' hr => ?_⟩
    simp only [List.set_cons_zero, RepL]
    exact ⟨v, vs', o2', ob2, rfl, hr, h2, by simp⟩
  | t0 :: ts, vs, ob, i + 1, t, h, ht => by
    simp only [List.getElem?_cons_succ] at ht
    simp only [RepL] at h
    obtain ⟨v, vs', ob1, ob2, rfl, h1, h2, rfl⟩ := h
    obtain ⟨u, o1, o2, o3, g1, g2, rfl, g3⟩ := repL_get ts vs' ob2 i t h2 ht
    refine ⟨u, ob1 ++ o1, o2, o3, by simpa using g1, g2, by simp, fun t' o2' hr => ?_⟩
    simp only [List.set_cons_succ, RepL]
    exact ⟨v, vs', ob1, _, rfl, h1, g3 t' o2' hr, by simp⟩

theorem isString_sound {t : TypeId} (h : isString P t = true) : P.underlying t = some .string := by
  unfold isString at h; split at h <;> simp_all

theorem isSlice_sound {t : TypeId} (h : isSlice P t = true) : ∃ e i, P.underlying t = some (.slice e) ∧ P.info? e = some i ∧ 0 < i.size := by
  unfold isSlice at h
  split at h
  · rename_i e he
    split at h
    · rename_i i hi; exact ⟨e, i, he, hi, by simpa using h⟩
    · cases h
  · cases h

theorem szOk_sound {t : TypeId} {sz : Nat} (h : szOk P t sz = true) : ∃ i, P.info? t = some i ∧ i.size = sz ∧ 0 < sz := by
  unfold szOk at h
  split at h
  · rename_i i hi; simp at h; exact ⟨i, hi, h.1, h.2⟩
  · cases h

theorem run_sizeOf {t : TypeId} {i : TypeInfo} (h : P.info? t = some i) (w : World) : (Go.sizeOf t).run P w = .ok i.size w := by
  simp [Go.sizeOf, typeInfo, h]

theorem sound_len {o : Oper} {t : TypeId} {x : Operand} {d : Nat} {str : Bool} {x' : Opd} {σ : Oracle} {ws : Env} {c : Call} (h : Inv ids S A N ρ fix w tm E obs []) (hd : d < N) (hf : d ∉ fix)
    (hop : o.op = .call c) (hcal : c.callee = .builtin .len) (hargs : c.args = #[x]) (hty : c.argTypes = #[t]) (ho : o.dst = some d) (hx : opdOk ids x x' = true)
    (ht : (if str then isString P t else isSlice P t) = true)
    (hs : stepI σ ρ fix E (.len d str x') = some ws)
    (hK : ∀ a' w', After ids S A N ρ fix w tm ds E [d] ws a' w' → K a' w') : o.wp P ⟨tm, ds⟩ w K Q := by
  simp only [stepI, Option.bind_eq_some_iff, Option.some.injEq] at hs
  obtain ⟨a, ha, n, hn, rfl⟩ := hs
  obtain ⟨ob, hr, _⟩ := h.peek (ds := ds) (opdOk_sound hx) ha
  have fin : (Builtin.len_ #[t] o.type #[(Act.mk tm ds).eval x]).run P w = .ok (.int .i64 n) w → o.wp P ⟨tm, ds⟩ w K Q := by
    intro hrun
    refine after_tree h ho hd hf (v := .int .i64 n) ?_ (by simp [Rep]) hK
    unfold execOp
    simp only [hop, resolve, hcal, hargs, hty, invoke, builtin, Sem.run_bind, Sem.run_pure, Result.andThen_ok, List.map_toArray, List.map_cons, List.map_nil, hrun]
  cases str with
  | true =>
    have hts := isString_sound (by simpa using ht)
    unfold Tree.len at hn
    split at hn <;> simp only [if_true, Option.some.injEq, reduceCtorEq] at hn
    subst hn
    simp only [Rep] at hr
    rw [hr.1] at fin
    exact fin (by simp [Builtin.len_, run_underlying hts, goInt, size_mk])
  | false =>
    obtain ⟨e, i, hts, _⟩ := isSlice_sound (by simpa using ht)
    have goal : ∀ aa cap, (Act.mk tm ds).eval x = .slice aa n cap → o.wp P ⟨tm, ds⟩ w K Q := by
      intro aa cap hv
      rw [hv] at fin
      exact fin (by simp [Builtin.len_, run_underlying hts, goInt])
    unfold Tree.len at hn
    split at hn <;> simp only [if_false, Bool.false_eq_true, Option.some.injEq, reduceCtorEq] at hn
    · subst hn
      simp only [Rep] at hr
      obtain ⟨⟨aa, hv⟩, _⟩ := hr
      exact goal aa 0 hv
    · rename_i ow sz es
      subst hn
      cases ow with
      | true =>
        simp only [Rep] at hr
        rcases hr with ⟨rfl, hv, _⟩ | ⟨b, cap, ob', hv, _⟩
        · exact goal _ 0 hv
        · exact goal _ cap hv
      | false => simp only [Rep] at hr; obtain ⟨_, _, aa, cap, hv, _⟩ := hr; exact goal _ cap hv

theorem asNat_sound {t : Tree} {n : Nat} (h : asNat t = some n) : ∃ k, t = .int k n := by
  unfold asNat at h
  split at h
  · rename_i k m
    split at h
    · simp only [Option.some.injEq] at h
      exact ⟨k, by congr 1; omega⟩
    · cases h
  · cases h

theorem sound_idx {o : Oper} {t : TypeId} {x i : Operand} {d : Nat} {x' i' : Opd} {σ : Oracle} {ws : Env} (h : Inv ids S A N ρ fix w tm E obs []) (hd : d < N) (hf : d ∉ fix)
    (hop : o.op = .index t x i) (ho : o.dst = some d) (hx : opdOk ids x x' = true) (hi : opdOk ids i i' = true) (ht : isString P t = true)
    (hs : stepI σ ρ fix E (.idx d x' i') = some ws)
    (hK : ∀ a' w', After ids S A N ρ fix w tm ds E [d] ws a' w' → K a' w') : o.wp P ⟨tm, ds⟩ w K Q := by
  simp only [stepI, Option.bind_eq_some_iff] at hs
  obtain ⟨ti, hti, k, hk, tx, htx, hs⟩ := hs
  obtain ⟨kk, rfl⟩ := asNat_sound hk
  have e1 := h.peekInt (ds := ds) hi hti
  split at hs
  · rename_i s
    simp only [Option.bind_eq_some_iff, Option.some.injEq] at hs
    obtain ⟨b, hb, rfl⟩ := hs
    have e2 := h.peekStr (ds := ds) hx htx
    refine after_tree h ho hd hf (v := .int .u8 b.toNat) ?_ (by simp [Rep]) hK
    have hlt := (List.getElem?_eq_some_iff.1 hb).1
    have hg : (ByteArray.mk s.toArray)[k]? = some b := by
      rw [ByteArray.getElem?_lt' _ _ (by rw [size_mk]; exact hlt)]
      obtain ⟨_, hb⟩ := List.getElem?_eq_some_iff.1 hb
      rw [← hb]; rfl
    unfold execOp
    simp only [hop, e1, e2]
    simp [Instr.index, asIntOf, run_underlying (isString_sound ht), hg]
  · cases hs

theorem sound_mkfn {o : Oper} {f : FuncId} {caps : Array Operand} {d g : Nat} {cs : List Nat} {first : Array Operand} {σ : Oracle} {ws : Env} (h : Inv ids S A N ρ fix w tm E obs []) (hd : d < N) (hf : d ∉ fix)
    (hop : o.op = .makeFunc (.func f) first caps) (hfirst : first = #[]) (ho : o.dst = some d) (hg : ids f = g) (hc : capsOk caps.toList cs = true)
    (hs : stepI σ ρ fix E (.mkfn d g cs) = some ws)
    (hK : ∀ a' w', After ids S A N ρ fix w tm ds E [d] ws a' w' → K a' w') : o.wp P ⟨tm, ds⟩ w K Q := by
  simp only [stepI] at hs
  split at hs
  · rename_i hfix
    simp only [Option.some.injEq] at hs; subst hs
    have hfix' : ∀ c, c ∈ cs → c ∈ fix := by simpa using hfix
    have hmap : ∀ (xs : List Operand) (cs : List Nat), capsOk xs cs = true → xs.map (Act.mk tm ds).eval = cs.map fun c => tm.getD c undef := by
      intro xs
      induction xs with
      | nil => intro cs hc; cases cs with
        | nil => rfl
        | cons c cs => simp [capsOk] at hc
      | cons x xs ih => intro cs hc; cases cs with
        | nil => simp [capsOk] at hc
        | cons c cs =>
          simp only [capsOk, Bool.and_eq_true] at hc
          have : x = .tmp c := by have := hc.1; unfold isTmp at this; split at this <;> simp_all
          subst this
          simp only [List.map_cons, ih cs hc.2]; rfl
    refine after_put (a := .clo g cs) (v := .func (.func f) #[] (caps.map (Act.mk tm ds).eval)) (ob := []) (by simpa using h) ho hd hf ?_ ?_ (by rintro r p (hb | ⟨i, j, hb⟩) <;> cases hb) ?_ hK
    · unfold execOp
      simp only [hop, hfirst, Instr.makeFunc]
      simp
    · simp only [SlotOk, get_wr, if_true, getD_set_self (by rw [h.size]; exact hd)]
      refine ⟨trivial, f, hg, ?_⟩
      congr 1
      apply Array.ext'
      rw [Array.toList_map, hmap _ _ hc]
      simp only
      refine List.map_congr_left fun c hc' => ?_
      rw [getD_set_ne (fun e : c = d => hf (e ▸ hfix' c hc'))]
    · intro f' caps' hcl c hc'
      cases hcl
      exact hfix' c hc'
  · cases hs
end
end Go.Vs
/- Operations that take operands or make memory. -/
namespace Go.Vs
open Go

section
variable {P : Program} {ids : Nat → Nat} {S S' A : Nat → Prop} {N : Nat} {ρ : Roots} {fix : List Nat} {w w' : World} {tm : Array Value} {ds : List Deferred} {E : Env} {obs obs' : Nat → List Nat}
variable {K : Act → World → Prop} {Q : Exit → Act → World → Prop}

/-- the end of an operation that has taken operands (ws0) and puts a value -/
theorem after_fin {o : Oper} {d : Nat} {t : Tree} {v : Value} {ob H : List Nat} {ws0 : Env} (h : Inv ids S' A N ρ fix w' tm (ws0 ++ E) obs' (ob ++ H)) (ho : o.dst = some d) (hd : d < N) (hf : d ∉ fix)
    (hr : (execOp (Act.mk tm ds).eval o).run P w = .ok (.value v) w') (hs : Rep ids S' w' t v ob)
    (hev : Evo A w w') (hS : ∀ b, S b → S' b) (hS' : ∀ b, S' b → S b ∨ A b)
    (hK : ∀ a' w', After ids S A N ρ fix w tm ds E [d] (wr ρ d (.tree t) ++ ws0) a' w' → K a' w') : o.wp P ⟨tm, ds⟩ w K Q := by
  refine wp_value hr (hK _ _ ?_)
  rw [ho]
  have h1 := h.putT hd hf hs
  have h2 : Inv ids S' A N ρ fix w' (tm.setIfInBounds d v) (wr ρ d (.tree t) ++ (ws0 ++ E)) (fun s => if s = d then ob else if killed ρ s d then [] else obs' s) [] :=
    Inv.drop (ob := H) (by simpa using h1)
  refine ⟨_, S', _, rfl, by rw [List.append_assoc]; exact h2, hev, hS, hS', fun s hs => ?_⟩
  exact getD_set_ne (by simpa using hs)

theorem rep_cells {t : Tree} {v : Value} {ob : List Nat} (hst : t.storable = true) (h : Rep ids S w t v ob) :
    RepL ids S w t.cells v.cells.toList ob ∧ ∀ u, u ∈ v.cells.toList → u.oneCell' = true := by
  have one : ∀ {t' : Tree}, t'.cells = [t'] → v.cells = #[v] → v.oneCell' = true → Rep ids S w t' v ob →
      RepL ids S w t'.cells v.cells.toList ob ∧ ∀ u, u ∈ v.cells.toList → u.oneCell' = true := by
    intro t' h1 h2 h3 h4
    rw [h1, h2]
    refine ⟨?_, by simpa using h3⟩
    simp only [RepL]
    exact ⟨v, [], ob, [], rfl, h4, ⟨rfl, rfl⟩, by simp⟩
  cases t with
  | agg cs =>
    simp only [Rep] at h
    obtain ⟨vs, rfl, h1, h2⟩ := h
    exact ⟨h2, h1⟩
  | tup cs => simp [Tree.storable] at hst
  | dead => simp [Tree.storable] at hst
  | int k n => have h0 := h; simp only [Rep] at h0; rw [h0.1] at one ⊢; rw [h0.1] at h; exact one rfl rfl rfl h
  | bool b => have h0 := h; simp only [Rep] at h0; rw [h0.1] at one ⊢; rw [h0.1] at h; exact one rfl rfl rfl h
  | str s => have h0 := h; simp only [Rep] at h0; rw [h0.1] at one ⊢; rw [h0.1] at h; exact one rfl rfl rfl h
  | nil => have h0 := h; simp only [Rep] at h0; obtain ⟨⟨a, h0⟩, _⟩ := h0; subst h0; exact one rfl rfl rfl h
  | nilp => have h0 := h; simp only [Rep] at h0; rw [h0.1] at one ⊢; rw [h0.1] at h; exact one rfl rfl rfl h
  | sl ow sz es =>
    have h0 := h
    cases ow with
    | true => simp only [Rep] at h0; rcases h0 with ⟨_, h0, _⟩ | ⟨b, cap, ob', h0, _⟩ <;> subst h0 <;> exact one rfl rfl rfl h
    | false => simp only [Rep] at h0; obtain ⟨_, _, a, cap, h0, _⟩ := h0; subst h0; exact one rfl rfl rfl h
  | ptr ow cs =>
    have h0 := h
    cases ow with
    | true => simp only [Rep] at h0; obtain ⟨b, ob', h0, _⟩ := h0; subst h0; exact one rfl rfl rfl h
    | false => simp only [Rep] at h0; obtain ⟨_, b, off, h0, _⟩ := h0; subst h0; exact one rfl rfl rfl h
  | fn f cs => have h0 := h; simp only [Rep] at h0; obtain ⟨g, vs, h0, _⟩ := h0; subst h0; exact one rfl rfl rfl h

/-- a new row of cells -/
theorem heap_push_old (w : World) (o : Obj) {b : Nat} (hb : b < w.heap.size) : (w.alloc o).heap[b]? = w.heap[b]? := heap_alloc_old w o b hb

theorem heap_push_new (w : World) (o : Obj) : (w.alloc o).heap[w.heap.size]? = some o := heap_alloc_new w o

theorem repCs_row : ∀ (ts : List Tree) (vs : List Value) (ob : List Nat) (b off : Nat), RepL ids S w ts vs ob → (∀ u, u ∈ vs → u.oneCell' = true) →
    (∀ j u, vs[j]? = some u → w.cell? ⟨b, off + j, none⟩ = some u) → RepCs ids S w ts b off ob
  | [], vs, ob, b, off, h, _, _ => by simp only [RepL] at h; simp only [RepCs]; exact h.2
  | t :: ts, vs, ob, b, off, h, h1, hc => by
    simp only [RepL] at h
    obtain ⟨v, vs', ob1, ob2, rfl, g1, g2, rfl⟩ := h
    simp only [RepCs]
    refine ⟨v, ob1, ob2, ⟨by simpa using hc 0 v rfl, h1 v (by simp)⟩, g1, ?_, rfl⟩
    refine repCs_row ts vs' ob2 b (off + 1) g2 (fun u hu => h1 u (by simp [hu])) fun j u hj => ?_
    have := hc (j + 1) u (by simpa using hj)
    rwa [show off + (j + 1) = off + 1 + j by omega] at this

/-- the old memory is there behind a new row -/
theorem Inv.alloc {H : List Nat} (h : Inv ids S A N ρ fix w tm E obs H) (o : Obj) : Inv ids S A N ρ fix (w.alloc o) tm E obs (w.heap.size :: H) :=
  Inv.ext (L := [w.heap.size]) h (by simp) (fun b hb => heap_push_old w o hb) (by simp) (by simp)

theorem evo_alloc (_hA : ∀ b, w.heap.size ≤ b → A b) (o : Obj) : Evo A w (w.alloc o) :=
  ⟨rfl, rfl, rfl, by simp, fun b hb _ => heap_push_old w o hb⟩

theorem rep_alloc {t : Tree} {v : Value} {ob : List Nat} (hS : ∀ b, S b → b < w.heap.size) (h : Rep ids S w t v ob) (o : Obj) : Rep ids S (w.alloc o) t v ob :=
  rep_mono (fun _ h => h) (fun b hb => heap_push_old w o (hS b hb)) t v ob (fun b hb => heap_push_old w o (rep_lt _ _ _ h b hb)) h

theorem repL_alloc {ts : List Tree} {vs : List Value} {ob : List Nat} (hS : ∀ b, S b → b < w.heap.size) (h : RepL ids S w ts vs ob) (o : Obj) : RepL ids S (w.alloc o) ts vs ob :=
  repL_mono (fun _ h => h) (fun b hb => heap_push_old w o (hS b hb)) ts vs ob (fun b hb => heap_push_old w o (repL_lt _ _ _ h b hb)) h

/-- a variable of its own, its cells given -/
theorem rep_newVar {ts : List Tree} {vs : Array Value} {ob : List Nat} (hS : ∀ b, S b → b < w.heap.size) (h : RepL ids S w ts vs.toList ob) (h1 : ∀ u, u ∈ vs.toList → u.oneCell' = true) (ty : TypeId) :
    Rep ids S (w.alloc (.cells vs ty)) (.ptr true ts) (.pointer (some ⟨w.heap.size, 0, none⟩)) (w.heap.size :: ob) := by
  simp only [Rep]
  refine ⟨w.heap.size, ob, rfl, rfl, ⟨vs, ty, (0, 0), heap_push_new w _, ?_, by simp⟩, ?_⟩
  · have := repL_length _ _ _ h; simpa using this
  · refine repCs_row _ _ _ _ _ (repL_alloc hS h _) h1 fun j u hj => ?_
    rw [Nat.zero_add, World.cell?_alloc_new]
    simpa using hj

theorem sound_asg {o : Oper} {x : Operand} {d : Nat} {y : Opd} {m : Md} {σ : Oracle} {ws : Env} (h : Inv ids S A N ρ fix w tm E obs []) (hd : d < N) (hf : d ∉ fix)
    (hop : o.op = .assign x ∨ o.op = .move x) (ho : o.dst = some d) (hx : opdOk ids x y = true)
    (hs : stepI σ ρ fix E (.asg d y m) = some ws)
    (hK : ∀ a' w', After ids S A N ρ fix w tm ds E [d] ws a' w' → K a' w') : o.wp P ⟨tm, ds⟩ w K Q := by
  simp only [stepI, Option.bind_eq_some_iff, Option.some.injEq] at hs
  obtain ⟨⟨t, ws0⟩, ht, rfl⟩ := hs
  obtain ⟨S', obs', ob, h1, h2, h3, h4, h5⟩ := h.take (ds := ds) (opdOk_sound hx) ht
  refine after_fin h1 ho hd hf ?_ h2 (Evo.refl A w) h3 h4 hK
  unfold execOp
  rcases hop with hop | hop <;> simp only [hop] <;> rfl

theorem sound_box {o : Oper} {ty : TypeId} {x : Operand} {d : Nat} {y : Opd} {m : Md} {σ : Oracle} {ws : Env} (h : Inv ids S A N ρ fix w tm E obs []) (hd : d < N) (hf : d ∉ fix)
    (hop : o.op = .box ty x) (ho : o.dst = some d) (hx : opdOk ids x y = true)
    (hs : stepI σ ρ fix E (.box d y m) = some ws)
    (hK : ∀ a' w', After ids S A N ρ fix w tm ds E [d] ws a' w' → K a' w') : o.wp P ⟨tm, ds⟩ w K Q := by
  simp only [stepI, Option.bind_eq_some_iff] at hs
  obtain ⟨⟨t, ws0⟩, ht, hs⟩ := hs
  simp only at hs
  split at hs
  · rename_i hst
    simp only [Option.some.injEq] at hs; subst hs
    obtain ⟨S', obs', ob, h1, h2, h3, h4, h5⟩ := h.take (ds := ds) (opdOk_sound hx) ht
    obtain ⟨g1, g2⟩ := rep_cells hst h2
    refine after_fin (ob := w.heap.size :: ob) (H := []) (h1.alloc _) ho hd hf ?_ (rep_newVar h1.st g1 g2 ty) (evo_alloc h.fresh _) h3 h4 hK
    unfold execOp
    simp only [hop, Instr.box, newVar, newRow]
    simp only [Sem.run_bind, run_newObj, Result.andThen_ok, Sem.run_pure]
    rfl
  · cases hs

theorem zeroIs_sound {t : TypeId} {z : Tree} (h : zeroIs P t z = true) : ∃ i v, P.info? t = some i ∧ i.zero = some v ∧ zeroOk v z = true := by
  unfold zeroIs at h
  split at h
  · rename_i i hi
    split at h
    · rename_i v hv; exact ⟨i, v, hi, hv, h⟩
    · cases h
  · cases h

theorem zero_storable {v : Value} {z : Tree} (h : zeroOk v z = true) : z.storable = true := by
  unfold zeroOk at h
  split at h
  · rfl
  · cases h
  · exact (rep_const (ids := fun x => x) (S := fun _ => True) (w := default) h).2.2.2

theorem sound_new {o : Oper} {ty : TypeId} {d : Nat} {z : Tree} {σ : Oracle} {ws : Env} (h : Inv ids S A N ρ fix w tm E obs []) (hd : d < N) (hf : d ∉ fix)
    (hop : o.op = .alloc ty) (ho : o.dst = some d) (hz : zeroIs P ty z = true)
    (hs : stepI σ ρ fix E (.new d z) = some ws)
    (hK : ∀ a' w', After ids S A N ρ fix w tm ds E [d] ws a' w' → K a' w') : o.wp P ⟨tm, ds⟩ w K Q := by
  simp only [stepI, Option.some.injEq] at hs
  subst hs
  obtain ⟨i, v, hi, hv, hzt⟩ := zeroIs_sound hz
  obtain ⟨r1, r3⟩ := rep_zero (ids := ids) (S := S) (w := w) hzt
  obtain ⟨g1, g2⟩ := rep_cells (zero_storable hzt) r1
  have := after_fin (ws0 := []) (ob := [w.heap.size]) (H := []) (S := S) (S' := S) (K := K) (Q := Q) (o := o) (P := P) (ds := ds) (h.alloc (.cells v.cells ty)) ho hd hf ?_ (rep_newVar h.st g1 g2 ty) (evo_alloc h.fresh _) (fun _ h => h) (fun _ h => .inl h)
    (by simpa using hK)
  · exact this
  · unfold execOp
    simp only [hop, Instr.alloc, zeroValue, typeInfo, newVar, newRow]
    simp only [Sem.run_bind, run_program, Result.andThen_ok, hi, hv, Sem.run_pure, run_newObj]
    rfl

/-- reading cells -/
theorem repCs_load : ∀ (ts : List Tree) (b off : Nat) (ob : List Nat), RepCs ids S w ts b off ob →
    ∃ vs, vs.length = ts.length ∧ RepL ids S w ts vs ob ∧ (∀ u, u ∈ vs → u.oneCell' = true) ∧ ∀ j u, vs[j]? = some u → w.cell? ⟨b, off + j, none⟩ = some u
  | [], b, off, ob, h => by simp only [RepCs] at h; exact ⟨[], rfl, by simp [RepL, h], by simp, by simp⟩
  | t :: ts, b, off, ob, h => by
    simp only [RepCs] at h
    obtain ⟨v, ob1, ob2, ⟨hc, h1⟩, hr, hrest, rfl⟩ := h
    obtain ⟨vs, g1, g2, g3, g4⟩ := repCs_load ts b (off + 1) ob2 hrest
    refine ⟨v :: vs, by simp [g1], ?_, ?_, ?_⟩
    · simp only [RepL]; exact ⟨v, vs, ob1, ob2, rfl, hr, g2, rfl⟩
    · intro u hu
      rcases List.mem_cons.1 hu with rfl | hu
      · exact h1
      · exact g3 u hu
    · intro j u hj
      cases j with
      | zero => simp only [List.getElem?_cons_zero, Option.some.injEq] at hj; subst hj; exact hc
      | succ j => simp only [List.getElem?_cons_succ] at hj; have := g4 j u hj; rwa [show off + (j + 1) = off + 1 + j by omega]

theorem aggOk_sound {t : TypeId} {agg : Bool} {sz : Nat} (h : aggOk P t agg sz = true) :
    ∃ i, P.info? t = some i ∧ i.size = sz ∧ 0 < sz ∧ (∀ w, (isAgg t).run P w = .ok agg w) ∧ (agg = false → sz = 1) := by
  simp only [aggOk, Bool.and_eq_true] at h
  obtain ⟨h1, h2⟩ := h
  obtain ⟨i, hi, hsz, hp⟩ := szOk_sound h1
  refine ⟨i, hi, hsz, hp, ?_, ?_⟩
  · intro w
    split at h2
    · rename_i fs hu; subst h2; simp [isAgg, run_underlying hu]
    · rename_i n e hu; subst h2; simp [isAgg, run_underlying hu]
    · rename_i d n1 n2 hu
      simp only [Bool.and_eq_true, Bool.not_eq_true'] at h2
      rw [h2.1]
      simp only [isAgg, Sem.run_bind, run_underlying hu, Result.andThen_ok]
      rfl
    · cases h2
  · intro hag
    subst hag
    split at h2 <;> simp_all

theorem run_loadVar {t : TypeId} {agg : Bool} {sz b off : Nat} {vs : List Value} (h : aggOk P t agg sz = true) (hl : vs.length = sz)
    (hc : ∀ j u, vs[j]? = some u → w.cell? ⟨b, off + j, none⟩ = some u) :
    (loadVar t ⟨b, off, none⟩).run P w = .ok (if agg then .agg vs.toArray else vs.headD undef) w := by
  obtain ⟨i, hi, hsz, hp, hagg, h1⟩ := aggOk_sound h
  unfold loadVar
  simp only [Sem.run_bind, hagg, Result.andThen_ok]
  cases agg with
  | true =>
    simp only [if_true]
    simp only [Sem.run_bind, run_sizeOf hi, Result.andThen_ok, hsz]
    rw [← hl, run_loadCells_list w ⟨b, off, none⟩ vs (fun j v hj => by rw [Addr.add_lit]; exact hc j v hj)]
    rfl
  | false =>
    have hs1 := h1 rfl
    obtain ⟨v, rfl⟩ : ∃ v, vs = [v] := by
      match vs, hl with
      | [v], _ => exact ⟨v, rfl⟩
      | [], hl => simp at hl; omega
      | _ :: _ :: _, hl => simp at hl; omega
    have := hc 0 v rfl
    simp only [Nat.add_zero] at this
    simp [this]

theorem repL_one {t : Tree} {v : Value} {ob : List Nat} : RepL ids S w [t] [v] ob ↔ Rep ids S w t v ob := by
  simp only [RepL]
  constructor
  · rintro ⟨v', vs', o1, o2, h, h1, ⟨rfl, rfl⟩, rfl⟩
    simp only [List.cons.injEq] at h
    rw [h.1]; simpa using h1
  · intro h; exact ⟨v, [], ob, [], rfl, h, ⟨rfl, rfl⟩, by simp⟩

/-- the loaded value stands for the loaded tree -/
theorem rep_loaded {agg : Bool} {cs : List Tree} {vs : List Value} {ob : List Nat} {t : Tree} (h : RepL ids S w cs vs ob) (h1 : ∀ u, u ∈ vs → u.oneCell' = true) (ht : oneOrAgg agg cs = some t) :
    Rep ids S w t (if agg then .agg vs.toArray else vs.headD undef) ob := by
  unfold oneOrAgg at ht
  cases agg with
  | true =>
    simp only [if_true, Option.some.injEq] at ht ⊢; subst ht
    simp only [Rep]
    exact ⟨vs.toArray, rfl, by simpa using h1, h⟩
  | false =>
    simp only [Bool.false_eq_true, if_false] at ht ⊢
    split at ht
    · rename_i c
      simp only [Option.some.injEq] at ht; subst ht
      have hl := repL_length _ _ _ h
      obtain ⟨v, rfl⟩ : ∃ v, vs = [v] := by
        match vs, hl with
        | [v], _ => exact ⟨v, rfl⟩
        | [], hl => simp at hl
        | _ :: _ :: _, hl => simp at hl
      exact repL_one.1 h
    · cases ht

end
end Go.Vs
/- Loads and stores at places. -/
namespace Go.Vs
open Go

section
variable {P : Program} {ids : Nat → Nat} {S S' A : Nat → Prop} {N : Nat} {ρ : Roots} {fix : List Nat} {w w' : World} {tm : Array Value} {ds : List Deferred} {E : Env} {obs obs' : Nat → List Nat}
variable {K : Act → World → Prop} {Q : Exit → Act → World → Prop} {H : List Nat}

/-- some cells of an element at a place: what they hold, and what becomes of the whole when they change -/
theorem rep_cells_at {t n e : Tree} {v : Value} {ob : List Nat} {p : Path} {i j k : Nat} (h : Rep ids S w t v ob) (hn : t.tAt p = some n) (he : n.elem i = some e)
    (hj : j + k ≤ e.cells.length) (hnd : ob.Nodup) :
    ∃ vn b pre q post m, vAt w t v p = some vn ∧ base vn = some b ∧ ob = pre ++ q ++ post ∧ b ∈ pre ∧ OwnBlk w b m ∧ i * n.szOf + e.cells.length ≤ m ∧
      RepCs ids S w ((e.cells.drop j).take k) b (i * n.szOf + j) q ∧
      ∀ (S' : Nat → Prop) (w' : World) (new : List Tree) (q' : List Nat), new.length = k → (∀ x, S x → S' x) → (∀ x, S x → w'.heap[x]? = w.heap[x]?) →
        (∀ x, x ∈ pre → x ≠ b → w'.heap[x]? = w.heap[x]?) → (∀ x, x ∈ post → w'.heap[x]? = w.heap[x]?) →
        (∀ o, (o < i * n.szOf + j ∨ i * n.szOf + j + k ≤ o) → w'.cell? ⟨b, o, none⟩ = w.cell? ⟨b, o, none⟩) → OwnBlk w' b m →
        RepCs ids S' w' new b (i * n.szOf + j) q' →
        ∃ n' t', n.setCells i j new = some n' ∧ t.upd p n' = some t' ∧ Rep ids S' w' t' v (pre ++ q' ++ post) := by
  obtain ⟨vn, p1, on, p3, h1, rfl, h3, h4⟩ := rep_at p t n v ob h hn
  obtain ⟨b, o1, o2, o3, m, g1, rfl, g3, g4, g5, g6⟩ := rep_elem h3 he
  have g5' := g5
  rw [repCs_range hj] at g5'
  obtain ⟨a1, q, a3, c1, c2, c3, rfl⟩ := g5'
  obtain ⟨nd1, nd2, nd3⟩ := List.nodup_append.1 hnd
  obtain ⟨nd4, nd5, nd6⟩ := List.nodup_append.1 nd1
  have hb1 : b ∉ p1 := fun hb => nd6 b hb b (by simp) rfl
  have hb3 : b ∉ p3 := fun hb => nd3 b (by simp) b hb rfl
  have nd7 := (List.nodup_cons.1 nd5).1
  refine ⟨vn, b, p1 ++ b :: (o1 ++ a1), q, a3 ++ o3 ++ p3, m, h1, g1, by simp, by simp, g3, g4, c2, ?_⟩
  intro S' w' new q' hl hS hw hpre hpost hcell hblk hnew
  have hpre' : ∀ x, x ∈ p1 ∨ x ∈ o1 ∨ x ∈ a1 → w'.heap[x]? = w.heap[x]? := by
    intro x hx
    refine hpre x (by rcases hx with hx | hx | hx <;> simp [hx]) ?_
    rintro rfl
    rcases hx with hx | hx | hx
    · exact hb1 hx
    · exact nd7 (by simp [hx])
    · exact nd7 (by simp [hx])
  have hpost' : ∀ x, x ∈ p3 ∨ x ∈ o3 ∨ x ∈ a3 → w'.heap[x]? = w.heap[x]? := by
    intro x hx
    exact hpost x (by rcases hx with hx | hx | hx <;> simp [hx])
  have hjn : j + new.length ≤ e.cells.length := by omega
  obtain ⟨s1, s2, s3, s4⟩ := setRange_parts hjn
  obtain ⟨n', k1, k2⟩ := g6 S' w' new j (a1 ++ q' ++ a3) hS hw (fun x hx => hpre' x (.inr (.inl hx))) (fun x hx => hpost' x (.inr (.inl hx)))
    (fun o ho => hcell o (by rcases ho with ho | ho <;> omega)) hblk hjn (by
      rw [repCs_range (j := j) (n := new.length) (by omega), s1, s2, s3]
      refine ⟨a1, q', a3, ?_, hnew, ?_, rfl⟩
      · exact repCs_cells hS hw _ b _ a1 (fun o _ ho => hcell o (.inl (by simp at ho; omega))) (fun x hx => hpre' x (.inr (.inr hx))) c1
      · rw [hl]
        exact repCs_cells hS hw _ b _ a3 (fun o ho _ => hcell o (.inr (by omega))) (fun x hx => hpost' x (.inr (.inr hx))) c3)
  obtain ⟨t', k3, k4⟩ := h4 S' w' n' _ hS hw (fun x hx => hpre' x (.inl hx)) (fun x hx => hpost' x (.inl hx)) k2
  exact ⟨n', t', k1, k3, by simpa [List.append_assoc] using k4⟩

theorem Inv.addr {H : List Nat} (h : Inv ids S A N ρ fix w tm E obs H) {o : Operand} {x : Opd} (ho : opdOk ids o x = true) {r : Nat} {p : Path} {i j : Nat}
    (ha : addrOf E x = some (.own r p i j)) {T n e : Tree} (hT : get E r = .tree T) (hn : T.tAt p = some n) (he : n.elem i = some e) :
    ∃ vn b, vAt w T (tm.getD r undef) p = some vn ∧ base vn = some b ∧ (Act.mk tm ds).eval o = .pointer (some ⟨b, i * n.szOf + j, none⟩) := by
  cases x with
  | c t => simp [addrOf] at ha
  | v s =>
    have := opd_v ho; subst this
    have h0 := h.slot s
    simp only [addrOf] at ha
    split at ha
    · rename_i cs ht
      simp only [Option.some.injEq, Adr.own.injEq] at ha
      obtain ⟨rfl, rfl, rfl, rfl⟩ := ha
      rw [ht] at hT; cases hT
      simp only [Tree.tAt, Option.some.injEq] at hn; subst hn
      simp only [SlotOk, ht, Rep] at h0
      obtain ⟨b, ob', hv, _⟩ := h0
      exact ⟨_, b, rfl, by rw [hv]; rfl, by rw [eval_tmp, hv]; simp [Tree.szOf]⟩
    · simp at ha
    · rename_i r' p' ht
      split at ha
      · rename_i cs htr
        simp only [Option.some.injEq, Adr.own.injEq] at ha
        obtain ⟨rfl, rfl, rfl, rfl⟩ := ha
        obtain ⟨T', hT', hn'⟩ := treeAt_some htr
        rw [hT'] at hT; cases hT
        rw [hn'] at hn; cases hn
        simp only [SlotOk, ht] at h0
        have hv := h0.2 _ _ hT' hn'
        obtain ⟨vn, pre, on, post, g1, _, g3⟩ := h.node hT' hn'
        rw [hv] at g1; simp only [Option.some.injEq] at g1; subst g1
        simp only [Rep] at g3
        obtain ⟨b, ob', hv2, _⟩ := g3
        exact ⟨_, b, hv, by rw [hv2]; rfl, by rw [eval_tmp, hv2]; simp [Tree.szOf]⟩
      · cases ha
      · cases ha
    · rename_i r' p' i' j' ht
      simp only [Option.some.injEq, Adr.own.injEq] at ha
      obtain ⟨rfl, rfl, rfl, rfl⟩ := ha
      simp only [SlotOk, ht] at h0
      exact h0.2 T n e hT hn he
    · cases ha

theorem Inv.addrSh {H : List Nat} (h : Inv ids S A N ρ fix w tm E obs H) {o : Operand} {x : Opd} (ho : opdOk ids o x = true) {cs : List Tree}
    (ha : addrOf E x = some (.sh cs)) : ∃ b off, (Act.mk tm ds).eval o = .pointer (some ⟨b, off, none⟩) ∧ S b ∧ RepCs ids S w cs b off [] := by
  have key : Vs.peek E x = some (.ptr false cs) → ∃ b off, (Act.mk tm ds).eval o = .pointer (some ⟨b, off, none⟩) ∧ S b ∧ RepCs ids S w cs b off [] := by
    intro hp
    obtain ⟨ob, hr, _⟩ := h.peek (ds := ds) (opdOk_sound ho) hp
    simp only [Rep] at hr
    obtain ⟨_, b, off, h1, h2, h3⟩ := hr
    exact ⟨b, off, h1, h2, h3⟩
  cases x with
  | c t => simp [addrOf] at ha
  | v s =>
    simp only [addrOf] at ha
    split at ha
    · simp at ha
    · rename_i cs' ht
      simp only [Option.some.injEq, Adr.sh.injEq] at ha; subst ha
      exact key (by simp only [Vs.peek, ht])
    · rename_i r p ht
      split at ha
      · simp at ha
      · rename_i cs' htr
        simp only [Option.some.injEq, Adr.sh.injEq] at ha; subst ha
        exact key (by simp only [Vs.peek, ht]; exact htr)
      · cases ha
    · simp at ha
    · cases ha

theorem loadCells_some {cs cs' : List Tree} {j sz : Nat} (h : Vs.loadCells cs j sz = some cs') : j + sz ≤ cs.length ∧ cs' = (cs.drop j).take sz ∧ cs'.length = sz := by
  unfold Vs.loadCells at h
  split at h
  · simp only [Option.some.injEq] at h; subst h
    exact ⟨‹_›, rfl, by simp; omega⟩
  · cases h

theorem execOp_load {o : Oper} {ty : TypeId} {a : Operand} {ad : Addr} {v : Value} {act : Act} (hop : o.op = .load ty a) (ha : act.eval a = .pointer (some ad)) (hl : (loadVar ty ad).run P w = .ok v w) :
    (execOp act.eval o).run P w = .ok (.value v) w := by
  unfold execOp
  simp only [hop, ha, Instr.loadAt, Instr.sureAddr, Sem.run_bind, Sem.run_pure, Result.andThen_ok, hl]

theorem repCs_dead : ∀ (cs : List Tree) (b off : Nat) (q : List Nat), RepCs ids S w cs b off q → RepCs ids S w (cs.map fun _ => Tree.dead) b off []
  | [], b, off, q, h => by simp [RepCs]
  | t :: ts, b, off, q, h => by
    simp only [RepCs, List.map_cons] at h ⊢
    obtain ⟨v, ob1, ob2, hc, hr, hrest, rfl⟩ := h
    exact ⟨v, [], [], hc, by simp [Rep], repCs_dead ts b (off + 1) ob2 hrest, rfl⟩

/-- cells of an element at a place of slot r's tree change -/
theorem Inv.setAt (h : Inv ids S A N ρ fix w tm E obs H) {r : Nat} {p : Path} {T n e : Tree} {i j k : Nat} (hT : get E r = .tree T) (hn : T.tAt p = some n) (he : n.elem i = some e)
    (hj : j + k ≤ e.cells.length) :
    ∃ vn b pre q post m, vAt w T (tm.getD r undef) p = some vn ∧ base vn = some b ∧ obs r = pre ++ q ++ post ∧ b ∈ pre ∧ OwnBlk w b m ∧ i * n.szOf + e.cells.length ≤ m ∧
      RepCs ids S w ((e.cells.drop j).take k) b (i * n.szOf + j) q ∧
      ∀ (S' : Nat → Prop) (w' : World) (new : List Tree) (q' H' : List Nat), new.length = k → (∀ x, S x → S' x) → (∀ x, S' x → x < w'.heap.size) → w.heap.size ≤ w'.heap.size →
        (∀ x, x < w.heap.size → x ≠ b → w'.heap[x]? = w.heap[x]?) →
        (∀ o, (o < i * n.szOf + j ∨ i * n.szOf + j + k ≤ o) → w'.cell? ⟨b, o, none⟩ = w.cell? ⟨b, o, none⟩) → OwnBlk w' b m →
        RepCs ids S' w' new b (i * n.szOf + j) q' →
        q'.Nodup → (∀ x, x ∈ q' → ¬ S' x ∧ A x ∧ x ∉ pre ∧ x ∉ post ∧ ∀ s, s ≠ r → x ∉ obs s) → (∀ x, x ∈ pre ∨ x ∈ post → ¬ S' x) → (∀ s, s ≠ r → ∀ x, x ∈ obs s → ¬ S' x) →
        H'.Nodup → (∀ x, x ∈ H' → ¬ S' x ∧ A x ∧ x < w'.heap.size ∧ x ∉ pre ∧ x ∉ q' ∧ x ∉ post ∧ ∀ s, s ≠ r → x ∉ obs s) →
        ∃ n' T' obs', n.setCells i j new = some n' ∧ T.upd p n' = some T' ∧ Inv ids S' A N ρ fix w' tm (Vs.chg ρ r T' ++ E) obs' H' := by
  have h0 := h.slot r
  simp only [SlotOk, hT] at h0
  obtain ⟨vn, b, pre, q, post, m, g1, g2, g3, g4, g5, g6, g7, g8⟩ := rep_cells_at h0 hn he hj (h.nodup r)
  refine ⟨vn, b, pre, q, post, m, g1, g2, g3, g4, g5, g6, g7, ?_⟩
  intro S' w' new q' H' hl hS hst hsz hw hcell hblk hnew hq1 hq2 hSp hSo hH1 hH2
  have hnd := h.nodup r
  rw [g3] at hnd
  obtain ⟨nd1, nd2, nd3⟩ := List.nodup_append.1 hnd
  obtain ⟨nd4, nd5, nd6⟩ := List.nodup_append.1 nd1
  have hbr : b ∈ obs r := by rw [g3]; simp [g4]
  have hbpost : b ∉ post := fun hb => nd3 b (by simp [g4]) b hb rfl
  have hin : ∀ x, x ∈ pre ∨ x ∈ post → x ∈ obs r := by intro x hx; rw [g3]; rcases hx with hx | hx <;> simp [hx]
  obtain ⟨n', T', k1, k2, k3⟩ := g8 S' w' new q' hl hS (fun x hx => hw x (h.st x hx) (fun e => (h.own r b hbr).1 (e ▸ hx)))
    (fun x hx hxb => hw x (h.own r x (hin x (.inl hx))).2.2 hxb)
    (fun x hx => hw x (h.own r x (hin x (.inr hx))).2.2 (fun e => hbpost (e ▸ hx))) hcell hblk hnew
  refine ⟨n', T', _, k1, k2, Inv.chg h hT hS hst hsz (fun x hx => hw x (h.st x hx) (fun e => (h.own r b hbr).1 (e ▸ hx)))
    (fun s hs x hx => hw x (h.own s x hx).2.2 (fun e => h.apart s r hs x hx (e ▸ hbr))) k3
    (upd_elem k2 fun hp => .inr ?_) ?_ ?_ hSo hH1 ?_⟩
  · subst hp
    simp only [Tree.tAt, Option.some.injEq] at hn
    subst hn
    exact setCells_elem k1
  · rw [List.append_assoc]
    refine List.nodup_append.2 ⟨nd4, List.nodup_append.2 ⟨hq1, nd2, ?_⟩, ?_⟩
    · rintro x hx y hy rfl; exact (hq2 x hx).2.2.2.1 hy
    · rintro x hx y hy rfl
      rcases List.mem_append.1 hy with hy | hy
      · exact (hq2 x hy).2.2.1 hx
      · exact nd3 x (by simp [hx]) x hy rfl
  · intro x hx
    rcases List.mem_append.1 hx with hx | hx
    · rcases List.mem_append.1 hx with hx | hx
      · have := hin x (.inl hx)
        exact ⟨hSp x (.inl hx), (h.own r x this).2.1, fun s hs hx' => h.apart s r hs x hx' this⟩
      · obtain ⟨a1, a2, _, _, a5⟩ := hq2 x hx
        exact ⟨a1, a2, a5⟩
    · have := hin x (.inr hx)
      exact ⟨hSp x (.inr hx), (h.own r x this).2.1, fun s hs hx' => h.apart s r hs x hx' this⟩
  · intro x hx
    obtain ⟨a1, a2, a3, a4, a5, a6, a7⟩ := hH2 x hx
    exact ⟨a1, a2, a3, by simp [a4, a5, a6], a7⟩

theorem vAt_snoc : ∀ (p : Path) (t n : Tree) (v vn : Value) (s : Nat × Nat), vAt w t v p = some vn → t.tAt p = some n →
    vAt w t v (p ++ [s]) = (base vn).bind fun b => (w.cell? ⟨b, s.1 * n.szOf + s.2, none⟩).bind fun c => (n.kid s).bind fun _ => some c
  | [], t, n, v, vn, s, h, hn => by
    simp only [vAt, Option.some.injEq] at h; subst h
    simp only [Tree.tAt, Option.some.injEq] at hn; subst hn
    simp only [List.nil_append, vAt]
  | s0 :: p, t, n, v, vn, s, h, hn => by
    simp only [Tree.tAt, Option.bind_eq_some_iff] at hn
    obtain ⟨k, hk, hn⟩ := hn
    simp only [vAt, Option.bind_eq_some_iff] at h
    obtain ⟨b, hb, c, hc, k', hk', h⟩ := h
    rw [hk] at hk'; simp only [Option.some.injEq] at hk'; subst hk'
    simp only [List.cons_append, vAt, hb, hc, hk, Option.bind_some]
    exact vAt_snoc p k n c vn s h hn

theorem sound_load {o : Oper} {ty : TypeId} {x : Operand} {d sz : Nat} {agg : Bool} {m : Option Md} {x' : Opd} {σ : Oracle} {ws : Env} (h : Inv ids S A N ρ fix w tm E obs []) (hd : d < N) (hf : d ∉ fix)
    (hop : o.op = .load ty x) (ho : o.dst = some d) (hx : opdOk ids x x' = true) (hty : aggOk P ty agg sz = true)
    (hs : stepI σ ρ fix E (.load d agg sz x' m) = some ws)
    (hK : ∀ a' w', After ids S A N ρ fix w tm ds E [d] ws a' w' → K a' w') : o.wp P ⟨tm, ds⟩ w K Q := by
  simp only [stepI, load, Option.bind_eq_some_iff] at hs
  obtain ⟨ad, had, hs⟩ := hs
  cases ad with
  | sh cs =>
    simp only [Option.bind_eq_some_iff, Option.some.injEq] at hs
    obtain ⟨cs', hcs, t, ht, rfl⟩ := hs
    obtain ⟨b, off, hv, hSb, hrep⟩ := h.addrSh (ds := ds) hx had
    obtain ⟨hle, rfl, hlen⟩ := loadCells_some hcs
    rw [repCs_range (j := 0) (n := sz) (by omega)] at hrep
    obtain ⟨o1, o2, o3, _, c2, _, heq⟩ := hrep
    have ho2 : o2 = [] := by
      have := congrArg List.length heq; simp at this; exact List.eq_nil_of_length_eq_zero (by omega)
    subst ho2
    obtain ⟨vs, v1, v2, v3, v4⟩ := repCs_load _ _ _ _ c2
    have hrun := run_loadVar (P := P) (w := w) (b := b) (off := off + 0) hty (by rw [v1, hlen]) v4
    exact after_tree h ho hd hf (execOp_load hop hv (by simpa using hrun)) (rep_loaded v2 v3 ht) hK
  | own r p i j =>
    simp only [loadOwn] at hs
    split at hs
    · rename_i T hT
      simp only [Option.bind_eq_some_iff] at hs
      obtain ⟨n, hn, e, he, cs, hcs, t, ht, hs⟩ := hs
      obtain ⟨hle, hcs', hlen⟩ := loadCells_some hcs
      obtain ⟨vn, b, ha1, ha2, ha3⟩ := h.addr (ds := ds) hx had hT hn he
      obtain ⟨vn', b', pre, q, post, mm, g1, g2, g3, g4, g5, g6, g7, g8⟩ := h.setAt hT hn he hle
      rw [ha1] at g1; simp only [Option.some.injEq] at g1; subst g1
      rw [ha2] at g2; simp only [Option.some.injEq] at g2; subst g2
      rw [← hcs'] at g7
      obtain ⟨vs, v1, v2, v3, v4⟩ := repCs_load _ _ _ _ g7
      have hrun := run_loadVar (P := P) (w := w) hty (by rw [v1, hlen]) v4
      have hrep := rep_loaded (agg := agg) v2 v3 ht
      have hex := execOp_load (P := P) (w := w) (act := ⟨tm, ds⟩) hop ha3 hrun
      have hnd := h.nodup r
      rw [g3] at hnd
      obtain ⟨nd1, nd2, nd3⟩ := List.nodup_append.1 hnd
      obtain ⟨nd4, nd5, nd6⟩ := List.nodup_append.1 nd1
      have hqr : ∀ x, x ∈ q → x ∈ obs r := by intro x hx; rw [g3]; simp [hx]
      have hqpre : ∀ x, x ∈ q → x ∉ pre := fun x hx hp => nd6 x hp x hx rfl
      have hqpost : ∀ x, x ∈ q → x ∉ post := fun x hx hp => nd3 x (by simp [hx]) x hp rfl
      have hpp : ∀ x, x ∈ pre ∨ x ∈ post → x ∈ obs r := by intro x hx; rw [g3]; rcases hx with hx | hx <;> simp [hx]
      split at hs
      · rename_i hpl
        simp only [Option.some.injEq] at hs; subst hs
        have hq := rep_plain _ _ _ hpl hrep
        subst hq
        exact after_tree h ho hd hf hex hrep hK
      · split at hs
        · rename_i hagg
          subst hagg
          cases m with
          | none => cases hs
          | some md =>
            cases md with
            | move =>
              simp only [Option.bind_eq_some_iff, Option.some.injEq] at hs
              obtain ⟨n', hn', T', hT', rfl⟩ := hs
              obtain ⟨n2, T2, obs2, k1, k2, k3⟩ := g8 S w (cs.map fun _ => .dead) [] q (by simp [hlen]) (fun _ h => h) h.st (Nat.le_refl _) (fun _ _ _ => rfl) (fun _ _ => rfl) g5 (repCs_dead _ _ _ _ g7)
                (by simp) (by simp) (fun x hx => (h.own r x (hpp x hx)).1) (fun s hs x hx => (h.own s x hx).1) nd5
                (fun x hx => ⟨(h.own r x (hqr x hx)).1, (h.own r x (hqr x hx)).2.1, (h.own r x (hqr x hx)).2.2, hqpre x hx, by simp, hqpost x hx, fun s hs hx' => h.apart s r hs x hx' (hqr x hx)⟩)
              rw [k1] at hn'; simp only [Option.some.injEq] at hn'; subst hn'
              rw [k2] at hT'; simp only [Option.some.injEq] at hT'; subst hT'
              exact after_fin (H := []) (by simpa using k3) ho hd hf hex hrep (Evo.refl A w) (fun _ h => h) (fun _ h => .inl h) hK
            | copy => cases hs
            | freeze =>
              simp only [Option.bind_eq_some_iff, Option.some.injEq] at hs
              obtain ⟨n', hn', T', hT', rfl⟩ := hs
              obtain ⟨n2, T2, obs2, k1, k2, k3⟩ := g8 (fun x => S x ∨ x ∈ q) w (Tree.shrL cs) [] [] (by simp [shrL_length, hlen]) (fun _ h => .inl h)
                (fun x hx => hx.elim (h.st x) (fun hx => (h.own r x (hqr x hx)).2.2)) (Nat.le_refl _) (fun _ _ _ => rfl) (fun _ _ => rfl) g5
                (repCs_shr (fun b h => .inl h) cs _ _ q (fun b h => .inr h) g7)
                (by simp) (by simp) (fun x hx hx' => hx'.elim (h.own r x (hpp x hx)).1 (fun hq => hx.elim (hqpre x hq) (hqpost x hq)))
                (fun s hs x hx hx' => hx'.elim (h.own s x hx).1 (fun hq => h.apart s r hs x hx (hqr x hq))) (by simp) (by simp)
              rw [k1] at hn'; simp only [Option.some.injEq] at hn'; subst hn'
              rw [k2] at hT'; simp only [Option.some.injEq] at hT'; subst hT'
              exact after_fin (S' := fun x => S x ∨ x ∈ q) (ob := []) (H := []) (by simpa using k3) ho hd hf hex (rep_shr (fun b h => .inl h) _ _ q (fun b h => .inr h) hrep) (Evo.refl A w) (fun _ h => .inl h)
                (fun x hx => hx.elim .inl (fun hx => .inr (h.own r x (hqr x hx)).2.1)) hK
        · rename_i hagg
          split at hs
          · rename_i hok
            simp only [Option.some.injEq] at hs; subst hs
            have hagg' : agg = false := by simpa using hagg
            subst hagg'
            refine after_put (a := .bor r (p ++ [(i, j)])) (ob := []) (by simpa using h) ho hd hf hex ?_ ?_ (by intro f caps h; cases h) hK
            · simp only [SlotOk, get_wr, if_true, getD_set_self (by rw [h.size]; exact hd)]
              refine ⟨trivial, fun T2 n2 hT2 hp2 => ?_⟩
              by_cases hrd : r = d
              · simp only [hrd, if_true] at hT2; cases hT2
              · simp only [hrd, if_false] at hT2
                split at hT2
                · cases hT2
                · rw [hT] at hT2; cases hT2
                  rw [getD_set_ne hrd, vAt_snoc _ _ _ _ _ _ ha1 hn, ha2]
                  have hk : n.kid (i, j) = e.cells[j]? := by simp [Tree.kid, he]
                  have hs1 := (aggOk_sound hty).choose_spec.2.2.2.2 rfl
                  subst hs1
                  obtain ⟨u, rfl⟩ : ∃ u, vs = [u] := by
                    match vs, v1 with
                    | [u], _ => exact ⟨u, rfl⟩
                    | [], v1 => simp [hlen] at v1
                    | _ :: _ :: _, v1 => simp [hlen] at v1
                  have hc := v4 0 u rfl
                  simp only [Nat.add_zero] at hc
                  have hlt : j < e.cells.length := by omega
                  simp [hc, hk, List.getElem?_eq_getElem hlt]
            · rintro r' p' (hb | ⟨i', j', hb⟩)
              · cases hb; exact hok
              · cases hb
          · cases hs
    · cases hs
end
end Go.Vs
/- Stores, literals, makes, conversions, appends. -/
namespace Go.Vs
open Go

section
variable {P : Program} {ids : Nat → Nat} {S S' A : Nat → Prop} {N : Nat} {ρ : Roots} {fix : List Nat} {w w' : World} {tm : Array Value} {ds : List Deferred} {E : Env} {obs obs' : Nat → List Nat}
variable {K : Act → World → Prop} {Q : Exit → Act → World → Prop} {H : List Nat}

theorem setCells_heap (b : Nat) : ∀ (vs : List Value) (o : Nat) (w : World) (x : Nat), x ≠ b → (w.setCells b o vs).heap[x]? = w.heap[x]?
  | [], _, _, _, _ => rfl
  | v :: vs, o, w, x, h => by
    rw [World.setCells, setCells_heap b vs _ _ x h]
    exact heap_setCell_other w _ x v h

theorem setCells_size (b : Nat) : ∀ (vs : List Value) (o : Nat) (w : World), (w.setCells b o vs).heap.size = w.heap.size
  | [], _, _ => rfl
  | v :: vs, o, w => by rw [World.setCells, setCells_size b vs]; simp

theorem setCells_rest (b : Nat) : ∀ (vs : List Value) (o : Nat) (w : World), (w.setCells b o vs).os = w.os ∧ (w.setCells b o vs).tape = w.tape ∧ (w.setCells b o vs).output = w.output
  | [], _, _ => ⟨rfl, rfl, rfl⟩
  | v :: vs, o, w => by rw [World.setCells]; exact setCells_rest b vs (o + 1) (w.setCell ⟨b, o, none⟩ v)

theorem OwnBlk.setCell {b n : Nat} {a : Addr} {v : Value} (h : OwnBlk w b n) : OwnBlk (w.setCell a v) b n := by
  obtain ⟨arr, ety, fz, h1, h2, h3⟩ := h
  by_cases hb : a.block = b
  · refine ⟨if a.spot.isSome then arr else arr.setIfInBounds a.off v, ety, fz, ?_, by split <;> simp [h2], h3⟩
    simp only [World.setCell, Array.getElem?_modify, hb, if_true, h1, Option.map_some]
  · refine ⟨arr, ety, fz, ?_, h2, h3⟩
    rw [heap_setCell_other w a b v (fun e => hb e.symm)]; exact h1

theorem OwnBlk.setCells {b n : Nat} : ∀ (vs : List Value) (o : Nat) (w : World), OwnBlk w b n → OwnBlk (w.setCells b o vs) b n
  | [], _, _, h => h
  | v :: vs, o, w, h => by rw [World.setCells]; exact OwnBlk.setCells vs _ _ h.setCell

theorem OwnBlk.cell {b n o : Nat} (h : OwnBlk w b n) (ho : o < n) : (w.cell? ⟨b, o, none⟩).isSome = true ∧ w.frozen? ⟨b, o, none⟩ = false := by
  obtain ⟨arr, ety, fz, h1, h2, h3⟩ := h
  constructor
  · simp [World.cell?, h1, h2, ho]
  · obtain ⟨lo, hi⟩ := fz
    simp only [World.frozen?, h1]
    have := h3 o ho
    simp only at this
    simpa using this

theorem setCells_elem_some {n n' : Tree} {i j : Nat} {new : List Tree} (h : n.setCells i j new = some n') : ∃ e, n.elem i = some e ∧ j + new.length ≤ e.cells.length := by
  unfold Tree.setCells at h
  split at h
  · simp only [Option.bind_eq_some_iff] at h
    obtain ⟨e, he, h⟩ := h
    split at h
    · exact ⟨e, by simpa [Tree.elem] using he, ‹_›⟩
    · cases h
  · split at h
    · rename_i hh; exact ⟨_, by simp only [Tree.elem]; exact if_pos hh.1, by simpa [Tree.cells] using hh.2⟩
    · cases h
  · cases h

/-- cells written in an owned block -/
theorem run_write {b off m : Nat} {vs : List Value} (hb : OwnBlk w b m) (hl : off + vs.length ≤ m) (h1 : ∀ u, u ∈ vs → u.oneCell' = true) :
    (storeCells ⟨b, off, none⟩ vs).run P w = .ok () (w.setCells b off vs) := by
  have := run_storeCells_cells (P := P) b off vs 0 w (fun j hj => (hb.cell (by omega)).1) (fun j hj => (hb.cell (by omega)).2) h1
  simpa using this

theorem cells_written {b off m : Nat} {vs : List Value} (hb : OwnBlk w b m) (hl : off + vs.length ≤ m) :
    (∀ j u, vs[j]? = some u → (w.setCells b off vs).cell? ⟨b, off + j, none⟩ = some u) ∧
    ∀ o, (o < off ∨ off + vs.length ≤ o) → (w.setCells b off vs).cell? ⟨b, o, none⟩ = w.cell? ⟨b, o, none⟩ := by
  constructor
  · intro j u hj
    obtain ⟨hlt, hu⟩ := List.getElem?_eq_some_iff.1 hj
    rw [World.cell?_setCells_in b vs off w (fun i hi => (hb.cell (by omega)).1) j hlt, hu]
  · intro o ho
    exact World.cell?_setCells_out b vs off w _ (fun _ _ => ho)

theorem sound_store {o : Oper} {ty : TypeId} {a x : Operand} {sz : Nat} {m : Md} {a' x' : Opd} {σ : Oracle} {ws : Env} (h : Inv ids S A N ρ fix w tm E obs [])
    (hop : o.op = .store ty a x) (ho : o.dst = none) (ha : opdOk ids a a' = true) (hx : opdOk ids x x' = true) (hty : szOk P ty sz = true)
    (hs : stepI σ ρ fix E (.store sz a' x' m) = some ws)
    (hK : ∀ a' w', After ids S A N ρ fix w tm ds E [] ws a' w' → K a' w') : o.wp P ⟨tm, ds⟩ w K Q := by
  simp only [stepI, store, Option.bind_eq_some_iff] at hs
  obtain ⟨⟨t, ws0⟩, ht, hs⟩ := hs
  simp only at hs
  split at hs
  · rename_i hc
    obtain ⟨hst, hlen⟩ := hc
    simp only [Option.bind_eq_some_iff] at hs
    obtain ⟨ad, had, hs⟩ := hs
    cases ad with
    | sh cs => cases hs
    | own r p i j =>
      simp only at hs
      split at hs
      · rename_i T hT
        simp only [Option.bind_eq_some_iff, Option.some.injEq] at hs
        obtain ⟨n, hn, n', hn', T', hT', rfl⟩ := hs
        obtain ⟨e, he, hle⟩ := setCells_elem_some hn'
        obtain ⟨S', obs', ob, h1, h2, h3, h4, h5⟩ := h.take (ds := ds) (opdOk_sound hx) ht
        have h1' : Inv ids S' A N ρ fix w tm (ws0 ++ E) obs' ob := by simpa using h1
        obtain ⟨vn, b, ha1, ha2, ha3⟩ := h1'.addr (ds := ds) ha had hT hn he
        obtain ⟨vn', b', pre, q, post, mm, g1, g2, g3, g4, g5, g6, g7, g8⟩ := h1'.setAt hT hn he hle
        rw [ha1] at g1; simp only [Option.some.injEq] at g1; subst g1
        rw [ha2] at g2; simp only [Option.some.injEq] at g2; subst g2
        obtain ⟨v1, v2⟩ := rep_cells hst h2
        have hvl : ((Act.mk tm ds).eval x).cells.toList.length = t.cells.length := repL_length _ _ _ v1
        generalize hvs : ((Act.mk tm ds).eval x).cells.toList = vs at *
        have hfit : i * n.szOf + j + vs.length ≤ mm := by omega
        obtain ⟨ii, hi, hisz, hpos⟩ := szOk_sound hty
        have hrun : (execOp (Act.mk tm ds).eval o).run P w = .ok .skip (w.setCells b (i * n.szOf + j) vs) := by
          unfold execOp
          simp only [hop, Instr.storeAt, ha3, Instr.sureAddr, storeVar]
          have hcs : ((Act.mk tm ds).eval x).cells.size = ii.size := by
            have h0 : ((Act.mk tm ds).eval x).cells.toList.length = vs.length := by rw [hvs]
            rw [Array.length_toList] at h0; omega
          simp only [Sem.run_bind, Sem.run_pure, Result.andThen_ok, run_sizeOf hi, hcs, ne_eq, not_true, if_false, hvs, run_write g5 hfit v2]
        have hbobs : b ∈ obs' r := by rw [g3]; simp [g4]
        obtain ⟨c1, c2⟩ := cells_written g5 hfit
        have hob : ∀ y, y ∈ ob → y ≠ b := fun y hy e => (h1'.hap y hy).2.2.2 r (e ▸ hbobs)
        have hL : RepL ids S' (w.setCells b (i * n.szOf + j) vs) t.cells vs ob :=
          repL_mono (fun _ h => h) (fun y hy => setCells_heap b vs _ w y (fun e => (h1'.own r b hbobs).1 (e ▸ hy))) _ _ _ (fun y hy => setCells_heap b vs _ w y (hob y hy)) v1
        obtain ⟨n2, T2, obs2, k1, k2, k3⟩ := g8 S' (w.setCells b (i * n.szOf + j) vs) t.cells ob [] rfl (fun _ h => h) (fun y hy => by rw [setCells_size]; exact h1'.st y hy)
          (by rw [setCells_size]; exact Nat.le_refl _) (fun y _ hy => setCells_heap b vs _ w y hy) (by rw [← hvl]; exact c2) (g5.setCells vs _ w)
          (repCs_row _ _ _ _ _ hL v2 c1) h1'.hnd
          (fun y hy => ⟨(h1'.hap y hy).1, (h1'.hap y hy).2.1, fun hp => (h1'.hap y hy).2.2.2 r (by rw [g3]; simp [hp]), fun hp => (h1'.hap y hy).2.2.2 r (by rw [g3]; simp [hp]), fun s _ => (h1'.hap y hy).2.2.2 s⟩)
          (fun y hy => (h1'.own r y (by rw [g3]; rcases hy with hy | hy <;> simp [hy])).1) (fun s _ y hy => (h1'.own s y hy).1) (by simp) (by simp)
        rw [k1] at hn'; simp only [Option.some.injEq] at hn'; subst hn'
        rw [k2] at hT'; simp only [Option.some.injEq] at hT'; subst hT'
        unfold Oper.wp
        rw [hrun]
        refine hK _ _ ?_
        rw [ho]
        refine ⟨tm, S', obs2, rfl, by rw [List.append_assoc]; exact k3, ⟨?_, ?_, ?_, ?_, ?_⟩, h3, h4, fun _ _ => rfl⟩
        · exact (setCells_rest b vs _ w).1
        · exact (setCells_rest b vs _ w).2.1
        · exact (setCells_rest b vs _ w).2.2
        · rw [setCells_size]; exact Nat.le_refl _
        · intro y _ hy
          exact setCells_heap b vs _ w y (fun e => hy (e ▸ (h1'.own r b hbobs).2.1))
      · cases hs
  · cases hs

end
end Go.Vs
/- Addresses, comparisons, tuples, slices of slices. -/
namespace Go.Vs
open Go

section
variable {P : Program} {ids : Nat → Nat} {S S' A : Nat → Prop} {N : Nat} {ρ : Roots} {fix : List Nat} {w w' : World} {tm : Array Value} {ds : List Deferred} {E : Env} {obs obs' : Nat → List Nat}
variable {K : Act → World → Prop} {Q : Exit → Act → World → Prop} {H : List Nat}

theorem sound_fadr {o : Oper} {ty : TypeId} {x : Operand} {f d off sz : Nat} {x' : Opd} {fs : Array Field} {g : Field} {σ : Oracle} {ws : Env} (h : Inv ids S A N ρ fix w tm E obs []) (hd : d < N) (hf : d ∉ fix)
    (hop : o.op = .fieldAddr ty x f) (ho : o.dst = some d) (hx : opdOk ids x x' = true) (hty : P.underlying ty = some (.struct fs)) (hg : fs[f]? = some g) (hoff : g.offset = off) (hsz : szOk P g.type sz = true)
    (hs : stepI σ ρ fix E (.fadr d off sz x') = some ws)
    (hK : ∀ a' w', After ids S A N ρ fix w tm ds E [d] ws a' w' → K a' w') : o.wp P ⟨tm, ds⟩ w K Q := by
  simp only [stepI, Option.bind_eq_some_iff] at hs
  obtain ⟨ad, had, hs⟩ := hs
  obtain ⟨ii, hi, hisz, hpos⟩ := szOk_sound hsz
  have hrun : ∀ b o0, (Act.mk tm ds).eval x = .pointer (some ⟨b, o0, none⟩) → (execOp (Act.mk tm ds).eval o).run P w = .ok (.value (.pointer (some ⟨b, o0 + off, none⟩))) w := by
    intro b o0 hv
    have hne : ¬ ii.size = 0 := by omega
    unfold execOp
    simp only [hop, hv, Instr.fieldAt, Instr.sureAddr, Sem.run_bind, run_underlying hty, Result.andThen_ok, hg, Sem.run_pure, fieldPlace, run_sizeOf hi, hne, if_false, hoff, Addr.add_lit]
  cases ad with
  | sh cs =>
    simp only [Option.bind_eq_some_iff, Option.some.injEq] at hs
    obtain ⟨cs', hcs, rfl⟩ := hs
    obtain ⟨b, o0, hv, hSb, hrep⟩ := h.addrSh (ds := ds) hx had
    obtain ⟨hle, rfl, hlen⟩ := loadCells_some hcs
    rw [repCs_range (j := off) (n := sz) hle] at hrep
    obtain ⟨o1, o2, o3, _, c2, _, heq⟩ := hrep
    have ho2 : o2 = [] := by
      have := congrArg List.length heq; simp at this; exact List.eq_nil_of_length_eq_zero (by omega)
    subst ho2
    exact after_tree h ho hd hf (hrun b o0 hv) (by simp only [Rep]; exact ⟨trivial, b, o0 + off, rfl, hSb, c2⟩) hK
  | own r p i j =>
    simp only at hs
    split at hs
    · rename_i e he
      split at hs
      · rename_i hok
        simp only [Option.some.injEq] at hs; subst hs
        obtain ⟨n, hn, he⟩ := Option.bind_eq_some_iff.1 he
        obtain ⟨T, hT, hn⟩ := treeAt_some hn
        obtain ⟨vn, b, ha1, ha2, ha3⟩ := h.addr (ds := ds) hx had hT hn he
        refine after_put (a := .adr r p i (j + off)) (ob := []) (by simpa using h) ho hd hf (hrun b _ ha3) ?_ ?_ (by intro f caps h; cases h) hK
        · simp only [SlotOk, get_wr, if_true, getD_set_self (by rw [h.size]; exact hd)]
          refine ⟨trivial, fun T2 n2 e2 hT2 hp2 he2 => ?_⟩
          by_cases hrd : r = d
          · simp only [hrd, if_true] at hT2; cases hT2
          · simp only [hrd, if_false] at hT2
            split at hT2
            · cases hT2
            · rw [hT] at hT2; cases hT2
              rw [hn] at hp2; cases hp2
              exact ⟨vn, b, by rw [getD_set_ne hrd]; exact ha1, ha2, by rw [Nat.add_assoc]⟩
        · rintro r' p' (hb | ⟨i', j', hb⟩)
          · cases hb
          · cases hb; exact hok
      · cases hs
    · cases hs

theorem run_indexAt {t e : TypeId} {ii : TypeInfo} {b off n cap k : Nat} {kk : IntKind} (ht : P.underlying t = some (.slice e)) (hi : P.info? e = some ii) (hk : k < n) :
    (Instr.indexAt t (.slice (some ⟨b, off, none⟩) n cap) (.int kk k)).run P w = .ok (.pointer (some ⟨b, off + k * ii.size, none⟩)) w := by
  have h1 : (0 : Int) ≤ (k : Int) ∧ (k : Int) < (n : Int) := by omega
  simp [Instr.indexAt, asIntOf, run_underlying ht, run_sizeOf hi, hk, Addr.add_lit]

theorem sound_iadr {o : Oper} {ty e : TypeId} {x i : Operand} {d sz : Nat} {x' i' : Opd} {σ : Oracle} {ws : Env} (h : Inv ids S A N ρ fix w tm E obs []) (hd : d < N) (hf : d ∉ fix)
    (hop : o.op = .indexAddr ty x i) (ho : o.dst = some d) (hx : opdOk ids x x' = true) (hi : opdOk ids i i' = true) (hty : P.underlying ty = some (.slice e)) (hsz : szOk P e sz = true)
    (hs : stepI σ ρ fix E (.iadr d sz x' i') = some ws)
    (hK : ∀ a' w', After ids S A N ρ fix w tm ds E [d] ws a' w' → K a' w') : o.wp P ⟨tm, ds⟩ w K Q := by
  simp only [stepI, Option.bind_eq_some_iff] at hs
  obtain ⟨ti, hti, k, hk, tx, htx, hs⟩ := hs
  obtain ⟨kk, rfl⟩ := asNat_sound hk
  have e1 := h.peekInt (ds := ds) hi hti
  obtain ⟨ii, hii, hisz, hpos⟩ := szOk_sound hsz
  obtain ⟨ob, hrep, _⟩ := h.peek (ds := ds) (opdOk_sound hx) htx
  have hrun : ∀ b off n cap, (Act.mk tm ds).eval x = .slice (some ⟨b, off, none⟩) n cap → k < n → (execOp (Act.mk tm ds).eval o).run P w = .ok (.value (.pointer (some ⟨b, off + k * sz, none⟩))) w := by
    intro b off n cap hv hkn
    unfold execOp
    simp only [hop, hv, e1, Sem.run_bind, run_indexAt (P := P) (w := w) hty hii hkn, Result.andThen_ok, hisz]
    rfl
  split at hs
  · rename_i sz' es
    split at hs
    · rename_i hc
      obtain ⟨rfl, hlt⟩ := hc
      simp only [Option.bind_eq_some_iff] at hs
      obtain ⟨⟨r, p⟩, hpl, hs⟩ := hs
      simp only at hs
      split at hs
      · rename_i hok
        simp only [Option.some.injEq] at hs; subst hs
        simp only [Rep] at hrep
        rcases hrep with ⟨rfl, _⟩ | ⟨b, cap, ob', hv, rfl, _⟩
        · simp at hlt
        refine after_put (a := .adr r p k 0) (ob := []) (by simpa using h) ho hd hf (hrun b 0 _ cap hv hlt) ?_ ?_ (by intro f caps h; cases h) hK
        · simp only [SlotOk, get_wr, if_true, getD_set_self (by rw [h.size]; exact hd)]
          refine ⟨trivial, fun T2 n2 e2 hT2 hp2 he2 => ?_⟩
          by_cases hrd : r = d
          · simp only [hrd, if_true] at hT2; cases hT2
          · simp only [hrd, if_false] at hT2
            split at hT2
            · cases hT2
            · have hva := h.place (ds := ds) (opdOk_sound hx) hpl hT2 hp2
              rw [hv] at hva
              have hn2 : n2 = .sl true sz es := by
                have htr : treeAt E r p = some n2 := by simp [treeAt, hT2, hp2]
                cases x' with
                | c t => simp [Vs.place] at hpl
                | v s =>
                  simp only [Vs.place] at hpl
                  simp only [Vs.peek] at htx
                  split at hpl
                  · rename_i t ht
                    simp only [Option.some.injEq, Prod.mk.injEq] at hpl
                    obtain ⟨rfl, rfl⟩ := hpl
                    rw [ht] at htx hT2
                    simp only [Option.some.injEq] at htx
                    cases hT2
                    simp only [Tree.tAt, Option.some.injEq] at hp2
                    rw [← hp2, htx]
                  · rename_i r' p' ht
                    simp only [Option.some.injEq, Prod.mk.injEq] at hpl
                    obtain ⟨rfl, rfl⟩ := hpl
                    rw [ht] at htx
                    simp only at htx
                    rw [htr] at htx
                    simpa using htx
                  · cases hpl
              subst hn2
              exact ⟨_, b, by rw [getD_set_ne hrd]; exact hva, rfl, by simp [Tree.szOf]⟩
        · rintro r' p' (hb | ⟨i', j', hb⟩)
          · cases hb
          · cases hb; exact hok
      · cases hs
    · cases hs
  · rename_i sz' es
    split at hs
    · rename_i hc
      subst hc
      simp only [Option.bind_eq_some_iff, Option.some.injEq] at hs
      obtain ⟨el, hel, rfl⟩ := hs
      have hlt := (List.getElem?_eq_some_iff.1 hel).1
      simp only [Rep] at hrep
      obtain ⟨rfl, _, a, cap, hv, _, h2⟩ := hrep
      rcases h2 with rfl | ⟨b, off, rfl, hSb, hes⟩
      · simp at hel
      · rw [repEs_at hel] at hes
        obtain ⟨o1, o2, o3, _, g2, g3, _, heq⟩ := hes
        have ho2 : o2 = [] := by
          have := congrArg List.length heq; simp at this; exact List.eq_nil_of_length_eq_zero (by omega)
        subst ho2
        exact after_tree h ho hd hf (hrun b off _ cap hv hlt) (by simp only [Rep]; exact ⟨trivial, b, off + k * sz, rfl, hSb, g3⟩) hK
    · cases hs
  · cases hs

theorem SlotOk.congrE {E E' : Env} (he : ∀ s, get E s = get E' s) {s : Nat} {ob : List Nat} (h : SlotOk ids S w tm E s ob) : SlotOk ids S w tm E' s ob := by
  simp only [SlotOk, he] at h ⊢
  exact h

theorem Inv.congrE {E E' : Env} (h : Inv ids S A N ρ fix w tm E obs H) (he : ∀ s, get E s = get E' s) : Inv ids S A N ρ fix w tm E' obs H :=
  { h with
    slot := fun s => (h.slot s).congrE he
    ref := fun s r p hr => h.ref s r p (by simpa only [RefAt, he] using hr)
    clo := fun s f caps hc => h.clo s f caps (by rw [he]; exact hc) }

theorem sound_ext {o : Oper} {x : Operand} {d i : Nat} {x' : Opd} {σ : Oracle} {ws : Env} (h : Inv ids S A N ρ fix w tm E obs []) (hd : d < N) (hf : d ∉ fix)
    (hop : o.op = .extract x i) (ho : o.dst = some d) (hx : opdOk ids x x' = true)
    (hs : stepI σ ρ fix E (.ext d x' i) = some ws)
    (hK : ∀ a' w', After ids S A N ρ fix w tm ds E [d] ws a' w' → K a' w') : o.wp P ⟨tm, ds⟩ w K Q := by
  simp only [stepI] at hs
  cases x' with
  | c t => cases hs
  | v s =>
    have := opd_v hx; subst this
    have h0 := h.slot s
    simp only at hs
    split at hs
    · rename_i ts hts
      simp only [SlotOk, hts, Rep] at h0
      obtain ⟨vs, hv, hL⟩ := h0
      simp only [Option.bind_eq_some_iff] at hs
      obtain ⟨t, ht, hs⟩ := hs
      obtain ⟨v, o1, o2, o3, g1, g2, g3, g4⟩ := repL_get _ _ _ i t hL ht
      have hrun : (execOp (Act.mk tm ds).eval o).run P w = .ok (.value v) w := by
        unfold execOp
        simp only [hop, eval_tmp, hv, Instr.extract]
        have : vs[i]? = some v := by simpa using g1
        simp [this]
      split at hs
      · simp only [Option.some.injEq] at hs; subst hs
        rw [rep_plain _ _ _ ‹_› g2] at g2
        exact after_tree h ho hd hf hrun g2 hK
      · simp only [Option.some.injEq] at hs; subst hs
        have h1 := h.unset (d := s)
        rw [g3] at h1
        have hsub : Inv ids S A N ρ fix w tm (wr ρ s .undef ++ E) (fun s' => if s' = s then [] else if killed ρ s' s then [] else obs s') ((o1 ++ o3) ++ o2) := by
          refine { h1 with hnd := ?_, hap := fun b hb => h1.hap b ?_ }
          · have hn := h1.hnd
            simp only [List.append_nil] at hn
            have : (o1 ++ o3 ++ o2).Perm (o1 ++ o2 ++ o3) := by
              rw [List.append_assoc, List.append_assoc]
              exact List.Perm.append_left o1 List.perm_append_comm
            exact (this.nodup_iff).2 hn
          · simp only [List.append_nil, List.mem_append] at hb ⊢
            rcases hb with (hb | hb) | hb <;> simp [hb]
        have h2 := Inv.putG (d := s) (a := .tree (.tup (ts.set i .dead))) (tm' := tm) (ob := o1 ++ o3) hsub h.size (fun _ _ => rfl) (fun _ _ => rfl)
          (by
            simp only [SlotOk, get_wr, if_true, Rep, hv]
            exact ⟨vs, rfl, by have := g4 .dead [] (by simp [Rep]); simpa using this⟩)
          (by rintro r p (h | ⟨i, j, h⟩) <;> cases h) (by intro f caps h; cases h)
        have h3 : Inv ids S A N ρ fix w tm (wr ρ s (.tree (.tup (ts.set i .dead))) ++ E) _ (o2 ++ []) :=
          (by simpa using h2 : Inv ids S A N ρ fix w tm (wr ρ s (.tree (.tup (ts.set i .dead))) ++ (wr ρ s .undef ++ E)) _ (o2 ++ [])).congrE fun s' => by
            simp only [get_wr]
            by_cases h1 : s' = s
            · simp [h1]
            · by_cases h2 : killed ρ s' s = true <;> simp [h1, h2]
        exact after_fin (H := []) h3 ho hd hf hrun g2 (Evo.refl A w) (fun _ h => h) (fun _ h => .inl h) hK
    · cases hs

theorem sound_extp {o : Oper} {x : Operand} {d i : Nat} {x' : Opd} {σ : Oracle} {ws : Env} (h : Inv ids S A N ρ fix w tm E obs []) (hd : d < N) (hf : d ∉ fix)
    (hop : o.op = .extract x i) (ho : o.dst = some d) (hx : opdOk ids x x' = true)
    (hs : stepI σ ρ fix E (.extp d x' i) = some ws)
    (hK : ∀ a' w', After ids S A N ρ fix w tm ds E [d] ws a' w' → K a' w') : o.wp P ⟨tm, ds⟩ w K Q := by
  refine sound_ext (σ := σ) h hd hf hop ho hx ?_ hK
  simp only [stepI] at hs ⊢
  split at hs
  · split at hs
    · rename_i ts hts
      simp only [Option.bind_eq_some_iff] at hs ⊢
      obtain ⟨t, ht, hs⟩ := hs
      refine ⟨t, ht, ?_⟩
      split at hs
      · rename_i hp; rw [if_pos hp]; exact hs
      · cases hs
    · cases hs
  · cases hs

end
end Go.Vs
/- Fields, comparisons, largest and least, slices of strings and slices. -/
namespace Go.Vs
open Go

section
variable {P : Program} {ids : Nat → Nat} {S S' A : Nat → Prop} {N : Nat} {ρ : Roots} {fix : List Nat} {w w' : World} {tm : Array Value} {ds : List Deferred} {E : Env} {obs obs' : Nat → List Nat}
variable {K : Act → World → Prop} {Q : Exit → Act → World → Prop} {H : List Nat}

theorem repL_range {cs : List Tree} {vs : List Value} {ob : List Nat} {j n : Nat} (hj : j + n ≤ cs.length) (h : RepL ids S w cs vs ob) :
    ∃ o1 o2 o3, RepL ids S w ((cs.drop j).take n) ((vs.drop j).take n) o2 ∧ ob = o1 ++ o2 ++ o3 := by
  have e1 : cs = cs.take j ++ ((cs.drop j).take n ++ cs.drop (j + n)) := by
    rw [← List.drop_drop, List.take_append_drop, List.take_append_drop]
  rw [e1, repL_append] at h
  obtain ⟨v1, v2, o1, o4, rfl, h1, h2, rfl⟩ := h
  rw [repL_append] at h2
  obtain ⟨v3, v4, o2, o3, rfl, h2, h3, rfl⟩ := h2
  have l1 := repL_length _ _ _ h1
  have l2 := repL_length _ _ _ h2
  have hl1 : v1.length = j := by rw [l1]; simp; omega
  have hl2 : v3.length = n := by rw [l2]; simp; omega
  refine ⟨o1, o2, o3, ?_, by simp⟩
  have : ((v1 ++ (v3 ++ v4)).drop j).take n = v3 := by
    rw [← hl1, List.drop_left, ← hl2, List.take_left]
  rw [this]; exact h2

theorem repL_nil_ob {cs : List Tree} {vs : List Value} (h : RepL ids S w cs vs []) {j n : Nat} (hj : j + n ≤ cs.length) : RepL ids S w ((cs.drop j).take n) ((vs.drop j).take n) [] := by
  obtain ⟨o1, o2, o3, h1, h2⟩ := repL_range hj h
  have : o2 = [] := by
    have := congrArg List.length h2; simp at this; exact List.eq_nil_of_length_eq_zero (by omega)
  subst this; exact h1

theorem sound_fld {o : Oper} {ty : TypeId} {x : Operand} {f d off sz : Nat} {agg : Bool} {x' : Opd} {fs : Array Field} {g : Field} {σ : Oracle} {ws : Env} (h : Inv ids S A N ρ fix w tm E obs []) (hd : d < N) (hf : d ∉ fix)
    (hop : o.op = .field ty x f) (ho : o.dst = some d) (hx : opdOk ids x x' = true) (hty : P.underlying ty = some (.struct fs)) (hg : fs[f]? = some g) (hoff : g.offset = off) (hag : aggOk P g.type agg sz = true)
    (hs : stepI σ ρ fix E (.fld d agg off sz x') = some ws)
    (hK : ∀ a' w', After ids S A N ρ fix w tm ds E [d] ws a' w' → K a' w') : o.wp P ⟨tm, ds⟩ w K Q := by
  simp only [stepI, Option.bind_eq_some_iff] at hs
  obtain ⟨tx, htx, hs⟩ := hs
  split at hs
  · rename_i cs
    simp only [Option.bind_eq_some_iff] at hs
    obtain ⟨cs', hcs, t, ht, hs⟩ := hs
    split at hs
    · rename_i hpl
      simp only [Option.some.injEq] at hs; subst hs
      obtain ⟨ob, hrep, _⟩ := h.peek (ds := ds) (opdOk_sound hx) htx
      simp only [Rep] at hrep
      obtain ⟨vs, hv, h1, hL⟩ := hrep
      obtain ⟨hle, rfl, hlen⟩ := loadCells_some hcs
      obtain ⟨o1, o2, o3, g1, g2⟩ := repL_range hle hL
      have hvl := repL_length _ _ _ hL
      obtain ⟨ii, hii, hisz, hpos, hagg, hone⟩ := aggOk_sound hag
      have hmem : ∀ u, u ∈ (vs.toList.drop off).take sz → u.oneCell' = true := fun u hu => h1 u (List.mem_of_mem_drop (List.mem_of_mem_take hu))
      have hrl := rep_loaded (agg := agg) g1 hmem ht
      have hq := rep_plain _ _ _ hpl hrl
      subst hq
      refine after_tree h ho hd hf ?_ hrl hK
      unfold execOp
      simp only [hop, hv, Instr.field, Sem.run_bind, run_underlying hty, Result.andThen_ok, hg, asAgg, Sem.run_pure, part, hagg, hoff]
      cases agg with
      | true =>
        simp only [if_true]
        simp only [Sem.run_bind, run_sizeOf hii, Result.andThen_ok, Sem.run_pure, hisz]
        congr 4
        apply Array.ext'
        rw [Array.toList_extract]
        simp [List.extract, Nat.add_sub_cancel_left]
      | false =>
        have hs1 := hone rfl
        subst hs1
        have hlt : off < vs.size := by have : vs.toList.length = vs.size := by simp
                                       omega
        have : vs[off]? = some vs[off] := Array.getElem?_eq_getElem hlt
        simp only [Bool.false_eq_true, if_false, this, Sem.run_pure, Result.andThen_ok]
        congr 2
        rw [List.drop_eq_getElem_cons (by simpa using hlt)]
        simp
    · cases hs
  · cases hs

theorem eqCell_sound {t : TypeId} {k : EqK} {x y : Tree} {u v : Value} {q : Bool} {o1 o2 : List Nat} (d : Nat) (ht : eqTy P t k = true) (hx : Rep ids S w x u o1) (hy : Rep ids S w y v o2)
    (hq : eqCell k x y = some q) : (∀ w, (Op.equalIn (d + 1) t u v).run P w = .ok q w) ∧ ∀ w, (isAgg t).run P w = .ok false w := by
  unfold eqTy at ht
  split at ht
  · rename_i hu
    unfold eqCell at hq
    split at hq <;> simp_all
    simp only [Rep] at hx hy
    rw [hx.1, hy.1, ← hq]
    exact ⟨fun w => run_equalIn_bool w d t _ _ hu, fun w => by simp [isAgg, run_underlying hu]⟩
  · rename_i k' hu
    unfold eqCell at hq
    split at hq <;> simp_all
    obtain ⟨hk, hq⟩ := hq
    simp only [Rep] at hx hy
    rw [hx.1, hy.1, ← hq]
    exact ⟨fun w => run_equalIn_int w d t _ _ _ _ hu, fun w => by simp [isAgg, run_underlying hu]⟩
  · rename_i hu
    unfold eqCell at hq
    split at hq <;> simp_all
    simp only [Rep] at hx hy
    rw [hx.1, hy.1, ← hq]
    exact ⟨fun w => by rw [run_equalIn_string w d t _ _ hu]; simp, fun w => by simp [isAgg, run_underlying hu]⟩
  · cases ht

theorem run_eqFields (d : Nat) (vx vy : Array Value) : ∀ (off : Nat) (fs : List Field) (ks : List EqK) (xs ys : List Tree) (us vs : List Value) (q : Bool) (o1 o2 : List Nat), eqFieldsOk P off fs ks = true →
    RepL ids S w xs us o1 → RepL ids S w ys vs o2 → (∀ j, us[j]? = vx[off + j]?) → (∀ j, vs[j]? = vy[off + j]?) → eqCells ks xs ys = some q →
    (Op.eqFields (d + 1) vx vy fs).run P w = .ok q w
  | off, [], [], xs, ys, us, vs, q, o1, o2, _, _, _, _, _, hq => by
    unfold eqCells at hq
    split at hq
    · simp only [Option.some.injEq] at hq; subst hq; simp [Op.eqFields]
    · simp at *
    · cases hq
  | off, f :: fs, k :: ks, [], _, us, vs, q, o1, o2, _, _, _, _, _, hq => by simp [eqCells] at hq
  | off, f :: fs, k :: ks, _ :: _, [], us, vs, q, o1, o2, _, _, _, _, _, hq => by simp [eqCells] at hq
  | off, f :: fs, k :: ks, x :: xs, y :: ys, us, vs, q, o1, o2, hok, hx, hy, hu, hv, hq => by
    simp only [eqFieldsOk, Bool.and_eq_true, beq_iff_eq, bne_iff_ne, ne_eq] at hok
    obtain ⟨⟨⟨hoff, hnm⟩, hty⟩, hrest⟩ := hok
    simp only [eqCells, Option.bind_eq_some_iff, Option.some.injEq] at hq
    obtain ⟨b, hb, b', hb', rfl⟩ := hq
    simp only [RepL] at hx hy
    obtain ⟨u, us', ob1, ob2, rfl, r1, r2, rfl⟩ := hx
    obtain ⟨v, vs', ob3, ob4, rfl, r3, r4, rfl⟩ := hy
    obtain ⟨e1, e2⟩ := eqCell_sound d hty r1 r3 hb
    have h1 := hu 0
    have h2 := hv 0
    simp only [List.getElem?_cons_zero, Nat.add_zero] at h1 h2
    have ih := run_eqFields d vx vy (off + 1) fs ks xs ys us' vs' b' ob2 ob4 hrest r2 r4 (fun j => by have := hu (j + 1); simpa [Nat.add_assoc, Nat.add_comm 1 j] using this)
      (fun j => by have := hv (j + 1); simpa [Nat.add_assoc, Nat.add_comm 1 j] using this) hb'
    simp only [Op.eqFields, ne_eq, hnm, not_false_eq_true, if_true]
    simp only [part, Sem.run_bind, e2, Result.andThen_ok, hoff, ← h1, ← h2, Bool.false_eq_true, if_false, Sem.run_pure, e1]
    cases b <;> simp [ih]
  | _, [], _ :: _, _, _, _, _, _, _, _, hok, _, _, _, _, _ => by simp [eqFieldsOk] at hok
  | _, _ :: _, [], _, _, _, _, _, _, _, hok, _, _, _, _, _ => by simp [eqFieldsOk] at hok

theorem isBool_sound {t : TypeId} (h : isBool P t = true) : P.underlying t = some .bool := by
  unfold isBool at h; split at h <;> simp_all

theorem sound_eqb {o : Oper} {op : BinOp} {t u : TypeId} {x y : Operand} {d : Nat} {neg : Bool} {x' y' : Opd} {σ : Oracle} {ws : Env} (h : Inv ids S A N ρ fix w tm E obs []) (hd : d < N) (hf : d ∉ fix)
    (hop : o.op = .binOp op t x y u) (ho : o.dst = some d) (hx : opdOk ids x x' = true) (hy : opdOk ids y y' = true) (hneg : op = if neg then .neq else .eql) (ht : isBool P t = true)
    (hs : stepI σ ρ fix E (.eqb d neg x' y') = some ws)
    (hK : ∀ a' w', After ids S A N ρ fix w tm ds E [d] ws a' w' → K a' w') : o.wp P ⟨tm, ds⟩ w K Q := by
  simp only [stepI, Option.bind_eq_some_iff, Option.some.injEq] at hs
  obtain ⟨a, ha, b, hb, q, hq, rfl⟩ := hs
  obtain ⟨p, q0, rfl, rfl, rfl⟩ : ∃ p q0, a = .bool p ∧ b = .bool q0 ∧ (p == q0) = q := by
    unfold eqCell at hq
    split at hq <;> simp_all
  have e1 := h.peekBool (ds := ds) hx ha
  have e2 := h.peekBool (ds := ds) hy hb
  refine after_tree h ho hd hf (v := .bool (if neg then !(p == q0) else p == q0)) ?_ (by simp [Rep]) hK
  unfold execOp
  cases neg
  · simp only [Bool.false_eq_true, if_false] at hneg ⊢; subst hneg
    simp only [hop, e1, e2, eqGuard_at_bool, pure_bind, Sem.run_bind, run_eql_bool w t p q0 (isBool_sound ht)]; rfl
  · simp only [if_true] at hneg ⊢; subst hneg
    simp only [hop, e1, e2, eqGuard_at_bool, pure_bind, Sem.run_bind, run_neq_bool w t p q0 (isBool_sound ht)]; rfl

theorem sound_eqv {o : Oper} {op : BinOp} {t u : TypeId} {x y : Operand} {d : Nat} {neg : Bool} {ks : List EqK} {x' y' : Opd} {σ : Oracle} {ws : Env} (h : Inv ids S A N ρ fix w tm E obs []) (hd : d < N) (hf : d ∉ fix)
    (hop : o.op = .binOp op t x y u) (ho : o.dst = some d) (hx : opdOk ids x x' = true) (hy : opdOk ids y y' = true) (hneg : op = if neg then .neq else .eql) (ht : eqOk P t ks = true)
    (hs : stepI σ ρ fix E (.eqv d neg ks x' y') = some ws)
    (hK : ∀ a' w', After ids S A N ρ fix w tm ds E [d] ws a' w' → K a' w') : o.wp P ⟨tm, ds⟩ w K Q := by
  simp only [stepI, Option.bind_eq_some_iff] at hs
  obtain ⟨a, ha, hs⟩ := hs
  split at hs
  · rename_i xs
    simp only [Option.bind_eq_some_iff] at hs
    obtain ⟨b, hb, hs⟩ := hs
    split at hs
    · rename_i ys
      simp only [Option.bind_eq_some_iff, Option.some.injEq] at hs
      obtain ⟨q, hq, rfl⟩ := hs
      obtain ⟨ob1, hr1, _⟩ := h.peek (ds := ds) (opdOk_sound hx) ha
      obtain ⟨ob2, hr2, _⟩ := h.peek (ds := ds) (opdOk_sound hy) hb
      simp only [Rep] at hr1 hr2
      obtain ⟨us, hv1, _, hL1⟩ := hr1
      obtain ⟨vs, hv2, _, hL2⟩ := hr2
      unfold eqOk at ht
      split at ht
      · rename_i fs hfs
        simp only [Bool.and_eq_true, Bool.not_eq_true'] at ht
        obtain ⟨⟨hst, heg⟩, hfo⟩ := ht
        have hfe : P.fieldsOf t = fs := by simp [Program.fieldsOf, hfs]
        have hrun : (Op.equalIn 10000 t (.agg us) (.agg vs)).run P w = .ok q w := by
          rw [run_equalIn_agg w 9999 t us vs (by rw [hfe]; exact hfs) hst, hfe]
          exact run_eqFields 9998 us vs 0 fs.toList ks xs ys _ _ q ob1 ob2 hfo hL1 hL2 (by simp) (by simp) hq
        refine after_tree h ho hd hf (v := .bool (if neg then !q else q)) ?_ (by simp [Rep]) hK
        unfold execOp
        cases neg
        · simp only [Bool.false_eq_true, if_false] at hneg ⊢; subst hneg
          simp only [hop, hv1, hv2, Sem.run_bind, run_eqGuard_agg w _ t x y us vs heg, Result.andThen_ok, run_eql_struct, hrun]; rfl
        · simp only [if_true] at hneg ⊢; subst hneg
          simp only [hop, hv1, hv2, Sem.run_bind, run_eqGuard_agg w _ t x y us vs heg, Result.andThen_ok, run_neq_struct, hrun]; rfl
      · cases ht
    · cases hs
  · cases hs
end
end Go.Vs
/- Makes, conversions between strings and bytes, slices. -/
namespace Go.Vs
open Go

section
variable {P : Program} {ids : Nat → Nat} {S S' A : Nat → Prop} {N : Nat} {ρ : Roots} {fix : List Nat} {w w' : World} {tm : Array Value} {ds : List Deferred} {E : Env} {obs obs' : Nat → List Nat}
variable {K : Act → World → Prop} {Q : Exit → Act → World → Prop} {H : List Nat}

structure ElemIs (P : Program) (t : TypeId) (sz : Nat) (e : TypeId) (i : TypeInfo) (v : Value) : Prop where
  ty : P.underlying t = some (.slice e)
  info : P.info? e = some i
  size : i.size = sz
  pos : 0 < sz
  bytes : i.bytes ≤ 1024
  zero : i.zero = some v

theorem elemIs_sound {t : TypeId} {sz : Nat} {z : Option Tree} (h : elemIs P t sz z = true) :
    ∃ e i v, ElemIs P t sz e i v ∧ (match z with | some z => zeroOk v z = true ∧ z.cells.length = sz | none => v.cells.size = sz) := by
  unfold elemIs at h
  split at h
  · rename_i e he
    simp only [Bool.and_eq_true] at h
    obtain ⟨⟨⟨h1, h2⟩, h3⟩, _⟩ := h
    obtain ⟨i, hi, hs, hp⟩ := szOk_sound h1
    simp only [hi] at h2 h3
    have hb : i.bytes ≤ 1024 := by simpa using h2
    cases z with
    | some z =>
      simp only [Bool.and_eq_true, beq_iff_eq] at h3
      obtain ⟨i', v, hi', hv, hz⟩ := zeroIs_sound h3.1
      rw [hi] at hi'; cases hi'
      exact ⟨e, i, v, ⟨he, hi, hs, hp, hb, hv⟩, hz, h3.2⟩
    | none =>
      simp only at h3
      split at h3
      · rename_i v hv
        exact ⟨e, i, v, ⟨he, hi, hs, hp, hb, hv⟩, by simpa using h3⟩
      · cases h3
  · cases h

theorem repCs_const {ts : List Tree} {vs : List Value} (_h : RepL ids S w ts vs []) (h1 : ∀ u, u ∈ vs → u.oneCell' = true) {b off : Nat} (hc : ∀ j u, vs[j]? = some u → w'.cell? ⟨b, off + j, none⟩ = some u)
    (hrep : ∀ S w', RepL ids S w' ts vs []) : RepCs ids S w' ts b off [] :=
  repCs_row _ _ _ _ _ (hrep S w') h1 hc

/-- a row of zero values -/
theorem repEs_zeros {v : Value} {z : Tree} {sz b : Nat} (hz : zeroOk v z = true) (hl : z.cells.length = sz) : ∀ (k off : Nat), (∀ i j, i < k → ∀ u, v.cells[j]? = some u → w.cell? ⟨b, off + i * sz + j, none⟩ = some u) →
    RepEs ids S w (List.replicate k z) sz b off []
  | 0, off, _ => by simp [RepEs]
  | k + 1, off, hc => by
    simp only [List.replicate_succ, RepEs, repE_iff]
    refine ⟨[], [], ⟨hl, ?_⟩, repEs_zeros hz hl k (off + sz) (fun i j hi u hu => ?_), rfl⟩
    · obtain ⟨r1, r2⟩ := rep_cells (ids := ids) (S := S) (w := w) (zero_storable hz) (rep_zero hz).1
      refine repCs_row _ _ _ _ _ r1 r2 fun j u hj => ?_
      have := hc 0 j (by omega) u (by simpa using hj)
      simpa using this
    · have := hc (i + 1) j (by omega) u hu
      rwa [show off + (i + 1) * sz + j = off + sz + i * sz + j by rw [Nat.succ_mul]; omega] at this

theorem madeCells_get {z : Array Value} {n i j sz : Nat} {u : Value} (hz : z.size = sz) (hi : i * sz + j < n) (hj : z[j]? = some u) : (madeCells z n)[i * sz + j]? = some u := by
  have hlt := (Array.getElem?_eq_some_iff.1 hj).1
  unfold madeCells
  simp only [Array.getElem?_map, Array.getElem?_range, hi, if_true, Option.map_some]
  have : (i * sz + j) % z.size = j := by
    rw [hz, Nat.mul_comm, Nat.mul_add_mod]; exact Nat.mod_eq_of_lt (by omega)
  rw [this]
  simp only [Option.some.injEq]
  obtain ⟨_, hj⟩ := Array.getElem?_eq_some_iff.1 hj
  rw [← hj]
  simp [hlt]

theorem wf_alloc {_b n : Nat} {cs : Array Value} {ty : TypeId} (hn : cs.size = n) : OwnBlk (w.alloc (.cells cs ty)) w.heap.size n :=
  ⟨cs, ty, (0, 0), heap_push_new w _, hn, by simp⟩

theorem sound_make {o : Oper} {t : TypeId} {l c : Operand} {d sz : Nat} {z : Tree} {n : Opd} {σ : Oracle} {ws : Env} (h : Inv ids S A N ρ fix w tm E obs []) (hd : d < N) (hf : d ∉ fix)
    (hop : o.op = .makeSlice t l c) (ho : o.dst = some d) (hl : opdOk ids l n = true) (hc : opdOk ids c n = true) (hel : elemIs P t sz (some z) = true)
    (hs : stepI σ ρ fix E (.make d sz z n) = some ws)
    (hK : ∀ a' w', After ids S A N ρ fix w tm ds E [d] ws a' w' → K a' w') : o.wp P ⟨tm, ds⟩ w K Q := by
  simp only [stepI, Option.bind_eq_some_iff] at hs
  obtain ⟨tn, htn, k, hk, hs⟩ := hs
  split at hs
  · rename_i hlim
    simp only [Option.some.injEq] at hs; subst hs
    obtain ⟨kk, rfl⟩ := asNat_sound hk
    have e1 := h.peekInt (ds := ds) hl htn
    have e2 := h.peekInt (ds := ds) hc htn
    obtain ⟨e, i, v, he, hz, hzl⟩ := elemIs_sound hel
    simp only [lim] at hlim
    have hb : (i.bytes : Int) * (k : Int) ≤ 281474976710656 := by
      have h1 : i.bytes * k ≤ 1024 * 4294967296 := Nat.mul_le_mul he.bytes hlim
      have h2 : ((i.bytes * k : Nat) : Int) ≤ 281474976710656 := by omega
      rwa [Int.natCast_mul] at h2
    have hrun := run_make (P := P) w t e i v he.ty he.info he.zero kk kk k k (by omega) (Int.le_refl _) hb (by omega)
    simp only [Int.toNat_natCast] at hrun
    have hvs : v.cells.size = sz := by have := (rep_zero (ids := ids) (S := S) (w := w) hz).2; omega
    rw [he.size] at hrun
    refine after_fin (P := P) (ws0 := []) (S' := S) (t := .sl true sz (List.replicate k z)) (v := .slice (some ⟨w.heap.size, 0, none⟩) k k) (ob := [w.heap.size]) (H := [])
      (h.alloc (.cells (madeCells v.cells (k * sz)) e)) ho hd hf ?_ ?_ (evo_alloc h.fresh _) (fun _ h => h) (fun _ h => .inl h) (by simpa using hK)
    · unfold execOp
      simp only [hop, e1, e2, Sem.run_bind, hrun, Result.andThen_ok]; rfl
    · simp only [Rep]
      refine .inr ⟨w.heap.size, k, [], by simp, rfl, he.pos, by simp, wf_alloc (_b := 0) (size_madeCells _ _), ?_⟩
      refine repEs_zeros hz hzl k 0 fun i' j hi' u hu => ?_
      rw [World.cell?_alloc_new, Nat.zero_add]
      have hj := (Array.getElem?_eq_some_iff.1 hu).1
      refine madeCells_get hvs ?_ hu
      have : (i' + 1) * sz ≤ k * sz := Nat.mul_le_mul_right _ (by omega)
      rw [Nat.succ_mul] at this; omega
  · cases hs

end
end Go.Vs
/- Strings and bytes; slices; largest and least. -/
namespace Go.Vs
open Go

section
variable {P : Program} {ids : Nat → Nat} {S S' A : Nat → Prop} {N : Nat} {ρ : Roots} {fix : List Nat} {w w' : World} {tm : Array Value} {ds : List Deferred} {E : Env} {obs obs' : Nat → List Nat}
variable {K : Act → World → Prop} {Q : Exit → Act → World → Prop} {H : List Nat}

theorem Inv.allocD {H : List Nat} (h : Inv ids S A N ρ fix w tm E obs H) (o : Obj) : Inv ids S A N ρ fix (w.drew.alloc o) tm E obs (w.heap.size :: H) :=
  Inv.ext (L := [w.heap.size]) h (by simp) (fun b hb => heap_push_old w.drew o hb) (by simp) (by simp)

theorem evo_allocD (_hA : ∀ b, w.heap.size ≤ b → A b) (o : Obj) : Evo A w (w.drew.alloc o) :=
  ⟨rfl, rfl, rfl, by simp, fun b hb _ => heap_push_old w.drew o hb⟩

theorem isByteSlice_sound {t : TypeId} (h : isByteSlice P t = true) : ∃ e, P.underlying t = some (.slice e) ∧ P.underlying e = some (.int .u8) ∧ szOk P e 1 = true := by
  unfold isByteSlice at h
  split at h
  · rename_i e he
    split at h
    · rename_i he2; exact ⟨e, he, he2, h⟩
    · cases h
  · cases h

theorem repEs_bytes {b : Nat} : ∀ (l : List UInt8) (off : Nat), (∀ j (hj : j < l.length), w.cell? ⟨b, off + j, none⟩ = some (.int .u8 (l[j].toNat : Int))) →
    RepEs ids S w (l.map fun (x : UInt8) => Tree.int .u8 x.toNat) 1 b off []
  | [], off, _ => by simp [RepEs]
  | x :: l, off, hc => by
    simp only [List.map_cons, RepEs, RepE]
    refine ⟨[], [], ⟨trivial, _, ⟨hc 0 (by simp), rfl⟩, by simp [Rep]⟩, repEs_bytes l (off + 1) (fun j hj => ?_), rfl⟩
    have := hc (j + 1) (by simpa using hj)
    rwa [show off + (j + 1) = off + 1 + j by omega] at this

theorem sound_s2b {o : Oper} {s t : TypeId} {x : Operand} {d : Nat} {x' : Opd} {σ : Oracle} {ws : Env} (h : Inv ids S A N ρ fix w tm E obs []) (hd : d < N) (hf : d ∉ fix)
    (hop : o.op = .convert s t x) (ho : o.dst = some d) (hx : opdOk ids x x' = true) (h1 : isString P s = true) (h2 : isByteSlice P t = true)
    (hs : stepI σ ρ fix E (.s2b d x') = some ws)
    (hK : ∀ a' w', After ids S A N ρ fix w tm ds E [d] ws a' w' → K a' w') : o.wp P ⟨tm, ds⟩ w K Q := by
  simp only [stepI, Option.bind_eq_some_iff] at hs
  obtain ⟨a, ha, hs⟩ := hs
  split at hs
  · rename_i l
    split at hs
    · rename_i hlim
      simp only [Option.some.injEq] at hs; subst hs
      have e1 := h.peekStr (ds := ds) hx ha
      obtain ⟨e, he1, he2, _⟩ := isByteSlice_sound h2
      have hrun := run_bytes_of_string (P := P) w s t e ⟨l.toArray⟩ (isString_sound h1) he1 he2
      have hge : l.length ≤ grownCap w l.length 0 e := grownCap_ge w l.length 0 e
      simp only [size_mk] at hrun
      generalize hcap : grownCap w l.length 0 e = cap at *
      have hsz : (bytesRow ⟨l.toArray⟩ cap).size = cap := by simp [bytesRow, size_mk]; omega
      refine after_fin (P := P) (ws0 := []) (S' := S) (t := .sl true 1 (l.map fun (b : UInt8) => Tree.int .u8 b.toNat)) (v := .slice (some ⟨w.heap.size, 0, none⟩) l.length cap) (ob := [w.heap.size]) (H := [])
        (h.allocD (.cells (bytesRow ⟨l.toArray⟩ cap) e ((bytesRow ⟨l.toArray⟩ cap).size, (bytesRow ⟨l.toArray⟩ cap).size + 1))) ho hd hf ?_ ?_ (evo_allocD h.fresh _) (fun _ h => h) (fun _ h => .inl h) (by simpa using hK)
      · unfold execOp
        simp only [hop, e1, Sem.run_bind, hrun, Result.andThen_ok]; rfl
      · simp only [Rep]
        refine .inr ⟨w.heap.size, cap, [], by simp, rfl, by omega, by simpa using hge, ⟨_, _, _, heap_push_new w.drew _, by rw [hsz]; omega, ?_⟩, ?_⟩
        · intro o' ho'; simp only [hsz]; omega
        · refine repEs_bytes l 0 fun j hj => ?_
          have := World.cell?_alloc_mark w.drew (bytesRow ⟨l.toArray⟩ cap) e ((bytesRow ⟨l.toArray⟩ cap).size, (bytesRow ⟨l.toArray⟩ cap).size + 1) j
          simp only [World.size_drew] at this
          rw [Nat.zero_add, this]
          simp only [bytesRow]
          rw [Array.getElem?_append_left (by simpa using hj)]
          simp [hj]
    · cases hs
  · cases hs

theorem bytesOf_sound : ∀ (es : List Tree) (l : List UInt8), bytesOf es = some l → ∃ ns : List Int, es = ns.map (Tree.int .u8) ∧ l = ns.map fun n => UInt8.ofNat n.toNat
  | [], l, h => by simp only [bytesOf, Option.some.injEq] at h; subst h; exact ⟨[], rfl, rfl⟩
  | t :: ts, l, h => by
    cases t with
    | int k n =>
      cases k <;> simp only [bytesOf, reduceCtorEq, Option.bind_eq_some_iff, Option.some.injEq] at h
      obtain ⟨l', h1, rfl⟩ := h
      obtain ⟨ns, rfl, rfl⟩ := bytesOf_sound ts l' h1
      exact ⟨n :: ns, rfl, rfl⟩
    | _ => simp [bytesOf] at h

theorem repEs_ints {b : Nat} : ∀ (ns : List Int) (off : Nat) (ob : List Nat), RepEs ids S w (ns.map (Tree.int .u8)) 1 b off ob → ∀ j n, ns[j]? = some n → w.cell? ⟨b, off + j, none⟩ = some (.int .u8 n)
  | [], _, _, _, j, n, h => by simp at h
  | m :: ns, off, ob, h, j, n, hj => by
    simp only [List.map_cons, RepEs, RepE] at h
    obtain ⟨o1, o2, ⟨_, v, ⟨hc, _⟩, hr⟩, hrest, _⟩ := h
    simp only [Rep] at hr
    cases j with
    | zero => simp only [List.getElem?_cons_zero, Option.some.injEq] at hj; subst hj; rw [← hr.1]; exact hc
    | succ j =>
      simp only [List.getElem?_cons_succ] at hj
      have := repEs_ints ns (off + 1) o2 hrest j n hj
      rwa [show off + (j + 1) = off + 1 + j by omega]

theorem foldl_push : ∀ (ns : List Int) (r : ByteArray), ns.foldl (fun r n => r.push (UInt8.ofNat n.toNat)) r = ⟨r.data ++ (ns.map fun n => UInt8.ofNat n.toNat).toArray⟩
  | [], r => by simp
  | n :: ns, r => by
    simp only [List.foldl_cons, List.map_cons]
    rw [foldl_push ns]
    simp [ByteArray.push]

theorem sound_b2s {o : Oper} {s t : TypeId} {x : Operand} {d : Nat} {x' : Opd} {σ : Oracle} {ws : Env} (h : Inv ids S A N ρ fix w tm E obs []) (hd : d < N) (hf : d ∉ fix)
    (hop : o.op = .convert s t x) (ho : o.dst = some d) (hx : opdOk ids x x' = true) (h1 : isByteSlice P s = true) (h2 : isString P t = true)
    (hs : stepI σ ρ fix E (.b2s d x') = some ws)
    (hK : ∀ a' w', After ids S A N ρ fix w tm ds E [d] ws a' w' → K a' w') : o.wp P ⟨tm, ds⟩ w K Q := by
  simp only [stepI, Option.bind_eq_some_iff] at hs
  obtain ⟨a, ha, hs⟩ := hs
  obtain ⟨ob, hrep, _⟩ := h.peek (ds := ds) (opdOk_sound hx) ha
  obtain ⟨e, he1, he2, _⟩ := isByteSlice_sound h1
  have fin : ∀ aa n cap l, (Act.mk tm ds).eval x = .slice aa n cap → (Conv.bytesToString (.slice aa n cap)).run P w = .ok (.string ⟨l.toArray⟩) w → ws = wr ρ d (.tree (.str l)) → o.wp P ⟨tm, ds⟩ w K Q := by
    rintro aa n cap l hv hrun rfl
    refine after_tree h ho hd hf (v := .string ⟨l.toArray⟩) ?_ (by simp [Rep]) hK
    unfold execOp
    simp only [hop, hv, Sem.run_bind, run_convert_bytes_string w s t e aa n cap he1 he2 (isString_sound h2), hrun, Result.andThen_ok]; rfl
  split at hs
  · simp only [Option.some.injEq] at hs; subst hs
    simp only [Rep] at hrep
    obtain ⟨⟨aa, hv⟩, _⟩ := hrep
    refine fin aa 0 0 [] hv ?_ rfl
    cases aa with
    | none => simp [Conv.bytesToString]; rfl
    | some ad => rw [run_bytesToString w ad 0 0 [] (by simp [Go.loadCells, loadCellsFrom])]; rfl
  · rename_i ow sz es
    split at hs
    · rename_i hsz
      subst hsz
      simp only [Option.bind_eq_some_iff, Option.some.injEq] at hs
      obtain ⟨l, hl, rfl⟩ := hs
      obtain ⟨ns, rfl, rfl⟩ := bytesOf_sound es l hl
      have go : ∀ b off cap ob, (Act.mk tm ds).eval x = .slice (some ⟨b, off, none⟩) (ns.map (Tree.int .u8)).length cap → RepEs ids S w (ns.map (Tree.int .u8)) 1 b off ob → o.wp P ⟨tm, ds⟩ w K Q := by
        intro b off cap ob hv hes
        refine fin _ _ cap _ hv ?_ rfl
        have hcl := repEs_ints ns off ob hes
        rw [run_bytesToString w ⟨b, off, none⟩ _ cap ns ?_, foldl_push]
        · simp
        · have := run_loadCells_list (P := P) w ⟨b, off, none⟩ (ns.map (Value.int .u8)) (fun j v hj => by
            rw [Addr.add_lit]
            simp only [List.getElem?_map, Option.map_eq_some_iff] at hj
            obtain ⟨n, hn, rfl⟩ := hj
            exact hcl j n hn)
          simpa using this
      cases ow with
      | true =>
        simp only [Rep] at hrep
        rcases hrep with ⟨h4, hv, _⟩ | ⟨b, cap, ob', hv, _, _, _, _, hes⟩
        · have hns : ns = [] := by simpa using h4
          subst hns
          refine fin none 0 0 [] hv ?_ rfl
          simp [Conv.bytesToString]; rfl
        · exact go b 0 cap ob' hv hes
      | false =>
        simp only [Rep] at hrep
        obtain ⟨_, _, aa, cap, hv, _, h4⟩ := hrep
        rcases h4 with h4 | ⟨b, off, rfl, _, hes⟩
        · have hns : ns = [] := by simpa using h4
          subst hns
          refine fin aa 0 cap [] hv ?_ rfl
          cases aa with
          | none => simp [Conv.bytesToString]; rfl
          | some ad => rw [run_bytesToString w ad 0 cap [] (by simp [Go.loadCells, loadCellsFrom])]; rfl
        · exact go b off cap [] hv hes
    · cases hs
  · cases hs

/-- bounds of a slice expression -/
theorem opd?_sound {x : Option Operand} {y : Option Opd} (h : Inv ids S A N ρ fix w tm E obs []) (ho : opdOk? ids x y = true) {n k : Nat}
    (hv : bound E n y = some k) :
    (x = none ∧ k = n) ∨ ∃ o kk, x = some o ∧ (Act.mk tm ds).eval o = .int kk k := by
  cases x with
  | none =>
    cases y with
    | none => simp only [bound, Option.some.injEq] at hv; exact .inl ⟨rfl, hv.symm⟩
    | some y => simp [opdOk?] at ho
  | some o =>
    cases y with
    | none => simp [opdOk?] at ho
    | some y =>
      simp only [opdOk?] at ho
      simp only [bound, Option.bind_eq_some_iff] at hv
      obtain ⟨t, ht, hk⟩ := hv
      obtain ⟨kk, rfl⟩ := asNat_sound hk
      exact .inr ⟨o, kk, rfl, h.peekInt (ds := ds) ho ht⟩

theorem repEs_sub {es : List Tree} {sz b off l hh : Nat} {ob : List Nat} (h : RepEs ids S w es sz b off ob) (hl : l ≤ hh) (hle : hh ≤ es.length) (hob : ob = []) :
    RepEs ids S w ((es.take hh).drop l) sz b (off + l * sz) [] := by
  subst hob
  have e1 : es = (es.take hh).take l ++ ((es.take hh).drop l ++ es.drop hh) := by
    rw [← List.append_assoc, List.take_append_drop, List.take_append_drop]
  rw [e1, repEs_append] at h
  obtain ⟨o1, o2, _, h2, heq⟩ := h
  have hlen : ((es.take hh).take l).length = l := by simp; omega
  rw [hlen, repEs_append] at h2
  obtain ⟨o3, o4, h3, _, rfl⟩ := h2
  have : o3 = [] := by
    have := congrArg List.length heq; simp at this; exact List.eq_nil_of_length_eq_zero (by omega)
  subst this
  exact h3
end
end Go.Vs
