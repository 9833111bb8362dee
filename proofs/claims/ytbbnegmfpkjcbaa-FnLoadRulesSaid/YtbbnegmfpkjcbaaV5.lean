/- The framework by which this claim is proved, part 5 of 6: an interpreter of the program over value trees, and its soundness. No conditions. -/
import Derived.Test.YtbbnegmfpkjcbaaV1
import Derived.Test.YtbbnegmfpkjcbaaV4
import Derived.Sort.Grow
import Derived.Lib.SlicesCompact
import Derived.Lib.Bytealg
import Derived.Laws.AppendOwn
/- Rules by which proofs about the interpreter are put together: what `rfl` does not show. -/
namespace Go.Vs
open Go

section
variable {σ : Oracle} {ρ : Roots} {fix keep : List Nat} {E F K : Env}

theorem evOps_nil (h : E = F) : evOps σ ρ fix [] E = some F := by rw [evOps, h]

theorem evOps_cons {i : Ins} {os : List (Option (Nat × Bool) × Ins)} {ws : Env} (h : stepI σ ρ fix E i = some ws) (h2 : evOps σ ρ fix os (ws ++ E) = some F) : evOps σ ρ fix ((none, i) :: os) E = some F := by
  simp only [evOps, stepG, h, Option.bind_some, h2]

/-- a guarded operation that runs -/
theorem evOps_on {g : Nat} {b : Bool} {i : Ins} {os : List (Option (Nat × Bool) × Ins)} {ws : Env} (hg : get E g = .tree (.bool b)) (h : stepI σ ρ fix E i = some ws) (h2 : evOps σ ρ fix os (ws ++ E) = some F) :
    evOps σ ρ fix ((some (g, b), i) :: os) E = some F := by
  simp only [evOps, stepG, hg, if_true, h, Option.bind_some, h2]

/-- a guarded operation that does not run -/
theorem evOps_off {g : Nat} {b b' : Bool} {i : Ins} {os : List (Option (Nat × Bool) × Ins)} (hg : get E g = .tree (.bool b')) (hb : b' ≠ b) (h2 : evOps σ ρ fix os (((dstOf i).flatMap fun d => wr ρ d .gone) ++ E) = some F) :
    evOps σ ρ fix ((some (g, b), i) :: os) E = some F := by
  simp only [evOps, stepG, hg, hb, if_false, Option.bind_some, h2]

theorem evC_region {d : Bool} {ops : List (Option (Nat × Bool) × Ins)} (h : evOps σ ρ fix ops (enterE ρ fix E) = some F) (hk : keepE keep F = K) : evC σ (.region ρ fix keep d ops) E = some (.nrm, K) := by
  simp only [evC, h, Option.bind_some, hk]

theorem evC_seq {a b : PCode} {r : Ex × Env} (h : evC σ a E = some (.nrm, F)) (h2 : evC σ b F = some r) : evC σ (.seq a b) E = some r := by
  simp only [evC, h, Option.bind_some, h2]
theorem evC_seq_ret {a b : PCode} (h : evC σ a E = some (.ret, F)) : evC σ (.seq a b) E = some (.ret, F) := by
  simp only [evC, h, Option.bind_some]
theorem evC_seq_exit {a b : PCode} {id : Nat} (h : evC σ a E = some (.exit id, F)) : evC σ (.seq a b) E = some (.exit id, F) := by
  simp only [evC, h, Option.bind_some]
theorem evC_cond {x : Opd} {a b : PCode} {c : Bool} {r : Ex × Env} (hx : peek E x = some (.bool c)) (h : (if c then evC σ a E else evC σ b E) = some r) : evC σ (.cond x a b) E = some r := by
  simp only [evC, hx, Option.bind_some, h]
theorem evC_block {id : Nat} {c : PCode} (h : evC σ c E = some (.nrm, F)) : evC σ (.block id c) E = some (.nrm, F) := by
  simp only [evC, h, Option.bind_some]
theorem evC_block_exit {id : Nat} {c : PCode} (h : evC σ c E = some (.exit id, F)) : evC σ (.block id c) E = some (.nrm, F) := by
  simp only [evC, h, Option.bind_some, if_true]
theorem evC_block_ret {id : Nat} {c : PCode} (h : evC σ c E = some (.ret, F)) : evC σ (.block id c) E = some (.ret, F) := by
  simp only [evC, h, Option.bind_some]

/-- an element of a shared slice -/
theorem iadr_sh {d sz : Nat} {x i : Opd} {k : IntKind} {n : Int} {es : List Tree} {e : Tree} (hx : peek E x = some (.sl false sz es)) (hi : peek E i = some (.int k n)) (h0 : 0 ≤ n) (he : es[n.toNat]? = some e) :
    stepI σ ρ fix E (.iadr d sz x i) = some (wr ρ d (.tree (.ptr false e.cells))) := by
  simp [stepI, hx, hi, asNat, h0, he]

/-- an element of an own slice -/
theorem iadr_ow {d sz r : Nat} {p : Path} {x i : Opd} {k : IntKind} {n : Int} {es : List Tree} (hx : peek E x = some (.sl true sz es)) (hp : place E x = some (r, p)) (hi : peek E i = some (.int k n)) (h0 : 0 ≤ n) (hn : n.toNat < es.length)
    (hr : okRef ρ d r p = true) : stepI σ ρ fix E (.iadr d sz x i) = some (wr ρ d (.adr r p n.toNat 0)) := by
  simp [stepI, hx, hi, asNat, h0, hn, hp, hr]

/-- a byte of a string -/
theorem idx_str {d : Nat} {x i : Opd} {k : IntKind} {n : Int} {s : List UInt8} {b : UInt8} (hx : peek E x = some (.str s)) (hi : peek E i = some (.int k n)) (h0 : 0 ≤ n) (hb : s[n.toNat]? = some b) :
    stepI σ ρ fix E (.idx d x i) = some (wr ρ d (.tree (.int .u8 b.toNat))) := by
  simp [stepI, hx, hi, asNat, h0, hb]

/-- a slice made -/
theorem make_ok {d sz : Nat} {z : Tree} {x : Opd} {k : IntKind} {n : Int} (hx : peek E x = some (.int k n)) (h0 : 0 ≤ n) (hl : n.toNat ≤ lim) :
    stepI σ ρ fix E (.make d sz z x) = some (wr ρ d (.tree (.sl true sz (List.replicate n.toNat z)))) := by
  simp [stepI, hx, asNat, h0, hl]

/-- division -/
theorem quo_ok {d : Nat} {x y : Opd} {k : IntKind} {a b : Int} (hx : peek E x = some (.int k a)) (hy : peek E y = some (.int k b)) (hb : b ≠ 0) :
    stepI σ ρ fix E (.bin d .quo x y) = some (wr ρ d (.tree (.int k (k.wrap (a.tdiv b))))) := by
  simp [stepI, hx, hy, binOp, intOp, hb]
theorem rem_ok {d : Nat} {x y : Opd} {k : IntKind} {a b : Int} (hx : peek E x = some (.int k a)) (hy : peek E y = some (.int k b)) (hb : b ≠ 0) :
    stepI σ ρ fix E (.bin d .rem x y) = some (wr ρ d (.tree (.int k (a.tmod b)))) := by
  simp [stepI, hx, hy, binOp, intOp, hb]

/-- a loop's round -/
theorem loop_next {n : Nat} {b : Env → Option (Ex × Env)} {r : Ex × Env} (h : b E = some (.nrm, F)) (h2 : loopN n b F = some r) : loopN (n + 1) b E = some r := by
  simp only [loopN, h, Option.bind_some, h2]
theorem loop_exit {n id : Nat} {b : Env → Option (Ex × Env)} (h : b E = some (.exit id, F)) : loopN (n + 1) b E = some (.exit id, F) := by
  simp only [loopN, h, Option.bind_some]
theorem loop_ret {n : Nat} {b : Env → Option (Ex × Env)} (h : b E = some (.ret, F)) : loopN (n + 1) b E = some (.ret, F) := by
  simp only [loopN, h, Option.bind_some]
end
end Go.Vs
/- The typed functions' library, and the rules by which the interpreter is shown to answer as they do. -/
namespace Go.Vs
open Go

/- what the typed functions use -/
abbrev w64 (n : Int) : Int := IntKind.wrap .i64 n
def at? {α : Type} (l : List α) (i : Int) : Option α := if 0 ≤ i then l[i.toNat]? else none
def div? (k : IntKind) (a b : Int) : Option Int := if b = 0 then none else some (k.wrap (a.tdiv b))
def mod? (a b : Int) : Option Int := if b = 0 then none else some (a.tmod b)
def mk? {α : Type} (n : Int) (z : α) : Option (List α) := if 0 ≤ n ∧ n.toNat ≤ lim then some (List.replicate n.toNat z) else none
def app? {α : Type} (l m : List α) : Option (List α) := if l.length + m.length ≤ lim then some (l ++ m) else none
def sub? {α : Type} (l : List α) (lo hi : Int) : Option (List α) := if 0 ≤ lo ∧ lo ≤ hi ∧ hi ≤ l.length then some ((l.take hi.toNat).drop lo.toNat) else none
def s2b? (s : List UInt8) : Option (List Int) := if s.length ≤ lim then some (s.map fun b => (b.toNat : Int)) else none
def b2s (l : List Int) : List UInt8 := l.map fun n => UInt8.ofNat n.toNat
def imax (a b : Int) : Int := if b > a then b else a
def imin (a b : Int) : Int := if b < a then b else a
def smin (a b : List UInt8) : List UInt8 := if Op.bytesLess a b || a == b then a else b
/-- the byte at a place of a text of small bytes -/
def nxt? (s : List UInt8) (pos : Nat) : Option Int := (s[pos]?).bind fun c => if c.toNat < 128 then some (c.toNat : Int) else none
def shl? (k : IntKind) (a b : Int) : Option Int := if b < 0 then none else some (k.wrap (a * 2 ^ min b.toNat k.bits))
def shr? (k : IntKind) (a b : Int) : Option Int := if b < 0 then none else some (a.fdiv (2 ^ min b.toNat k.bits))

inductive Step (S B R : Type) where
  | next (s : S)
  | brk (b : B)
  | ret (r : R)
inductive Out (B R : Type) where
  | brk (b : B)
  | ret (r : R)

def loop {S B R : Type} (body : S → Option (Step S B R)) : Nat → S → Option (Out B R)
  | 0, _ => none
  | n + 1, s => match body s with
    | none => none
    | some (.next s') => loop body n s'
    | some (.brk b) => some (.brk b)
    | some (.ret r) => some (.ret r)

def onL {B R α : Type} (o : Option (Out B R)) (kb : B → Option α) (kr : R → Option α) : Option α :=
  match o with
  | none => none
  | some (.brk b) => kb b
  | some (.ret r) => kr r
def onS {S B R α : Type} (o : Option (Step S B R)) (kn : S → Option α) (kb : B → Option α) (kr : R → Option α) : Option α :=
  match o with
  | none => none
  | some (.next s) => kn s
  | some (.brk b) => kb b
  | some (.ret r) => kr r

/-- where a key stands in a map -/
def mIx {κ β : Type} (kl : κ → List Int) (k : κ) (m : List (κ × β)) : Option Nat := keyIx (kl k) (m.map fun p => kl p.1)
def mget {κ β : Type} (kl : κ → List Int) (m : List (κ × β)) (k : κ) (z : β) : β := ((mIx kl k m).bind fun i => (m[i]?).map (·.2)).getD z
def mhas {κ β : Type} (kl : κ → List Int) (m : List (κ × β)) (k : κ) : Bool := (mIx kl k m).isSome
def mset {κ β : Type} : List (κ × β) → Nat → β → List (κ × β)
  | [], _, _ => []
  | p :: m, 0, v => (p.1, v) :: m
  | p :: m, i + 1, v => p :: mset m i v
def mput {κ β : Type} (kl : κ → List Int) (m : List (κ × β)) (k : κ) (v : β) : List (κ × β) :=
  match mIx kl k m with
  | some i => mset m i v
  | none => m ++ [(k, v)]
def mpT {κ β : Type} (ek : κ → Tree) (ev : β → Tree) (m : List (κ × β)) : Tree := .map (m.map fun p => ek p.1) (m.map fun p => ev p.2)
def tail? {α : Type} (l : List α) (lo : Int) : Option (List α) := if 0 ≤ lo ∧ lo < l.length then some (l.drop lo.toNat) else none

abbrev eSl {α : Type} (o : Bool) (sz : Nat) (enc : α → Tree) (l : List α) : Tree := .sl o sz (l.map enc)

/- ranges of what comes in -/
def okI (k : IntKind) (n : Int) : Prop := k.min ≤ n ∧ n ≤ k.max
def okS (s : List UInt8) : Prop := s.length ≤ 9223372036854775807
def okB (_ : Bool) : Prop := True
def okL {α : Type} (ok : α → Prop) (l : List α) : Prop := l.length ≤ 9223372036854775807 ∧ ∀ x ∈ l, ok x
theorem okI64 {n : Int} (h : okI .i64 n) : -9223372036854775808 ≤ n ∧ n ≤ 9223372036854775807 := h
theorem okU8 {n : Int} (h : okI .u8 n) : 0 ≤ n ∧ n ≤ 255 := h


/- frames -/
inductive Fr where
  | sq (b : PCode)
  | bk (id : Nat)

def unw (σ : Oracle) : List Fr → Ex → Env → Option (Ex × Env)
  | [], x, E => some (x, E)
  | .sq b :: ks, .nrm, E => (evC σ b E).bind fun r => unw σ ks r.1 r.2
  | .sq b :: ks, x, E => unw σ ks x E
  | .bk id :: ks, .exit id', E => if id' = id then unw σ ks .nrm E else unw σ ks (.exit id') E
  | .bk id :: ks, x, E => unw σ ks x E

def run (σ : Oracle) (c : PCode) (ks : List Fr) (E : Env) : Option (Ex × Env) := (evC σ c E).bind fun r => unw σ ks r.1 r.2
def runO (σ : Oracle) (ρ : Roots) (fix keep : List Nat) (ks : List Fr) (ops : List (Option (Nat × Bool) × Ins)) (E : Env) : Option (Ex × Env) :=
  (evOps σ ρ fix ops E).bind fun F => unw σ ks .nrm (keepE keep F)

def Sim {α : Type} (D : Option α) (r : Option (Ex × Env)) (f : α → Ex × Env) : Prop := ∀ x, D = some x → r = some (f x)

def allTrees : Env → Bool
  | [] => true
  | (_, .tree _) :: E => allTrees E
  | (_, .undef) :: E => allTrees E
  | _ => false

theorem enter_trees {ρ : Roots} {fix : List Nat} : ∀ {E : Env}, allTrees E = true → enterE ρ fix E = E
  | [], _ => rfl
  | (s, .tree t) :: E, h => by simp only [enterE, List.map_cons, entAV]; exact congrArg _ (enter_trees (E := E) h)
  | (s, .undef) :: E, h => by simp only [enterE, List.map_cons, entAV]; exact congrArg _ (enter_trees (E := E) h)

theorem sim_none {α : Type} {r : Option (Ex × Env)} {f : α → Ex × Env} : Sim none r f := by
  intro x hx; cases hx
section
variable {σ : Oracle} {ρ : Roots} {fix keep : List Nat} {E F K : Env} {α β S B R : Type} {f : α → Ex × Env} {D A A' : Option α} {ks : List Fr} {r : Option (Ex × Env)}

theorem s_bind {X : Option β} {k : β → Option α} (h : ∀ x, X = some x → Sim (k x) r f) : Sim (X.bind k) r f := by
  intro y hy
  obtain ⟨x, h1, h2⟩ := Option.bind_eq_some_iff.1 hy
  exact h x h1 y h2
theorem s_ite {p : Prop} [Decidable p] (h1 : p → Sim A r f) (h2 : ¬ p → Sim A' r f) : Sim (if p then A else A') r f := by
  intro y hy
  by_cases hp : p
  · rw [if_pos hp] at hy; exact h1 hp y hy
  · rw [if_neg hp] at hy; exact h2 hp y hy
theorem s_seq {a b : PCode} (h : Sim D (run σ a (.sq b :: ks) E) f) : Sim D (run σ (.seq a b) ks E) f := by
  intro x hx
  have := h x hx
  simp only [run, evC] at this ⊢
  rw [← this]
  cases evC σ a E with
  | none => rfl
  | some r =>
    obtain ⟨ex, F⟩ := r
    cases ex <;> simp [unw]
theorem s_blk {id : Nat} {c : PCode} (h : Sim D (run σ c (.bk id :: ks) E) f) : Sim D (run σ (.block id c) ks E) f := by
  intro x hx
  have := h x hx
  simp only [run, evC] at this ⊢
  rw [← this]
  cases evC σ c E with
  | none => rfl
  | some r =>
    obtain ⟨ex, F⟩ := r
    cases ex with
    | nrm => simp [unw]
    | ret => simp [unw]
    | exit i => simp only [Option.bind_some, unw]; split <;> simp
theorem s_cond {x : Opd} {a b : PCode} {p : Prop} [Decidable p] (hx : peek E x = some (.bool (decide p))) (h1 : Sim A (run σ a ks E) f) (h2 : Sim A' (run σ b ks E) f) :
    Sim (if p then A else A') (run σ (.cond x a b) ks E) f := by
  intro y hy
  by_cases hp : p
  · rw [if_pos hp] at hy; have := h1 y hy; simpa only [run, evC, hx, Option.bind_some, hp, decide_true, if_true] using this
  · rw [if_neg hp] at hy; have := h2 y hy; simpa only [run, evC, hx, Option.bind_some, hp, decide_false, if_false, Bool.false_eq_true] using this
theorem s_condn {x : Opd} {a b : PCode} {p : Prop} [Decidable p] (hx : peek E x = some (.bool (!decide p))) (h1 : Sim A (run σ b ks E) f) (h2 : Sim A' (run σ a ks E) f) :
    Sim (if p then A else A') (run σ (.cond x a b) ks E) f := by
  intro y hy
  by_cases hp : p
  · rw [if_pos hp] at hy; have := h1 y hy; simpa only [run, evC, hx, Option.bind_some, hp, decide_true, if_true, Bool.not_true, if_false, Bool.false_eq_true] using this
  · rw [if_neg hp] at hy; have := h2 y hy; simpa only [run, evC, hx, Option.bind_some, hp, decide_false, if_false, Bool.false_eq_true, Bool.not_false, if_true] using this
theorem s_condb {x : Opd} {a b : PCode} {p : Bool} (hx : peek E x = some (.bool p)) (h1 : Sim A (run σ a ks E) f) (h2 : Sim A' (run σ b ks E) f) :
    Sim (if p = true then A else A') (run σ (.cond x a b) ks E) f := s_cond (by cases p <;> exact hx) h1 h2
theorem s_condnb {x : Opd} {a b : PCode} {p : Bool} (hx : peek E x = some (.bool (!p))) (h1 : Sim A (run σ b ks E) f) (h2 : Sim A' (run σ a ks E) f) :
    Sim (if p = true then A else A') (run σ (.cond x a b) ks E) f := s_condn (by cases p <;> exact hx) h1 h2
theorem s_condT {x : Opd} {a b : PCode} {q : Bool} (hx : peek E x = some (.bool q)) (hq : q = true) (h1 : Sim A (run σ a ks E) f) : Sim A (run σ (.cond x a b) ks E) f := by
  subst hq
  intro y hy; have := h1 y hy; simpa only [run, evC, hx, Option.bind_some, if_true] using this
theorem s_condF {x : Opd} {a b : PCode} {q : Bool} (hx : peek E x = some (.bool q)) (hq : q = false) (h1 : Sim A (run σ b ks E) f) : Sim A (run σ (.cond x a b) ks E) f := by
  subst hq
  intro y hy; have := h1 y hy; simpa only [run, evC, hx, Option.bind_some, if_false, Bool.false_eq_true] using this
theorem s_skip (K : Env) {ls : List Nat} (hk : keepE ls E = K) (h : Sim D (unw σ ks .nrm K) f) : Sim D (run σ (.skip ls) ks E) f := by
  subst hk; exact h
theorem s_exit (K : Env) {id : Nat} {ls : List Nat} (hk : keepE ls E = K) (h : Sim D (unw σ ks (.exit id) K) f) : Sim D (run σ (.exit id ls) ks E) f := by
  subst hk; exact h
theorem unw_ret : ∀ (ks : List Fr), unw σ ks .ret E = some (.ret, E)
  | [] => rfl
  | .sq b :: ks => by simp only [unw]; exact unw_ret ks
  | .bk id :: ks => by simp only [unw]; exact unw_ret ks
theorem s_ret (K : Env) {ls : List Nat} (hk : keepE ls E = K) (h : Sim D (some (.ret, K)) f) : Sim D (run σ (.ret ls) ks E) f := by
  subst hk; intro x hx
  have := h x hx
  simp only [run, evC, Option.bind_some, unw_ret]; exact this
theorem s_uret (h : Sim D (some (.ret, E)) f) : Sim D (unw σ ks .ret E) f := by rw [unw_ret]; exact h
theorem s_nx {b : PCode} (h : Sim D (run σ b ks E) f) : Sim D (unw σ (.sq b :: ks) .nrm E) f := h
theorem s_bn {id : Nat} (h : Sim D (unw σ ks .nrm E) f) : Sim D (unw σ (.bk id :: ks) .nrm E) f := h
theorem s_xs {b : PCode} {id : Nat} (h : Sim D (unw σ ks (.exit id) E) f) : Sim D (unw σ (.sq b :: ks) (.exit id) E) f := h
theorem s_xb {id : Nat} (h : Sim D (unw σ ks .nrm E) f) : Sim D (unw σ (.bk id :: ks) (.exit id) E) f := by
  simpa only [unw, if_true] using h
theorem s_xo {id id' : Nat} (hne : Nat.beq id' id = false) (h : Sim D (unw σ ks (.exit id') E) f) : Sim D (unw σ (.bk id :: ks) (.exit id') E) f := by
  have : ¬ id' = id := fun e => by rw [e] at hne; simp at hne
  simpa only [unw, this, if_false] using h
theorem s_end {x : α} {ex : Ex} (h : (ex, E) = f x) : Sim (some x) (unw σ [] ex E) f := by
  intro y hy; cases hy; rw [← h]; rfl
theorem s_endr {x : α} {ex : Ex} (h : (ex, E) = f x) : Sim (some x) (some (ex, E)) f := by
  intro y hy; cases hy; rw [← h]
theorem s_reg {d : Bool} {ops : List (Option (Nat × Bool) × Ins)} (he : allTrees E = true) (h : Sim D (runO σ ρ fix keep ks ops E) f) : Sim D (run σ (.region ρ fix keep d ops) ks E) f := by
  intro x hx
  have := h x hx
  simp only [run, evC, runO, enter_trees he] at this ⊢
  rw [← this]
  cases evOps σ ρ fix ops E <;> rfl
theorem s_regE (F : Env) {d : Bool} {ops : List (Option (Nat × Bool) × Ins)} (he : enterE ρ fix E = F) (h : Sim D (runO σ ρ fix keep ks ops F) f) : Sim D (run σ (.region ρ fix keep d ops) ks E) f := by
  intro x hx
  have := h x hx
  simp only [run, evC, runO, he] at this ⊢
  rw [← this]
  cases evOps σ ρ fix ops F <;> rfl
theorem r_step {i : Ins} {os : List (Option (Nat × Bool) × Ins)} {ws : Env} (h : stepI σ ρ fix E i = some ws) (h2 : Sim D (runO σ ρ fix keep ks os (ws ++ E)) f) :
    Sim D (runO σ ρ fix keep ks ((none, i) :: os) E) f := by
  intro x hx
  have := h2 x hx
  simpa only [runO, evOps, stepG, h, Option.bind_some] using this
theorem r_on {g : Nat} {b b' : Bool} {i : Ins} {os : List (Option (Nat × Bool) × Ins)} {ws : Env} (hg : get E g = .tree (.bool b')) (hb : b' = b) (h : stepI σ ρ fix E i = some ws) (h2 : Sim D (runO σ ρ fix keep ks os (ws ++ E)) f) :
    Sim D (runO σ ρ fix keep ks ((some (g, b), i) :: os) E) f := by
  subst hb
  intro x hx
  have := h2 x hx
  simpa only [runO, evOps, stepG, hg, if_true, h, Option.bind_some] using this
theorem r_off {g : Nat} {b b' : Bool} {i : Ins} {os : List (Option (Nat × Bool) × Ins)} (hg : get E g = .tree (.bool b')) (hb : b' = !b) (h2 : Sim D (runO σ ρ fix keep ks os (((dstOf i).flatMap fun d => wr ρ d .gone) ++ E)) f) :
    Sim D (runO σ ρ fix keep ks ((some (g, b), i) :: os) E) f := by
  have hne : ¬ b' = b := by subst hb; cases b <;> simp
  intro x hx
  have := h2 x hx
  simpa only [runO, evOps, stepG, hg, hne, if_false, Option.bind_some] using this
theorem r_gone {g : Nat} {b : Bool} {i : Ins} {os : List (Option (Nat × Bool) × Ins)} (hg : get E g = .gone) (h2 : Sim D (runO σ ρ fix keep ks os (((dstOf i).flatMap fun d => wr ρ d .gone) ++ E)) f) :
    Sim D (runO σ ρ fix keep ks ((some (g, b), i) :: os) E) f := by
  intro x hx
  have := h2 x hx
  simpa only [runO, evOps, stepG, hg, Option.bind_some] using this
theorem r_end (K : Env) (hk : keepE keep E = K) (h : Sim D (unw σ ks .nrm K) f) : Sim D (runO σ ρ fix keep ks [] E) f := by
  subst hk; exact h

/-- several ways meet -/
theorem s_join {c : PCode} {DJ : Option β} {k : β → Option α} (K : β → Env) (h1 : Sim DJ (run σ c [] E) (fun x => (.nrm, K x))) (h2 : ∀ x, Sim (k x) (unw σ ks .nrm (K x)) f) : Sim (DJ.bind k) (run σ c ks E) f := by
  intro y hy
  obtain ⟨x, hx, hy⟩ := Option.bind_eq_some_iff.1 hy
  have g1 := h1 x hx
  have g2 := h2 x y hy
  simp only [run, unw, Option.bind_eq_some_iff, Option.some.injEq] at g1 ⊢
  obtain ⟨r, hr, e⟩ := g1
  exact ⟨r, hr, by obtain ⟨ex, F⟩ := r; simp only [Prod.mk.injEq] at e; rw [e.1, e.2]; exact g2⟩

def fS (K : S → Env) (id : Nat) (eb : B → Env) (er : R → Env) : Step S B R → Ex × Env
  | .next s => (.nrm, K s)
  | .brk b => (.exit id, eb b)
  | .ret r => (.ret, er r)

theorem s_joinS {c : PCode} {DJ : Option (Step S B R)} {kn : S → Option α} {kb : B → Option α} {kr : R → Option α} (K : S → Env) (id : Nat) (eb : B → Env) (er : R → Env) (h1 : Sim DJ (run σ c [] E) (fS K id eb er))
    (hn : ∀ x, Sim (kn x) (unw σ ks .nrm (K x)) f) (hb : ∀ x, Sim (kb x) (unw σ ks (.exit id) (eb x)) f) (hr : ∀ x, Sim (kr x) (unw σ ks .ret (er x)) f) : Sim (onS DJ kn kb kr) (run σ c ks E) f := by
  intro y hy
  cases hD : DJ with
  | none => rw [hD] at hy; cases hy
  | some o =>
    rw [hD] at hy
    have g1 := h1 o hD
    simp only [run, unw, Option.bind_eq_some_iff, Option.some.injEq] at g1 ⊢
    obtain ⟨r, hr', e⟩ := g1
    refine ⟨r, hr', ?_⟩
    obtain ⟨ex, F⟩ := r
    cases o <;> simp only [fS, Prod.mk.injEq] at e <;> rw [e.1, e.2]
    · exact hn _ y hy
    · exact hb _ y hy
    · exact hr _ y hy

theorem loop_sim {c : PCode} {body : S → Option (Step S B R)} {K : S → Env} {id : Nat} {eb : B → Env} {er : R → Env} (hb : ∀ s, Sim (body s) (run σ c [] (K s)) (fS K id eb er)) :
    ∀ (n : Nat) (s : S) (o : Out B R), loop body n s = some o → loopN n (evC σ c) (K s) = some (match o with | .brk b => (.exit id, eb b) | .ret r => (.ret, er r))
  | 0, s, o, h => by simp [loop] at h
  | n + 1, s, o, h => by
    simp only [loop] at h
    have hr : ∀ q, body s = some q → evC σ c (K s) = some (fS K id eb er q) := by
      intro q hq
      have := hb s q hq
      simp only [run, unw, Option.bind_eq_some_iff, Option.some.injEq] at this
      obtain ⟨r, h1, h2⟩ := this
      rw [h1, ← h2]
    cases hq : body s with
    | none => rw [hq] at h; cases h
    | some q =>
      rw [hq] at h
      have h1 := hr q hq
      simp only [loopN, h1, Option.bind_some]
      cases q with
      | next s' => simp only at h; simp only [fS]; exact loop_sim hb n s' o h
      | brk b => simp only [Option.some.injEq] at h; subst h; rfl
      | ret r => simp only [Option.some.injEq] at h; subst h; rfl

theorem s_loop {c : PCode} {body : S → Option (Step S B R)} {kb : B → Option α} {kr : R → Option α} {s0 : S} (K : S → Env) (id : Nat) (eb : B → Env) (er : R → Env) (hE : E = K s0)
    (hb : ∀ s, Sim (body s) (run σ c [] (K s)) (fS K id eb er)) (h1 : ∀ b, Sim (kb b) (unw σ ks (.exit id) (eb b)) f) (h2 : ∀ r, Sim (kr r) (unw σ ks .ret (er r)) f) :
    Sim (onL (loop body loopLim s0) kb kr) (run σ (.loop c) ks E) f := by
  subst hE
  intro y hy
  cases hl : loop body loopLim s0 with
  | none => rw [hl] at hy; cases hy
  | some o =>
    rw [hl] at hy
    have := loop_sim hb _ _ _ hl
    simp only [run, evC, this, Option.bind_some]
    cases o with
    | brk b => exact h1 b y hy
    | ret r => exact h2 r y hy

/- elements -/
theorem at_some {l : List α} {i : Int} {v : α} (h : at? l i = some v) : 0 ≤ i ∧ l[i.toNat]? = some v := by
  unfold at? at h; split at h
  · exact ⟨‹_›, h⟩
  · cases h
theorem at_lt {l : List α} {i : Int} {v : α} (h : at? l i = some v) : i.toNat < l.length := (List.getElem?_eq_some_iff.1 (at_some h).2).1

variable {d sz : Nat} {x y i : Opd} {k : IntKind} {n : Int} {enc enc' : β → Tree} {l : List β} {v : β} {rt : Nat} {p : Path} {m : Md}

theorem map_at {l : List β} {v : β} {n : Int} (h : at? l n = some v) : (l.map enc)[n.toNat]? = some (enc v) := by
  rw [List.getElem?_map, (at_some h).2]; rfl
theorem i_iadrS (hx : peek E x = some (.sl false sz (l.map enc))) (hi : peek E i = some (.int k n)) (h : at? l n = some v) :
    stepI σ ρ fix E (.iadr d sz x i) = some (wr ρ d (.tree (.ptr false (enc v).cells))) := iadr_sh hx hi (at_some h).1 (map_at h)
theorem i_tbl {tag m : Nat} {v : List UInt8} (hi : peek E i = some (.int k n)) (hm : (tblOf tag).length ≤ m) (h : at? (tblOf tag) n = some v) :
    stepI σ ρ fix E (.tbl d tag m i) = some (wr ρ d (.tree (.ptr false [.str v]))) := by
  obtain ⟨h0, h1⟩ := at_some h
  have h2 := (List.getElem?_eq_some_iff.1 h1).1
  simp only [stepI, hi, Option.bind_some, asNat, if_pos h0]
  rw [if_pos (by omega), h1]; rfl
theorem i_iadrO (hx : peek E x = some (.sl true sz (l.map enc))) (hp : place E x = some (rt, p)) (hi : peek E i = some (.int k n)) (h : at? l n = some v) (hr : okRef ρ d rt p = true) :
    stepI σ ρ fix E (.iadr d sz x i) = some (wr ρ d (.adr rt p n.toNat 0)) := iadr_ow hx hp hi (at_some h).1 (by simpa using at_lt h) hr
theorem i_idx {s : List UInt8} {b : UInt8} (hx : peek E x = some (.str s)) (hi : peek E i = some (.int k n)) (h : at? s n = some b) :
    stepI σ ρ fix E (.idx d x i) = some (wr ρ d (.tree (.int .u8 b.toNat))) := idx_str hx hi (at_some h).1 (at_some h).2
theorem i_len {o : Bool} (hx : peek E x = some (.sl o sz (l.map enc))) : stepI σ ρ fix E (.len d false x) = some (wr ρ d (.tree (.int .i64 l.length))) := by
  simp [stepI, hx, Tree.len]
theorem i_quo {a b q : Int} (hx : peek E x = some (.int k a)) (hy : peek E y = some (.int k b)) (h : div? k a b = some q) : stepI σ ρ fix E (.bin d .quo x y) = some (wr ρ d (.tree (.int k q))) := by
  unfold div? at h; split at h
  · cases h
  · cases h; exact quo_ok hx hy ‹_›
theorem i_rem {a b q : Int} (hx : peek E x = some (.int k a)) (hy : peek E y = some (.int k b)) (h : mod? a b = some q) : stepI σ ρ fix E (.bin d .rem x y) = some (wr ρ d (.tree (.int k q))) := by
  unfold mod? at h; split at h
  · cases h
  · cases h; exact rem_ok hx hy ‹_›
theorem i_shl {k' : IntKind} {a b q : Int} (hx : peek E x = some (.int k a)) (hy : peek E y = some (.int k' b)) (h : shl? k a b = some q) : stepI σ ρ fix E (.bin d .shl x y) = some (wr ρ d (.tree (.int k q))) := by
  unfold shl? at h; split at h
  · cases h
  · cases h; simp [stepI, hx, hy, binOp, shOp, *]
theorem i_shr {k' : IntKind} {a b q : Int} (hx : peek E x = some (.int k a)) (hy : peek E y = some (.int k' b)) (h : shr? k a b = some q) : stepI σ ρ fix E (.bin d .shr x y) = some (wr ρ d (.tree (.int k q))) := by
  unfold shr? at h; split at h
  · cases h
  · cases h; simp [stepI, hx, hy, binOp, shOp, *]
theorem i_cat {a b q : List UInt8} (hx : peek E x = some (.str a)) (hy : peek E y = some (.str b)) (h : app? a b = some q) : stepI σ ρ fix E (.bin d .add x y) = some (wr ρ d (.tree (.str q))) := by
  unfold app? at h; split at h
  · cases h; simp [stepI, hx, hy, binOp, strOp, *]
  · cases h
theorem i_make {z : β} {zt : Tree} {q : List β} (hx : peek E x = some (.int k n)) (hz : zt = enc z) (h : mk? n z = some q) : stepI σ ρ fix E (.make d sz zt x) = some (wr ρ d (.tree (.sl true sz (q.map enc)))) := by
  unfold mk? at h; split at h
  · rename_i hc
    cases h; rw [make_ok hx hc.1 hc.2, List.map_replicate, hz]
  · cases h
theorem i_s2b {s : List UInt8} {q : List Int} (hx : peek E x = some (.str s)) (h : s2b? s = some q) : stepI σ ρ fix E (.s2b d x) = some (wr ρ d (.tree (.sl true 1 (q.map (Tree.int .u8))))) := by
  unfold s2b? at h; split at h
  · cases h; simp [stepI, hx, *, Function.comp_def]
  · cases h
theorem i_rnxT {it pos : Nat} {s : List UInt8} {c : Int} (hx : get E it = .tree (.itr s pos)) (h : nxt? s pos = some c) :
    stepI σ ρ fix E (.rnx d it) = some (wr ρ d (.tree (.tup [.bool true, .int .i64 pos, .int .i32 c])) ++ chg ρ it (.itr s (pos + 1))) := by
  unfold nxt? at h
  obtain ⟨b, h1, h2⟩ := Option.bind_eq_some_iff.1 h
  split at h2
  · cases h2; simp [stepI, hx, h1, *]
  · cases h2
theorem i_rnxF {it pos : Nat} {s : List UInt8} (hx : get E it = .tree (.itr s pos)) (h : ¬ pos < s.length) :
    stepI σ ρ fix E (.rnx d it) = some (wr ρ d (.tree (.tup [.bool false]))) := by
  have : s[pos]? = none := List.getElem?_eq_none (by omega)
  simp [stepI, hx, this]
theorem bytesOf_map : ∀ l : List Int, bytesOf (l.map (Tree.int .u8)) = some (b2s l)
  | [] => rfl
  | n :: l => by simp [bytesOf, bytesOf_map l, b2s]
theorem i_b2s {o : Bool} {l : List Int} (hx : peek E x = some (.sl o 1 (l.map (Tree.int .u8)))) : stepI σ ρ fix E (.b2s d x) = some (wr ρ d (.tree (.str (b2s l)))) := by
  simp [stepI, hx, bytesOf_map]
theorem shrL_map (he : ∀ x, (enc x).shr = enc' x) : ∀ l : List β, Tree.shrL (l.map enc) = l.map enc'
  | [] => rfl
  | a :: l => by simp only [List.map_cons, Tree.shrL, he, shrL_map he l]
theorem shr_sl {o : Bool} (he : ∀ x, (enc x).shr = enc' x) : (Tree.sl o sz (l.map enc)).shr = .sl false sz (l.map enc') := by
  simp only [Tree.shr, shrL_map he]
theorem noShL_map (he : ∀ x, (enc x).noSh = true) : ∀ l : List β, Tree.noShL (l.map enc) = true
  | [] => rfl
  | a :: l => by simp only [List.map_cons, Tree.noShL, he, noShL_map he l, Bool.and_self]
theorem noSh_sl (he : ∀ x, (enc x).noSh = true) : (Tree.sl true sz (l.map enc)).noSh = true := by
  simp only [Tree.noSh, noShL_map he, Bool.and_self, Bool.or_true]

theorem i_app {s : Opd} {ts tx : Tree} {w1 w2 : Env} {new q : List β} {o : Bool} (hx : take ρ E m x = some (tx, w1)) (htx : tx = .sl o sz (new.map enc)) (hs : take ρ (w1 ++ E) .move s = some (ts, w2)) (hts : ts = .sl true sz (l.map enc)) (h : app? l new = some q) :
    stepI σ ρ fix E (.app d sz s x m) = some (wr ρ d (.tree (.sl true sz (q.map enc))) ++ (w2 ++ w1)) := by
  unfold app? at h; split at h
  · cases h; subst htx hts; simp [stepI, hx, hs, *]
  · cases h
theorem i_appS {s : Opd} {ts : Tree} {w1 w2 : Env} {l : List Int} {a : List UInt8} {q : List Int} (hx : take ρ E m x = some (.str a, w1)) (hs : take ρ (w1 ++ E) .move s = some (ts, w2)) (hts : ts = .sl true 1 (l.map (Tree.int .u8)))
    (h : app? l (a.map fun b => (b.toNat : Int)) = some q) : stepI σ ρ fix E (.app d 1 s x m) = some (wr ρ d (.tree (.sl true 1 (q.map (Tree.int .u8)))) ++ (w2 ++ w1)) := by
  unfold app? at h; split at h
  · rename_i hc
    cases h; subst hts; simp at hc; simp [stepI, hx, hs, hc, Function.comp_def]
  · cases h

theorem i_slcS {s : List UInt8} {lo hi : Option Opd} {a b : Int} {q : List UInt8} (hx : peek E x = some (.str s)) (hlo : bound E 0 lo = asNat (.int .i64 a)) (hhi : bound E s.length hi = asNat (.int .i64 b)) (ht : take ρ E .copy x = some (.str s, []))
    (h : sub? s a b = some q) : stepI σ ρ fix E (.slc d true 0 x lo hi .copy) = some (wr ρ d (.tree (.str q)) ++ []) := by
  unfold sub? at h; split at h
  · rename_i hc
    cases h
    have h0 : 0 ≤ b := by omega
    simp only [stepI, ht, Option.bind_some, Tree.storable, if_true, Tree.shr, Tree.len, hlo, hhi, asNat, hc.1, h0]
    rw [if_pos ⟨by omega, by omega⟩]
  · cases h
theorem i_slc {t : Tree} {ws : Env} {o : Bool} {lo hi : Option Opd} {a b : Int} {q : List β} (he : ∀ x, (enc x).shr = enc' x) (ht : take ρ E m x = some (t, ws)) (htt : t = .sl o sz (l.map enc)) (hlo : bound E 0 lo = asNat (.int .i64 a)) (hhi : bound E l.length hi = asNat (.int .i64 b))
    (h : sub? l a b = some q) : stepI σ ρ fix E (.slc d false sz x lo hi m) = some (wr ρ d (.tree (.sl false sz (q.map enc'))) ++ ws) := by
  unfold sub? at h; split at h
  · rename_i hc
    cases h; subst htt
    have h0 : 0 ≤ b := by omega
    simp only [stepI, ht, Option.bind_some, Tree.storable, if_true, shr_sl he, Tree.len, Bool.false_eq_true, if_false, List.length_map, hlo, hhi, asNat, hc.1, h0]
    rw [if_pos ⟨by omega, by omega⟩]
    simp [List.map_take, List.map_drop]
  · cases h

/- places -/
theorem treeAt_of {T t : Tree} (hg : get E rt = .tree T) (h : T.tAt p = some t) : treeAt E rt p = some t := by simp only [treeAt, hg, h]
theorem tAt_cons {T t c : Tree} {s : Nat × Nat} (hk : T.kid s = some c) (h : c.tAt p = some t) : T.tAt (s :: p) = some t := by simp only [Tree.tAt, hk, Option.bind_some, h]
theorem elem_el {l : List β} {v : β} {n : Int} (h : at? l n = some v) : (Tree.sl true sz (l.map enc)).elem n.toNat = some (enc v) := map_at h
theorem kid_el {l : List β} {v : β} {n : Int} {j : Nat} {c : Tree} (h : at? l n = some v) (hc : (enc v).cells[j]? = some c) : (Tree.sl true sz (l.map enc)).kid (n.toNat, j) = some c := by
  simp only [Tree.kid, elem_el h, Option.bind_some, hc]
theorem upd_cons {T t c c' T' : Tree} {s : Nat × Nat} (hk : T.kid s = some c) (h : c.upd p t = some c') (hs : T.setCells s.1 s.2 [c'] = some T') : T.upd (s :: p) t = some T' := by simp only [Tree.upd, hk, Option.bind_some, h, hs]
theorem setCells_el {l : List β} {v v' : β} {n : Int} {j : Nat} {new : List Tree} (h : at? l n = some v) (hj : Nat.ble (j + new.length) (enc v).cells.length = true) (hw : (enc v).withCells (setRange (enc v).cells j new) = enc v') :
    (Tree.sl true sz (l.map enc)).setCells n.toNat j new = some (.sl true sz ((l.set n.toNat v').map enc)) := by
  simp only [Tree.setCells, map_at h, Option.bind_some]
  rw [if_pos (Nat.le_of_ble_eq_true hj), hw, List.map_set]

/-- a load at an own place: something plain -/
theorem i_loadP {agg : Bool} {mo : Option Md} {T nd e t : Tree} {a : Opd} {i j : Nat} {cs : List Tree} (ha : addrOf E a = some (.own rt p i j)) (hg : get E rt = .tree T) (hn : T.tAt p = some nd) (he : nd.elem i = some e) (hc : loadCells e.cells j sz = some cs)
    (h1 : oneOrAgg agg cs = some t) (hp : t.plain = true) : stepI σ ρ fix E (.load d agg sz a mo) = some (wr ρ d (.tree t)) := by
  simp [stepI, load, ha, loadOwn, hg, hn, he, hc, h1, hp]
/-- a load at an own place: something owned, borrowed -/
theorem i_loadB {mo : Option Md} {T nd e t : Tree} {a : Opd} {i j : Nat} {cs : List Tree} (ha : addrOf E a = some (.own rt p i j)) (hg : get E rt = .tree T) (hn : T.tAt p = some nd) (he : nd.elem i = some e) (hc : loadCells e.cells j sz = some cs)
    (h1 : oneOrAgg false cs = some t) (hp : t.plain = false) (hr : okRef ρ d rt (p ++ [(i, j)]) = true) : stepI σ ρ fix E (.load d false sz a mo) = some (wr ρ d (.bor rt (p ++ [(i, j)]))) := by
  simp [stepI, load, ha, loadOwn, hg, hn, he, hc, h1, hp, hr]
theorem i_fadrO {off : Nat} {a : Opd} {i j : Nat} {nd e : Tree} (ha : addrOf E a = some (.own rt p i j)) (hn : treeAt E rt p = some nd) (he : nd.elem i = some e) (hr : okRef ρ d rt p = true) :
    stepI σ ρ fix E (.fadr d off sz a) = some (wr ρ d (.adr rt p i (j + off))) := by
  simp [stepI, ha, hn, he, hr]
theorem i_nchkA {s i j : Nat} {nd e : Tree} (hs : get E s = .adr rt p i j) (hn : treeAt E rt p = some nd) (he : nd.elem i = some e) (hr : okRef ρ d rt p = true) :
    stepI σ ρ fix E (.nchk d (.v s)) = some (wr ρ d (.adr rt p i j)) := by
  simp [stepI, hs, hn, he, hr]
/-- a store -/
theorem i_store {a : Opd} {t T nd n' T' : Tree} {ws : Env} {i j : Nat} (ht : take ρ E m x = some (t, ws)) (hst : t.storable = true) (hl : t.cells.length = sz) (ha : addrOf (ws ++ E) a = some (.own rt p i j)) (hg : get (ws ++ E) rt = .tree T) (hn : T.tAt p = some nd)
    (hs : nd.setCells i j t.cells = some n') (hu : T.upd p n' = some T') : stepI σ ρ fix E (.store sz a x m) = some (chg ρ rt T' ++ ws) := by
  simp [stepI, store, ht, hst, hl, ha, hg, hn, hs, hu]

/- picks -/
theorem i_pickT {c a b : Opd} {q : Bool} {t : Tree} (hc : peek E c = some (.bool q)) (hq : q = true) (ha : peek E a = some t) (hp : t.plain = true) : stepI σ ρ fix E (.pick d c a b) = some (wr ρ d (.tree t)) := by
  subst hq; simp [stepI, hc, ha, hp]
theorem i_pickF {c a b : Opd} {q : Bool} {t : Tree} (hc : peek E c = some (.bool q)) (hq : q = false) (ha : peek E b = some t) (hp : t.plain = true) : stepI σ ρ fix E (.pick d c a b) = some (wr ρ d (.tree t)) := by
  subst hq; simp [stepI, hc, ha, hp]

/- freezing -/
theorem i_asgF {s : Nat} {t t' : Tree} (hg : get E s = .tree t) (hp : t.plain = false) (hs : t.shr = t') : stepI σ ρ fix E (.asg d (.v s) .freeze) = some (wr ρ d (.tree t') ++ chg ρ s t') := by
  simp [stepI, take, hg, hp, hs]
theorem i_asgFB {s : Nat} {T T' t t' : Tree} (hg : get E s = .bor rt p) (hr : get E rt = .tree T) (ht : T.tAt p = some t) (hs : t.shr = t') (hu : T.upd p t' = some T') : stepI σ ρ fix E (.asg d (.v s) .freeze) = some (wr ρ d (.tree t') ++ chg ρ rt T') := by
  simp [stepI, take, hg, hr, ht, hs, hu]

/- maps -/
theorem keyIx_lt' : ∀ {l : List Int} {kl : List (List Int)} {j : Nat}, keyIx l kl = some j → j < kl.length
  | l, [], j, h => by simp [keyIx] at h
  | l, k :: kl, j, h => by
    simp only [keyIx] at h
    split at h
    · simp only [Option.some.injEq] at h; subst h; simp
    · simp only [Option.map_eq_some_iff] at h
      obtain ⟨j', h1, rfl⟩ := h
      have := keyIx_lt' h1
      simp; omega
section
variable {κ : Type} {ek : κ → Tree} {ev : β → Tree} {kl : κ → List Int} {nk : Nat} {mp : List (κ × β)} {kk : κ}
theorem keysT_map (hk : ∀ a, keyT nk (ek a) = some (kl a)) : ∀ mp : List (κ × β), keysT nk (mp.map fun p => ek p.1) = some (mp.map fun p => kl p.1)
  | [] => rfl
  | p :: mp => by simp [keysT, hk, keysT_map hk mp]
theorem mset_map {mp : List (κ × β)} {i : Nat} {v : β} : (mset mp i v).map (fun p => ek p.1) = mp.map (fun p => ek p.1) ∧ (mset mp i v).map (fun p => ev p.2) = (mp.map fun p => ev p.2).set i (ev v) := by
  induction mp generalizing i with
  | nil => simp [mset]
  | cons p mp ih => cases i with
    | zero => simp [mset]
    | succ i => simp [mset, ih.1, ih.2]
theorem i_mapl (hx : peek E x = some (mpT ek ev mp)) : stepI σ ρ fix E (.mapl d x) = some (wr ρ d (.tree (.int .i64 mp.length))) := by
  simp [stepI, hx, mpT]
theorem i_mapg {zt : Tree} {z : β} (hk : ∀ a, keyT nk (ek a) = some (kl a)) (hz : zt = ev z) (hx : peek E x = some (mpT ek ev mp)) (hy : peek E y = some (ek kk)) :
    stepI σ ρ fix E (.mapg d true nk zt x y) = some (wr ρ d (.tree (.tup [ev (mget kl mp kk z), .bool (mhas kl mp kk)]))) := by
  simp only [stepI, hx, mpT, Option.bind_some, hy, hk, keysT_map hk, mget, mhas, mIx]
  cases hi : keyIx (kl kk) (mp.map fun p => kl p.1) with
  | none => simp [hz]
  | some i =>
    have hl := keyIx_lt' hi
    rw [List.length_map] at hl
    simp [hl]
theorem i_mapg1 {zt : Tree} {z : β} (hk : ∀ a, keyT nk (ek a) = some (kl a)) (hz : zt = ev z) (hx : peek E x = some (mpT ek ev mp)) (hy : peek E y = some (ek kk)) :
    stepI σ ρ fix E (.mapg d false nk zt x y) = some (wr ρ d (.tree (ev (mget kl mp kk z)))) := by
  simp only [stepI, hx, mpT, Option.bind_some, hy, hk, keysT_map hk, mget, mIx]
  cases hi : keyIx (kl kk) (mp.map fun p => kl p.1) with
  | none => simp [hz]
  | some i =>
    have hl := keyIx_lt' hi
    rw [List.length_map] at hl
    simp [hl]
theorem i_mapi {tv : Tree} {v : β} {ws : Env} {vo : Opd} (hk : ∀ a, keyT nk (ek a) = some (kl a)) (ht : take ρ E m vo = some (tv, ws)) (htv : tv = ev v) (hp : tv.plain = true) (hy : peek (ws ++ E) y = some (ek kk))
    (hpl : place (ws ++ E) x = some (rt, [])) (hg : get (ws ++ E) rt = .tree (mpT ek ev mp)) :
    stepI σ ρ fix E (.mapi nk x y vo m) = some (chg ρ rt (mpT ek ev (mput kl mp kk v)) ++ ws) := by
  simp only [stepI, ht, Option.bind_some, hp, if_true, hy, hk, hpl, hg, mpT, keysT_map hk, mput, mIx]
  cases hi : keyIx (kl kk) (mp.map fun p => kl p.1) with
  | none => simp [htv]
  | some i => simp only; rw [(mset_map (ek := ek) (ev := ev)).1, (mset_map (ek := ek) (ev := ev)).2, htv]
theorem plainL_map (he : ∀ x, (enc x).plain = true) : ∀ l : List β, Tree.plainL (l.map enc) = true
  | [] => rfl
  | a :: l => by simp [Tree.plainL, he, plainL_map he l]
theorem i_slo {t : Tree} {ws : Env} {a : Int} {q : List β} {lo : Opd} (he : ∀ x, (enc x).plain = true) (ht : take ρ E .move x = some (t, ws)) (htt : t = .sl true sz (l.map enc)) (hlo : peek E lo = some (.int k a)) (h : tail? l a = some q) :
    stepI σ ρ fix E (.slo d sz x lo) = some (wr ρ d (.tree (.sl true sz (q.map enc))) ++ ws) := by
  unfold tail? at h; split at h
  · rename_i hc
    cases h; subst htt
    have : a.toNat < l.length := by omega
    simp only [stepI, ht, hlo, asNat, hc.1, if_true, Option.bind_some, List.length_map, this, plainL_map he, and_self, List.map_drop]
  · cases h
end

/- calls -/
def Spec (σ : Oracle) (g : Nat) (args : List Tree) (D : Option α) (enc : α → Tree × List Tree) : Prop := ∀ x, D = some x → σ g args = some (enc x)

theorem spec_of {T : Nat → Option PFunc} {ext : Oracle} {dd g : Nat} {pf : PFunc} {args : List Tree} {D : Option α} {er : α → Env} {ts : α → List Tree} {os : α → List Tree} (hT : T g = some pf) (hio : ioOk args pf.io = true)
    (h : Sim D (run (ev T ext dd) pf.body [] (argEnv args 0)) (fun r => (.ret, er r))) (hres : ∀ r, resAll (er r) pf.res = some (ts r)) (hout : ∀ r, outAll (er r) pf.io 0 = some (os r)) :
    Spec (ev T ext (dd + 1)) g args D (fun r => (resTree (ts r), os r)) := by
  intro x hx
  have := h x hx
  simp only [run, unw, Option.bind_eq_some_iff, Option.some.injEq] at this
  obtain ⟨r, h1, h2⟩ := this
  simp only [ev, hT, runF, hio, if_true, h1, Option.bind_some]
  obtain ⟨e, F⟩ := r
  simp only [Prod.mk.injEq] at h2
  obtain ⟨rfl, rfl⟩ := h2
  simp only [hres, Option.bind_some, hout]

theorem ca_nil : callArgs ρ E [] = some [] := rfl
theorem ca_v {t : Tree} {xs : List (Opd × Bool)} {ts : List Tree} (h : peekArg E x = some t) (hp : t.plain = true) (hr : callArgs ρ E xs = some ts) : callArgs ρ E ((x, false) :: xs) = some (t :: ts) := by
  simp only [callArgs, h, Option.bind_some, hp, if_true, hr]
theorem ca_io {t : Tree} {xs : List (Opd × Bool)} {ts : List Tree} (hpl : place E x = some (rt, p)) (h : treeAt E rt p = some t) (hp : t.plain = false) (hr : callArgs ρ E xs = some ts) : callArgs ρ E ((x, true) :: xs) = some (t :: ts) := by
  simp only [callArgs, hpl, Option.bind_some, h, hp, Bool.false_eq_true, if_false, hr]
theorem pa_v {s : Nat} {t t' : Tree} (h : get E s = .tree t) (hs : t.shr = t') : peekArg E (.v s) = some t' := by simp only [peekArg, h, hs]
theorem pa_b {s : Nat} {t t' : Tree} (h : get E s = .bor rt p) (ht : treeAt E rt p = some t) (hs : t.shr = t') : peekArg E (.v s) = some t' := by simp only [peekArg, h, ht, hs, Option.bind_some]
theorem pa_c {t t' : Tree} (hs : t.shr = t') : peekArg E (.c t) = some t' := by simp only [peekArg, hs]

theorem i_call {dst : Option Nat} {g : Nat} {args : List (Opd × Bool)} {ts : List Tree} {D : Option β} {en : β → Tree × List Tree} {xv : β} {t : Tree} {fz : Bool} {outs : List Tree} {w1 w2 : Env} (hs : Spec σ g ts D en) (hD : D = some xv) (hen : en xv = (t, outs)) (ha : callArgs ρ E args = some ts)
    (hr : rootsOk ρ E args = true) (hw : (if fz then freezeRoots ρ E (bvRoots E args) else if t.noSh && Tree.noShL outs then some [] else none) = some w1) (hb : backArgs ρ (w1 ++ E) args outs = some w2) :
    stepI σ ρ fix E (.call dst g fz args) = some (putRes ρ dst t ++ (w2 ++ w1)) := by
  have h1 := hs xv hD
  rw [hen] at h1
  simp only [stepI, callOp, ha, Option.bind_some, hr, if_true, h1, hw, hb]
theorem rechunk_flat {enc : β → Tree} (hagg : ∀ y, enc y = .agg (enc y).cells) : ∀ l : List β, rechunk (l.map enc) (flatCs (l.map enc)) = l.map enc
  | [] => rfl
  | y :: l => by
    simp only [List.map_cons, flatCs, rechunk]
    rw [List.take_left' rfl, List.drop_left' rfl, rechunk_flat hagg l, ← hagg y]
/-- a call with the address of a list's first element -/
theorem i_calle {γ : Type} {dst : Option Nat} {g a s r ra : Nat} {ta ta' t : Tree} {enc : β → Tree} {l : List β} {x x' : β} {D : Option γ} {en : List Tree → γ → Tree × List Tree} {v : γ}
    (hs : ∀ rest, Spec σ g [ta, .ptr true ((enc x).cells ++ rest)] D (en rest)) (hD : D = some v) (hen : ∀ rest, en rest v = (t, [ta', .ptr true ((enc x').cells ++ rest)]))
    (gs : get E s = .adr r [] 0 0) (gp : place E (.v a) = some (ra, [])) (ga : get E ra = .tree ta) (gr : get E r = .tree (.sl true sz (l.map enc))) (hne : ra ≠ r) (hp : ta.plain = false) (ho : ta.ownTop = true)
    (h1 : ρ.all (fun e => e.1 != ra) = true) (h2 : ρ.all (fun e => e.1 != r) = true) (hz : ta'.szOf = ta.szOf) (hx : at? l 0 = some x) (hagg : ∀ y, enc y = .agg (enc y).cells) (hlen : (enc x').cells.length = (enc x).cells.length) :
    stepI σ ρ fix E (.calle dst g a s) = some (putRes ρ dst t ++ (chg ρ r (.sl true sz ((l.set 0 x').map enc)) ++ chg ρ ra ta')) := by
  obtain ⟨l1, rfl⟩ : ∃ l1, l = x :: l1 := by
    cases l with
    | nil => simp [at?] at hx
    | cons y l1 => simp only [at?, Int.le_refl, if_true, Int.toNat_zero, List.getElem?_cons_zero, Option.some.injEq] at hx; exact ⟨l1, by rw [hx]⟩
  have h3 := hs (flatCs (l1.map enc)) v hD
  rw [hen] at h3
  simp only [stepI, gs, gp, ga, gr]
  rw [if_pos ⟨hne, hp, ho, rfl, h1, h2⟩]
  simp only [List.map_cons, flatCs] at h3 ⊢
  rw [h3]
  simp only [Option.bind_some]
  rw [if_pos ⟨hz, by simp only [List.length_append, hlen]⟩]
  simp only [rechunk, List.set_cons_zero, List.map_cons]
  rw [List.take_left' hlen, List.drop_left' hlen, rechunk_flat hagg l1, ← hagg x']
/-- a call that only reads, its result shares nothing -/
theorem i_call0 {dst : Option Nat} {g : Nat} {args : List (Opd × Bool)} {ts : List Tree} {D : Option β} {en : β → Tree × List Tree} {xv : β} {t : Tree} (hs : Spec σ g ts D en) (hD : D = some xv) (hen : en xv = (t, [])) (ha : callArgs ρ E args = some ts)
    (hr : rootsOk ρ E args = true) (hn : t.noSh = true) (hb : backArgs ρ E args [] = some []) : stepI σ ρ fix E (.call dst g false args) = some (putRes ρ dst t ++ ([] ++ [])) :=
  i_call hs hD hen ha hr (by simp [hn, Tree.noShL]) hb
end
/- more -/
def bit_and (k : IntKind) (a b : Int) : Int := k.wrap (BitVec.ofInt k.bits a &&& BitVec.ofInt k.bits b).toNat
def bit_or (k : IntKind) (a b : Int) : Int := k.wrap (BitVec.ofInt k.bits a ||| BitVec.ofInt k.bits b).toNat
def bit_andNot (k : IntKind) (a b : Int) : Int := k.wrap (BitVec.ofInt k.bits a &&& ~~~BitVec.ofInt k.bits b).toNat
def bit_xor (k : IntKind) (a b : Int) : Int := k.wrap (BitVec.ofInt k.bits a ^^^ BitVec.ofInt k.bits b).toNat

section
variable {σ : Oracle} {ρ : Roots} {fix keep : List Nat} {E F K : Env} {d sz : Nat} {x y i : Opd} {rt : Nat} {p : Path} {m : Md}
theorem pk_b {s : Nat} {t : Tree} (hg : get E s = .bor rt p) (h : treeAt E rt p = some t) : peek E (.v s) = some t := by simp [peek, hg, h]
theorem bfalse {b : Bool} (h : ¬ b = true) : b = false := by simpa using h
theorem not_of {b c : Bool} (h : b = c) : (!b) = !c := by rw [h]
theorem take_frz {s : Nat} {t t' : Tree} (hg : get E s = .tree t) (hp : t.plain = false) (hs : t.shr = t') : take ρ E .freeze (.v s) = some (t', chg ρ s t') := by simp [take, hg, hp, hs]
theorem take_frzB {s : Nat} {T T' t t' : Tree} (hg : get E s = .bor rt p) (hr : get E rt = .tree T) (ht : T.tAt p = some t) (hs : t.shr = t') (hu : T.upd p t' = some T') : take ρ E .freeze (.v s) = some (t', chg ρ rt T') := by
  simp [take, hg, hr, ht, hs, hu]
theorem take_cpB {s : Nat} {T t : Tree} (hg : get E s = .bor rt p) (hr : get E rt = .tree T) (ht : T.tAt p = some t) (hp : t.plain = true) : take ρ E .copy (.v s) = some (t, []) := by
  simp [take, hg, hr, ht, hp]
theorem i_asg {t : Tree} {ws : Env} (h : take ρ E m x = some (t, ws)) : stepI σ ρ fix E (.asg d x m) = some (wr ρ d (.tree t) ++ ws) := by simp [stepI, h]
theorem i_box {t : Tree} {ws : Env} (h : take ρ E m x = some (t, ws)) (hs : t.storable = true) : stepI σ ρ fix E (.box d x m) = some (wr ρ d (.tree (.ptr true t.cells)) ++ ws) := by simp [stepI, h, hs]
theorem bound_of {o : Opd} {n : Nat} {t : Tree} (h : peek E o = some t) : bound E n (some o) = asNat t := by simp [bound, h]
theorem bnd_len {n : Nat} : bound E n none = asNat (.int .i64 (n : Int)) := by simp [bound, asNat]
theorem w_no {t : Tree} {outs : List Tree} {ws : Option Env} (h1 : t.noSh = true) (h2 : Tree.noShL outs = true) : (if false = true then ws else if t.noSh && Tree.noShL outs then some [] else none) = some [] := by simp [h1, h2]
theorem w_fz {t : Tree} {outs : List Tree} {ws : Option Env} {w : Env} (h : ws = some w) : (if true = true then ws else if t.noSh && Tree.noShL outs then some [] else none) = some w := by simp [h]
theorem fr_nil : freezeRoots ρ E [] = some [] := rfl
theorem fr_skip {r : Nat} {rs : List Nat} {T : Tree} {w : Env} (hg : get E r = .tree T) (hp : T.plain = true) (h : freezeRoots ρ E rs = some w) : freezeRoots ρ E (r :: rs) = some w := by simp [freezeRoots, hg, hp, h]
theorem fr_frz {r : Nat} {rs : List Nat} {T T' : Tree} {w : Env} (hg : get E r = .tree T) (hp : T.plain = false) (hs : T.shr = T') (h : freezeRoots ρ (chg ρ r T' ++ E) rs = some w) : freezeRoots ρ E (r :: rs) = some (w ++ chg ρ r T') := by
  simp [freezeRoots, hg, hp, hs, h]
theorem shrL_cons {t t' : Tree} {ts ts' : List Tree} (h : t.shr = t') (h2 : Tree.shrL ts = ts') : Tree.shrL (t :: ts) = t' :: ts' := by simp [Tree.shrL, h, h2]
theorem shr_agg {cs cs' : List Tree} (h : Tree.shrL cs = cs') : (Tree.agg cs).shr = .agg cs' := by simp [Tree.shr, h]
theorem shr_tup {cs cs' : List Tree} (h : Tree.shrL cs = cs') : (Tree.tup cs).shr = .tup cs' := by simp [Tree.shr, h]
theorem shr_ptr {o : Bool} {cs cs' : List Tree} (h : Tree.shrL cs = cs') : (Tree.ptr o cs).shr = .ptr false cs' := by simp [Tree.shr, h]
theorem noShL_cons {t : Tree} {ts : List Tree} (h : t.noSh = true) (h2 : Tree.noShL ts = true) : Tree.noShL (t :: ts) = true := by simp [Tree.noShL, h, h2]
theorem noSh_agg {cs : List Tree} (h : Tree.noShL cs = true) : (Tree.agg cs).noSh = true := by simp [Tree.noSh, h]
theorem noSh_tup {cs : List Tree} (h : Tree.noShL cs = true) : (Tree.tup cs).noSh = true := by simp [Tree.noSh, h]
theorem noSh_ptr {cs : List Tree} (h : Tree.noShL cs = true) : (Tree.ptr true cs).noSh = true := by simp [Tree.noSh, h]
/-- a load of an aggregate that holds owned memory: frozen where it lies -/
theorem i_loadF {T nd e n' T' : Tree} {a : Opd} {i j : Nat} {cs cs' : List Tree} (ha : addrOf E a = some (.own rt p i j)) (hg : get E rt = .tree T) (hn : T.tAt p = some nd) (he : nd.elem i = some e) (hc : loadCells e.cells j sz = some cs)
    (hp : (Tree.agg cs).plain = false) (hs : Tree.shrL cs = cs') (hn' : nd.setCells i j cs' = some n') (hu : T.upd p n' = some T') :
    stepI σ ρ fix E (.load d true sz a (some .freeze)) = some (wr ρ d (.tree (.agg cs')) ++ chg ρ rt T') := by
  simp [stepI, load, ha, loadOwn, hg, hn, he, hc, oneOrAgg, hp, hs, hn', hu, Tree.shr]
end
section
variable {σ : Oracle} {ρ : Roots} {fix keep : List Nat} {E F K : Env} {d sz : Nat} {x y i : Opd} {rt : Nat} {p : Path} {m : Md} {β : Type} {enc enc' : β → Tree} {l : List β} {v v' : β} {n : Int} {j : Nat} {new : List Tree}
/- an element whose part is gone for a while -/
theorem setCells_raw (h : at? l n = some v) (hj : Nat.ble (j + new.length) (enc v).cells.length = true) :
    (Tree.sl true sz (l.map enc)).setCells n.toNat j new = some (.sl true sz ((l.map enc).set n.toNat ((enc v).withCells (setRange (enc v).cells j new)))) := by
  simp only [Tree.setCells, map_at h, Option.bind_some]
  rw [if_pos (Nat.le_of_ble_eq_true hj)]
theorem setCells_hole {e : Tree} (h : at? l n = some v) (hj : Nat.ble (j + new.length) e.cells.length = true) (hw : e.withCells (setRange e.cells j new) = enc v') :
    (Tree.sl true sz ((l.map enc).set n.toNat e)).setCells n.toNat j new = some (.sl true sz ((l.set n.toNat v').map enc)) := by
  have hlt : n.toNat < ((l.map enc).set n.toNat e).length := by simpa using at_lt h
  have he : ((l.map enc).set n.toNat e)[n.toNat]? = some e := by
    rw [List.getElem?_eq_getElem hlt, List.getElem_set_self]
  simp only [Tree.setCells, he, Option.bind_some]
  rw [if_pos (Nat.le_of_ble_eq_true hj), hw, List.set_set, List.map_set]
theorem i_iadrH {k : IntKind} {q : Nat} {e : Tree} (hx : peek E x = some (.sl true sz ((l.map enc).set q e))) (hp : place E x = some (rt, p)) (hi : peek E i = some (.int k n)) (h : at? l n = some v) (hr : okRef ρ d rt p = true) :
    stepI σ ρ fix E (.iadr d sz x i) = some (wr ρ d (.adr rt p n.toNat 0)) := iadr_ow hx hp hi (at_some h).1 (by simpa using at_lt h) hr
theorem upd_dead {β : Type} {enc : β → Tree} {l : List β} {v : β} {n : Int} {sz : Nat} (h : at? l n = some v) (hc : (enc v).cells = [enc v]) (hw : (enc v).withCells [.dead] = .dead) :
    (Tree.sl true sz (l.map enc)).upd [(n.toNat, 0)] .dead = some (.sl true sz ((l.map enc).set n.toNat .dead)) := by
  have hk := kid_el (sz := sz) (enc := enc) (j := 0) (c := enc v) h (by rw [hc]; rfl)
  simp only [Tree.upd, hk, Option.bind_some, Tree.setCells, map_at h, hc]
  rw [if_pos (by simp)]
  simp [setRange, hw]
theorem take_mvB {s : Nat} {T T' t : Tree} (hg : get E s = .bor rt p) (hr : get E rt = .tree T) (ht : T.tAt p = some t) (hu : T.upd p .dead = some T') : take ρ E .move (.v s) = some (t, chg ρ rt T') := by
  simp [take, hg, hr, ht, hu]
theorem i_mksl1 {z t : Tree} {ws : Env} (h : take ρ E m x = some (t, ws)) (hs : (t.storable && Nat.beq t.cells.length sz) = true) : stepI σ ρ fix E (.mksl d sz z 1 [(0, x, m)]) = some (wr ρ d (.tree (.sl true sz [t])) ++ ws) := by
  rw [Bool.and_eq_true] at hs
  simp [stepI, takeElems, h, hs.1, Nat.eq_of_beq_eq_true hs.2]
/- in-and-out arguments laid back -/
theorem ba_nil : backArgs ρ E [] [] = some [] := rfl
theorem ba_v {xs : List (Opd × Bool)} {ts : List Tree} {ws : Env} (h : backArgs ρ E xs ts = some ws) : backArgs ρ E ((x, false) :: xs) ts = some ws := h
theorem ba_io {xs : List (Opd × Bool)} {ts : List Tree} {ws : Env} {T T' t t0 : Tree} (hp : place E x = some (rt, p)) (hg : get E rt = .tree T) (ht : T.tAt p = some t0) (ho : t0.ownTop = true) (hs : t.szOf = t0.szOf) (hu : T.upd p t = some T')
    (h : backArgs ρ E xs ts = some ws) : backArgs ρ E ((x, true) :: xs) (t :: ts) = some (chg ρ rt T' ++ ws) := by
  simp [backArgs, hp, hg, ht, ho, hs, hu, h]
theorem ba_ioD {xs : List (Opd × Bool)} {ts : List Tree} {ws : Env} {T T' t0 : Tree} (hp : place E x = some (rt, p)) (hg : get E rt = .tree T) (ht : T.tAt p = some t0) (ho : t0.ownTop = true) (hu : T.upd p .dead = some T')
    (h : backArgs ρ E xs ts = some ws) : backArgs ρ E ((x, true) :: xs) (Tree.dead :: ts) = some (chg ρ rt T' ++ ws) := by
  simp [backArgs, hp, hg, ht, ho, Tree.isDead, hu, h]
end
/- function values -/
structure FnOk {α β : Type} (σ : Oracle) (g : Nat) (caps : List Tree) (f : α → Option β) (ea : α → List Tree) (er : β → Tree) : Prop where
  sh : Tree.shrL caps = caps
  pl : Tree.plainL caps = true
  sp : ∀ x, Spec σ g (ea x ++ caps) (f x) (fun r => (er r, []))

theorem fn_up {α β : Type} {T : Nat → Option PFunc} {ext : Oracle} {g : Nat} {caps : List Tree} {f : α → Option β} {ea : α → List Tree} {er : β → Tree} (k : Nat) {c : Nat} (h : ∀ d, FnOk (ev T ext (d + k)) g caps f ea er) :
    ∀ e, FnOk (ev T ext (c + k + e)) g caps f ea er := fun e => by
  have := h (c + e); rwa [Nat.add_right_comm] at this
theorem fn_dn {α β : Type} {T : Nat → Option PFunc} {ext : Oracle} {g : Nat} {caps : List Tree} {f : α → Option β} {ea : α → List Tree} {er : β → Tree} {d c : Nat} (h : ∀ e, FnOk (ev T ext (d + e)) g caps f ea er) :
    ∀ e, FnOk (ev T ext (d + c + e)) g caps f ea er := fun e => by
  have := h (c + e); rwa [← Nat.add_assoc] at this

section
variable {σ : Oracle} {ρ : Roots} {fix keep : List Nat} {E F K : Env} {d : Nat} {x : Opd}
theorem shr_fn {g : Nat} {cs cs' : List Tree} (h : Tree.shrL cs = cs') : (Tree.fn g cs).shr = .fn g cs' := by simp [Tree.shr, h]
theorem i_mvP {s : Nat} {t : Tree} (hg : get E s = .tree t) (hp : t.plain = true) : stepI σ ρ fix E (.mv d (.v s)) = some (wr ρ d (.tree t)) := by simp [stepI, hg, hp]
theorem pa_clo {s g : Nat} {caps : List Nat} {ts ts' : List Tree} (hg : get E s = .clo g caps) (h : capTrees E caps = some ts) (hs : Tree.shrL ts = ts') : peekArg E (.v s) = some (.fn g ts') := by simp [peekArg, hg, h, hs]
theorem pa_adr {s rt i j : Nat} {p : Path} {nd e : Tree} {cs : List Tree} (hg : get E s = .adr rt p i j) (hn : treeAt E rt p = some nd) (he : nd.elem i = some e) (hs : Tree.shrL (e.cells.drop j) = cs) : peekArg E (.v s) = some (.ptr false cs) := by simp [peekArg, hg, hn, he, hs]
theorem pas_nil : peekArgs E [] = some [] := rfl
theorem pas_cons {t : Tree} {xs : List Opd} {ts : List Tree} (h : peekArg E x = some t) (hp : t.plain = true) (hr : peekArgs E xs = some ts) : peekArgs E (x :: xs) = some (t :: ts) := by
  simp only [peekArgs, h, Option.bind_some, hp, if_true, hr]
theorem i_callv {α β : Type} {dst : Option Nat} {fv : Opd} {args : List Opd} {ts : List Tree} {g : Nat} {caps : List Tree} {f : α → Option β} {ea : α → List Tree} {er : β → Tree} {a : α} {v : β} {t : Tree} (hs : FnOk σ g caps f ea er) (hD : f a = some v) (hf : peekArg E fv = some (.fn g caps))
    (ha : peekArgs E args = some ts) (hts : ts = ea a) (ht : er v = t) (hp : t.plain = true) (hn : t.noSh = true) : stepI σ ρ fix E (.callv dst fv args) = some (putRes ρ dst t) := by
  have := hs.sp a v hD
  subst hts ht
  simp [stepI, ha, hf, hs.pl, this, hp, hn]
end
/-- a function whose captured cells change: told by their state -/
structure FnSt {τ : Type} (σ : Oracle) (g : Nat) (caps : τ → List Tree) (f : List Int → τ → Option τ) : Prop where
  np : ∀ x, (caps x).all (fun t => !t.plain) = true
  ne : ∀ x, (caps x).isEmpty = false
  sp : ∀ a x x', f a x = some x' → σ g (.sl false 1 (a.map (Tree.int .i64)) :: caps x) = some (.tup [], caps x')
theorem FnSt.npl {τ : Type} {σ : Oracle} {g : Nat} {caps : τ → List Tree} {f : List Int → τ → Option τ} (h : FnSt σ g caps f) (x : τ) : Tree.plainL (caps x) = false := by
  have h1 := h.np x
  have h2 := h.ne x
  cases hc : caps x with
  | nil => rw [hc] at h2; cases h2
  | cons t ts =>
    rw [hc] at h1
    simp only [List.all_cons, Bool.and_eq_true, Bool.not_eq_true'] at h1
    simp [Tree.plainL, h1.1]
theorem FnSt.nplt {τ : Type} {σ : Oracle} {g : Nat} {caps : τ → List Tree} {f : List Int → τ → Option τ} (h : FnSt σ g caps f) (x : τ) : (Tree.fn g (caps x)).plain = false := h.npl x
theorem fst_up {τ : Type} {T : Nat → Option PFunc} {ext : Oracle} {g : Nat} {caps : τ → List Tree} {f : List Int → τ → Option τ} (k : Nat) {c : Nat} (h : ∀ d, FnSt (ev T ext (d + k)) g caps f) :
    ∀ e, FnSt (ev T ext (c + k + e)) g caps f := fun e => by
  have := h (c + e); rwa [Nat.add_right_comm] at this
section
variable {σ : Oracle} {ρ : Roots} {fix : List Nat} {E : Env}
theorem i_mvN {d s : Nat} {t : Tree} (hg : get E s = .tree t) (hp : t.plain = false) (hr : okRef ρ d s [] = true) : stepI σ ρ fix E (.mv d (.v s)) = some (wr ρ d (.bor s [])) := by simp [stepI, hg, hp, hr]
theorem i_callo {τ : Type} {dst : Option Nat} {s r g : Nat} {args : List Opd} {ts : List Tree} {caps : τ → List Tree} {f : List Int → τ → Option τ} {a : List Int} {x x' : τ} (hs : FnSt σ g caps f) (hD : f a x = some x') (hpl : plainArgs E args = true)
    (hp : place E (.v s) = some (r, [])) (hg : get E r = .tree (.fn g (caps x))) (hρ : (ρ.all fun e => e.1 != r) = true) (ha : peekArgs E args = some ts) (hts : ts = [.sl false 1 (a.map (Tree.int .i64))]) :
    stepI σ ρ fix E (.callo dst s args) = some (putRes ρ dst (.tup []) ++ chg ρ r (.fn g (caps x'))) := by
  have h1 := hs.sp a x x' hD
  subst hts
  have hpt : (Tree.tup []).plain = true := rfl
  simp only [stepI, hpl, if_true, hp, Option.bind_some, hg, Tree.fnOf, ha, List.singleton_append, h1, hpt]
  rw [if_pos ⟨hs.np x, hs.ne x, hρ⟩]
theorem i_callc {τ : Type} {dst : Option Nat} {u s g : Nat} {caps : List Nat} {args : List Opd} {ts : List Tree} {cs : τ → List Tree} {x x' : τ} {D : Option τ} {args' : List Tree} {en : τ → Tree × List Tree} (hS : Spec σ u args' D en) (hD : D = some x') (hs : get E s = .clo g caps) (hc : nodupB caps = true) (hb : noBor ρ caps = true) (hpl : plainArgs E args = true)
    (ha : peekArgs E args = some ts) (ho : ownTrees E caps = some (cs x)) (hargs : ts ++ [.fn g (cs x)] = args') (hen : en x' = (.tup [], [.fn g (cs x')])) (hz : szAll (cs x') (cs x) = true) :
    stepI σ ρ fix E (.callc dst u args s caps) = some (putRes ρ dst (.tup []) ++ chgAll ρ caps (cs x')) := by
  have hσ : σ u (ts ++ [.fn g (cs x)]) = some (.tup [], [.fn g (cs x')]) := by rw [hargs, ← hen]; exact hS x' hD
  have hpt : (Tree.tup []).plain = true := rfl
  have h0 : (caps == caps && nodupB caps && noBor ρ caps && plainArgs E args) = true := by simp [hc, hb, hpl]
  simp only [stepI, hs, h0, if_true, ha, ho, Option.bind_some, hσ, Tree.fnOf]
  rw [if_pos ⟨trivial, hz, hpt⟩]
end
/- functions without results: they may end without a return -/
theorem get_keep' (ks : List Nat) (E : Env) (s : Nat) : get (keepE ks E) s = if s ∈ ks then get E s else .undef := by
  induction ks with
  | nil => simp [keepE, get]
  | cons k ks ih =>
    simp only [keepE, List.map_cons, get] at ih ⊢
    by_cases hk : k = s
    · subst hk; simp
    · have : ¬ s = k := fun e => hk e.symm
      simp only [hk, if_false, ih, List.mem_cons, this, false_or]
def ioIn (ls : List Nat) : List Bool → Nat → Bool
  | [], _ => true
  | b :: bs, i => (!b || ls.contains i) && ioIn ls bs (i + 1)
theorem outAll_keep {ls : List Nat} {E : Env} : ∀ (io : List Bool) (i : Nat), ioIn ls io i = true → outAll (keepE ls E) io i = outAll E io i
  | [], i, _ => rfl
  | false :: bs, i, h => by
    simp only [ioIn, Bool.not_false, Bool.true_or, Bool.true_and] at h
    simp only [outAll]; exact outAll_keep bs (i + 1) h
  | true :: bs, i, h => by
    simp only [ioIn, Bool.not_true, Bool.false_or, Bool.and_eq_true] at h
    have hm : i ∈ ls := by simpa using h.1
    simp only [outAll, get_keep', hm, if_true, outAll_keep bs (i + 1) h.2]
theorem spec_ofV {α : Type} {T : Nat → Option PFunc} {ext : Oracle} {dd g : Nat} {pf : PFunc} {args : List Tree} {D : Option α} {ls : List Nat} {er : α → Env} {os : α → List Tree} (hT : T g = some pf) (hio : ioOk args pf.io = true) (hr : pf.res = []) (hl : ioIn ls pf.io 0 = true)
    (h : Sim D (run (ev T ext dd) pf.body [.sq (.ret ls)] (argEnv args 0)) (fun r => (.ret, er r))) (hout : ∀ r, outAll (er r) pf.io 0 = some (os r)) (hk : ∀ r, keepE ls (er r) = er r) :
    Spec (ev T ext (dd + 1)) g args D (fun r => (.tup [], os r)) := by
  intro x hx
  have := h x hx
  simp only [run, Option.bind_eq_some_iff] at this
  obtain ⟨⟨e, F⟩, h1, h2⟩ := this
  simp only [ev, hT, runF, hio, if_true, h1, Option.bind_some, hr, resAll]
  have key : (e = .nrm ∨ e = .ret) ∧ outAll F pf.io 0 = some (os x) := by
    cases e with
    | nrm =>
      simp only [unw, evC, Option.bind_some, Option.some.injEq, Prod.mk.injEq, true_and] at h2
      exact ⟨.inl rfl, by rw [← outAll_keep _ _ hl, h2, hout]⟩
    | ret =>
      simp only [unw, Option.some.injEq, Prod.mk.injEq, true_and] at h2
      exact ⟨.inr rfl, by rw [h2, hout]⟩
    | exit i => simp only [unw, Option.some.injEq, Prod.mk.injEq, reduceCtorEq, false_and] at h2
  rcases key.1 with rfl | rfl <;> simp [key.2, resTree]
end Go.Vs
/- What the library's functions answer, known by their contracts: an oracle beside the interpreter. -/
namespace Go.Vs
open Go Go.Sort

section
variable {ids : Ids} {S : Nat → Prop} {w : World} {k : IntKind}
theorem repEs_list : ∀ (l : List Int) (b off : Nat) (ob : List Nat), RepEs ids S w (l.map (Tree.int k)) 1 b off ob ↔ ob = [] ∧ ∀ j (h : j < l.length), w.cell? ⟨b, off + j, none⟩ = some (.int k l[j])
  | [], b, off, ob => by simp [RepEs]
  | n :: l, b, off, ob => by
    constructor
    · intro h
      rw [List.map_cons] at h
      unfold RepEs at h
      obtain ⟨ob1, ob2, h1, h2, rfl⟩ := h
      rw [RepE] at h1
      · obtain ⟨_, v, ⟨hc, _⟩, hv⟩ := h1
        rw [Rep] at hv
        obtain ⟨rfl, rfl⟩ := hv
        obtain ⟨rfl, h3⟩ := (repEs_list l b (off + 1) ob2).1 h2
        refine ⟨rfl, fun j hj => ?_⟩
        cases j with
        | zero => exact hc
        | succ j =>
          have := h3 j (by simpa using hj)
          rw [show off + (j + 1) = off + 1 + j by omega]
          exact this
      · intro cs h; cases h
    · rintro ⟨rfl, h⟩
      rw [List.map_cons]
      unfold RepEs
      refine ⟨[], [], ?_, (repEs_list l b (off + 1) []).2 ⟨rfl, fun j hj => ?_⟩, rfl⟩
      · rw [RepE]
        · exact ⟨rfl, _, ⟨h 0 (by simp), rfl⟩, by rw [Rep]; exact ⟨rfl, rfl⟩⟩
        · intro cs h; cases h
      · have := h (j + 1) (by simpa using hj)
        rw [show off + 1 + j = off + (j + 1) by omega]
        exact this
end
theorem heap_putRow {α : Type} [Inhabited α] (enc : α → Value) (w : World) (blk off : Nat) (d : Array α) (j : Nat) : (putRow enc w blk off d).heap[j]? = if blk = j then (w.heap[j]?).map (onCells (putCells enc off d)) else w.heap[j]? := by
  simp only [putRow, mapBlock, Array.getElem?_modify]
theorem own_putRow {α : Type} [Inhabited α] {enc : α → Value} {w : World} {b off n m : Nat} {d : Array α} {os : Array Obj} (h : OwnBlk w b n) : OwnBlk (grow (putRow enc (Sort.ahead w m) b off d) os) b n := by
  obtain ⟨arr, ety, fz, h1, h2, h3⟩ := h
  have hb : b < w.heap.size := (Array.getElem?_eq_some_iff.1 h1).1
  refine ⟨putCells enc off d arr, ety, fz, ?_, by simp [putCells, h2], h3⟩
  rw [heap_grow_old _ _ (by simpa [Sort.ahead] using hb), heap_putRow, if_pos rfl]
  show (w.heap[b]?).map _ = _
  rw [h1]; rfl
theorem evo_putRow {α : Type} [Inhabited α] {enc : α → Value} {w : World} {b off m : Nat} {d : Array α} {os : Array Obj} {A : Nat → Prop} (hA : A b) : Evo A w (grow (putRow enc (Sort.ahead w m) b off d) os) := by
  refine ⟨rfl, rfl, rfl, by simp [Sort.ahead], fun j hj hna => ?_, fun x m hx => ?_⟩
  · rw [heap_grow_old _ _ (by simpa [Sort.ahead] using hj), heap_putRow, if_neg (by rintro rfl; exact hna hA)]
    rfl
  · by_cases he : x = b
    · subst he; exact own_putRow hx
    · refine hx.congr ?_
      rw [heap_grow_old _ _ (by simpa [Sort.ahead] using hx.lt), heap_putRow, if_neg (by rintro rfl; exact he rfl)]
      rfl
theorem own_to {α : Type} [Inhabited α] {enc : α → Value} {w : World} {b off n m : Nat} {d : Array α} {os : Array Obj} (h : OwnTo w b n) : OwnTo (grow (putRow enc (Sort.ahead w m) b off d) os) b n := by
  obtain ⟨q, h1, h2⟩ := h
  exact ⟨q, h1, own_putRow h2⟩
theorem holds_of {ids : Ids} {S : Nat → Prop} {w : World} {k : IntKind} {b off cap : Nat} {zs : List Int} {ob : List Nat} (hO : OwnTo w b (off + cap * 1)) (hcap : zs.length ≤ cap) (h : RepEs ids S w (zs.map (Tree.int k)) 1 b off ob) : ob = [] ∧ Holds (Value.int k) w b off zs.toArray := by
  obtain ⟨h1, h2⟩ := (repEs_list zs b off ob).1 h
  refine ⟨h1, fun j hj => ?_⟩
  have hj' : j < zs.length := by simpa using hj
  refine ⟨by rw [h2 j hj']; simp [hj'], ?_⟩
  obtain ⟨m, hm, arr, ety, fz, g1, g2, g3⟩ := hO
  have := g3 (off + j) (by omega)
  simp only [World.frozen?, g1]
  simp only [Bool.and_eq_false_iff, decide_eq_false_iff_not]
  omega
theorem cells_putRow {w : World} {k : IntKind} {b off m : Nat} {zs ys : List Int} (hH : Holds (Value.int k) w b off zs.toArray) (hl : ys.length = zs.length) :
    ∀ j (h : j < ys.length), (putRow (Value.int k) (Sort.ahead w m) b off ys.toArray).cell? ⟨b, off + j, none⟩ = some (.int k ys[j]) := by
  intro j hj
  have hH' : Holds (Value.int k) (Sort.ahead w m) b off zs.toArray := hH
  rw [cell?_putRow (Value.int k) (Sort.ahead w m) b off zs.toArray ys.toArray hH' (by simpa using hl) j (by simpa using hj)]
  simp [hj]

section
variable {P : Program} {ids : Ids} {g : FuncId}
theorem io_plain {S : Nat → Prop} {w : World} : ∀ (args : List Tree) (l : List Value), Tree.plainL args = true → RepIO ids S w args l [] [] ∨ l.length ≠ args.length
  | [], l, _ => .inl (by simp [RepIO])
  | a :: as, [], _ => .inr (by simp)
  | a :: as, v :: vs, h => by
    simp only [Tree.plainL, Bool.and_eq_true] at h
    rcases io_plain as vs h.2 with h1 | h1
    · exact .inl (by simp only [RepIO, h.1, if_true]; exact h1)
    · exact .inr (by simpa using h1)
theorem two_args {S : Nat → Prop} {w : World} {t1 t2 : Tree} {vs : Array Value} {ob : List Nat} (h : RepL ids S w [t1, t2] vs.toList ob) : ∃ v1 v2 o1 o2, vs = #[v1, v2] ∧ Rep ids S w t1 v1 o1 ∧ Rep ids S w t2 v2 o2 ∧ ob = o1 ++ o2 := by
  simp only [RepL] at h
  obtain ⟨v1, vs1, o1, o2, e1, h1, ⟨v2, vs2, o3, o4, e2, h2, ⟨rfl, rfl⟩, rfl⟩, rfl⟩ := h
  subst e2
  exact ⟨v1, v2, o1, o3, by rw [← Array.toList_inj]; exact e1, h1, h2, by simp⟩
theorem three_args {S : Nat → Prop} {w : World} {t1 t2 t3 : Tree} {vs : Array Value} {ob : List Nat} (h : RepL ids S w [t1, t2, t3] vs.toList ob) : ∃ v1 v2 v3 o1 o2 o3, vs = #[v1, v2, v3] ∧ Rep ids S w t1 v1 o1 ∧ Rep ids S w t2 v2 o2 ∧ Rep ids S w t3 v3 o3 ∧ ob = o1 ++ (o2 ++ o3) := by
  simp only [RepL] at h
  obtain ⟨v1, vs1, o1, o2, e1, h1, ⟨v2, vs2, o3, o4, e2, h2, ⟨v3, vs3, o5, o6, e3, h3, ⟨rfl, rfl⟩, rfl⟩, rfl⟩, rfl⟩ := h
  subst e3 e2
  exact ⟨v1, v2, v3, o1, o3, o5, by rw [← Array.toList_inj]; exact e1, h1, h2, h3, by simp⟩
/-- an own row of whole numbers is written anew, and comes back shorter -/
theorem row_back {k : IntKind} {S : Nat → Prop} {w : World} {b off cap q : Nat} {zs new pad : List Int} {ob' : List Nat} {more : List Tree} {mv : List Value}
    (hcap : zs.length ≤ cap) (hcm : cap ≤ 9223372036854775807) (hO : OwnTo w b (off + cap * 1)) (hE : RepEs ids S w (zs.map (Tree.int k)) 1 b off ob') (hdis : ∀ x, x ∈ b :: ob' → ¬ S x) (hst : ∀ x, S x → x < w.heap.size)
    (hl : (new ++ pad).length = zs.length) (hp : Tree.plainL more = true) (hml : mv.length = more.length) :
    Post ids S w (.sl true 1 (zs.map (Tree.int k)) :: more) (.slice (some ⟨b, off, none⟩) zs.length cap :: mv) (b :: ob') (.sl true 1 (new.map (Tree.int k))) [.dead]
      (.returned (.slice (some ⟨b, off, none⟩) new.length cap)) (putRow (Value.int k) (Sort.ahead w q) b off (new ++ pad).toArray) := by
  obtain ⟨rfl, hH⟩ := holds_of hO hcap hE
  have hcell := cells_putRow (m := q) hH hl
  have hE2 := evo_putRow (enc := Value.int k) (w := w) (b := b) (off := off) (m := q) (d := (new ++ pad).toArray) (os := #[]) (A := fun x => x ∈ [b] ∨ w.heap.size ≤ x) (.inl (by simp))
  rw [grow_empty] at hE2
  have hO2 := own_to (enc := Value.int k) (off := off) (m := q) (d := (new ++ pad).toArray) (os := #[]) hO
  rw [grow_empty] at hO2
  rw [List.length_append] at hl
  refine ⟨_, S, [b], [], rfl, ?_, ?_, by simp, ?_, fun _ h => h, fun _ h => .inl h, fun x hx => by have := hst x hx; simp [Sort.ahead]; omega, hE2⟩
  · rw [Rep]
    refine .inr ⟨b, off, cap, [], by rw [List.length_map], rfl, by omega, ⟨by rw [List.length_map]; omega, hcm⟩, hO2, (repEs_list _ b off []).2 ⟨rfl, fun j hj => ?_⟩⟩
    rw [hcell j (by rw [List.length_append]; omega), List.getElem_append_left hj]
  · simp only [RepIO, Tree.plain, Bool.not_true, Bool.false_eq_true, if_false]
    exact ⟨_, [], [], [], rfl, by simp [Rep], (io_plain more mv hp).resolve_right (fun h => h hml), rfl⟩
  · intro x hx
    have hx : x = b := by simpa using hx
    subst hx
    exact ⟨hdis x (by simp), .inl (by simp)⟩
/-- slices.Compact of whole numbers: what comes back is the memory that was handed in -/
theorem contract_compact {k : IntKind} (hs : ∀ (blk off cap : Nat) (zs : List Int) (w : World), Holds (Value.int k) w blk off zs.toArray → zs.length ≤ 9223372036854775807 → zs.length ≤ cap → Calls P g #[.slice (some ⟨blk, off, none⟩) zs.length cap] w fun e w' =>
      e = .returned (.slice (some ⟨blk, off, none⟩) (Lib.compact zs).length cap) ∧ ∃ q, w' = putRow (Value.int k) (Sort.ahead w q) blk off (Lib.compact zs ++ List.replicate (zs.length - (Lib.compact zs).length) 0).toArray)
    (hn : ∀ (w : World), Calls P g #[.slice none 0 0] w fun e w' => e = .returned (.slice none 0 0) ∧ w' = w) (hcl : ∀ zs : List Int, (Lib.compact zs).length ≤ zs.length) (zs : List Int) (hz : zs.length ≤ 9223372036854775807) :
    Contract P ids g [.sl true 1 (zs.map (Tree.int k))] (.sl true 1 ((Lib.compact zs).map (Tree.int k))) [.dead] := by
  intro S w vs ob hL hnd hdis hst hgr
  simp only [RepL] at hL
  obtain ⟨v, vs', ob1, ob2, hv, hR, ⟨rfl, rfl⟩, rfl⟩ := hL
  have hvs : vs = #[v] := by rw [← Array.toList_inj]; simpa using hv
  subst hvs
  rw [Rep] at hR
  rcases hR with ⟨he, rfl, rfl, _⟩ | ⟨b, off, cap, ob', rfl, rfl, _, ⟨hcap, hcm⟩, hO, hE⟩
  · have hz0 : zs = [] := by simpa using he
    subst hz0
    have hc0 : Lib.compact ([] : List Int) = [] := by have := hcl []; simpa using this
    refine Calls.mono (hn w) ?_
    rintro e w' ⟨rfl, rfl⟩
    rw [hc0]
    refine ⟨.slice none 0 0, S, [], [], rfl, ?_, ?_, by simp, by simp, fun _ h => h, fun _ h => .inl h, hst, Evo.refl _ _⟩
    · rw [Rep]; exact .inl ⟨rfl, rfl, rfl, by omega⟩
    · simp only [RepIO, Tree.plain, Bool.not_true, Bool.false_eq_true, if_false]
      exact ⟨_, [], [], [], rfl, by simp [Rep], ⟨rfl, rfl⟩, rfl⟩
  · rw [List.length_map] at hcap
    obtain ⟨_, hH⟩ := holds_of hO hcap hE
    rw [List.length_map]
    refine Calls.mono (hs b off cap zs w hH hz hcap) ?_
    rintro e w' ⟨rfl, n, rfl⟩
    have hcz := hcl zs
    have := row_back (ids := ids) (q := n) (new := Lib.compact zs) (pad := List.replicate (zs.length - (Lib.compact zs).length) 0) (more := []) (mv := []) hcap hcm hO hE (by simpa using hdis) hst (by simp; omega) rfl rfl
    simpa using this
/-- slices.Delete of whole numbers -/
theorem contract_delete {k : IntKind} (hs : ∀ (blk off cap i j : Nat) (zs : List Int) (w : World), Holds (Value.int k) w blk off zs.toArray → zs.length ≤ cap → cap ≤ 9223372036854775807 → i ≤ j → j ≤ zs.length →
      Calls P g #[.slice (some ⟨blk, off, none⟩) zs.length cap, .int .i64 i, .int .i64 j] w fun e w' =>
      e = .returned (.slice (some ⟨blk, off, none⟩) (zs.length - (j - i)) cap) ∧ ∃ q, w' = putRow (Value.int k) (Sort.ahead w q) blk off (zs.take i ++ zs.drop j ++ List.replicate (j - i) 0).toArray)
    (zs : List Int) (i j : Int) (h0 : 0 ≤ i) (hij : i < j) (hj : j ≤ zs.length) :
    Contract P ids g [.sl true 1 (zs.map (Tree.int k)), .int .i64 i, .int .i64 j] (.sl true 1 ((zs.take i.toNat ++ zs.drop j.toNat).map (Tree.int k))) [.dead] := by
  intro S w vs ob hL hnd hdis hst hgr
  obtain ⟨v1, v2, v3, o1, o2, o3, rfl, r1, r2, r3, rfl⟩ := three_args hL
  simp only [Rep] at r2 r3
  obtain ⟨rfl, rfl⟩ := r2
  obtain ⟨rfl, rfl⟩ := r3
  rw [Rep] at r1
  rcases r1 with ⟨he, rfl, rfl, _⟩ | ⟨b, off, cap, ob', rfl, rfl, _, ⟨hcap, hcm⟩, hO, hE⟩
  · have : zs = [] := by simpa using he
    subst this
    simp at hj; omega
  · rw [List.length_map] at hcap
    obtain ⟨_, hH⟩ := holds_of hO hcap hE
    rw [List.length_map]
    have hc := hs b off cap i.toNat j.toNat zs w hH hcap hcm (by omega) (by omega)
    rw [show ((i.toNat : Nat) : Int) = i by omega, show ((j.toNat : Nat) : Int) = j by omega] at hc
    refine Calls.mono hc ?_
    rintro e w' ⟨rfl, n, rfl⟩
    have hlen : zs.length - (j.toNat - i.toNat) = (zs.take i.toNat ++ zs.drop j.toNat).length := by simp; omega
    rw [hlen]
    have := row_back (ids := ids) (q := n) (new := zs.take i.toNat ++ zs.drop j.toNat) (pad := List.replicate (j.toNat - i.toNat) 0) (more := [.int .i64 i, .int .i64 j]) (mv := [.int .i64 i, .int .i64 j]) hcap hcm hO hE
      (by simpa using hdis) hst (by simp; omega) rfl rfl
    simpa using this
/-- a function of strings that lays nothing that is seen -/
theorem contract_strG {args : List Tree} {r : Tree} (hargs : ∀ (S : Nat → Prop) (w : World) (vs : Array Value) (ob : List Nat), (∀ b, S b → b < w.heap.size) → ids.ok S w → RepL ids S w args vs.toList ob → ob = [] ∧ (∀ w' l, RepIO ids S w' args l [] [] ∨ l.length ≠ args.length) ∧ vs.toList.length = args.length ∧ Calls P g vs w fun e w' => (∃ v, e = .returned v ∧ Rep ids S w' r v []) ∧ RowKit.Below w.heap.size w w') :
    Contract P ids g args r [] := by
  intro S w vs ob hL hnd hdis hst hgr
  obtain ⟨rfl, hio, hl, hc⟩ := hargs S w vs ob hst hgr hL
  refine Calls.mono hc ?_
  rintro e w' ⟨⟨v, rfl, hr⟩, hb⟩
  have hio' : RepIO ids S w' args vs.toList [] [] := (hio w' vs.toList).resolve_right (fun h => h hl)
  exact ⟨v, S, [], [], rfl, hr, hio', by simp, by simp, fun _ h => h, fun _ h => .inl h, fun b h => by have := hst b h; have := hb.size; omega, ⟨hb.os, hb.tape, hb.output, hb.size, fun b hb' _ => hb.block b hb', fun b n hx => hx.congr (hb.block b hx.lt)⟩⟩
theorem contract_str {args : List Tree} {r : Tree} {v : Value} (hargs : ∀ (S : Nat → Prop) (w : World) (vs : Array Value) (ob : List Nat), RepL ids S w args vs.toList ob → ob = [] ∧ (∀ l, RepIO ids S l args vs.toList [] []) ∧ Calls P g vs w fun e w' => e = .returned v ∧ RowKit.Below w.heap.size w w')
    (hr : ∀ (S : Nat → Prop) (w : World), Rep ids S w r v []) : Contract P ids g args r [] := by
  intro S w vs ob hL hnd hdis hst hgr
  obtain ⟨rfl, hio, hc⟩ := hargs S w vs ob hL
  refine Calls.mono hc ?_
  rintro e w' ⟨rfl, hb⟩
  exact ⟨v, S, [], [], rfl, hr S w', hio w', by simp, by simp, fun _ h => h, fun _ h => .inl h, fun b h => by have := hst b h; have := hb.size; omega, ⟨hb.os, hb.tape, hb.output, hb.size, fun b hb' _ => hb.block b hb', fun b n hx => hx.congr (hb.block b hx.lt)⟩⟩
/-- a byte's first place -/
theorem contract_idxB (hs : ∀ (s : ByteArray) (c : Int) (w : World), Calls P g #[.string s, .int .u8 c] w fun e w' => e = .returned (.int .i64 (Lib.indexByte s.data.toList (UInt8.ofNat c.toNat))) ∧ w' = w)
    (s : List UInt8) (c : Int) : Contract P ids g [.str s, .int .u8 c] (.int .i64 (Lib.indexByte s (UInt8.ofNat c.toNat))) [] :=
  contract_strG fun S w vs ob hst hgr hL => by
    obtain ⟨v1, v2, o1, o2, rfl, r1, r2, rfl⟩ := two_args hL
    simp only [Rep] at r1 r2
    obtain ⟨rfl, rfl⟩ := r1
    obtain ⟨rfl, rfl⟩ := r2
    refine ⟨rfl, fun w' l => io_plain _ l rfl, rfl, Calls.mono (hs ⟨s.toArray⟩ c w) ?_⟩
    rintro e w' ⟨rfl, rfl⟩
    exact ⟨⟨_, rfl, by simp [Rep]⟩, RowKit.Below.refl _ _⟩
/-- slices.Grow at nil, cells of sz values each -/
theorem contract_growN {sz : Nat} (hsz : 0 < sz) (hs : ∀ (n : Nat) (w : World), 0 < n → n ≤ 1099511627776 → Calls P g #[.slice none 0 0, .int .i64 n] w fun e w' =>
      ∃ cap arr ety, e = .returned (.slice (some ⟨w.heap.size, 0, none⟩) 0 cap) ∧ cap ≤ 9223372036854775807 ∧ arr.size = cap * sz ∧ w' = w.drew.alloc (.cells arr ety))
    (h0 : ∀ (w : World), Calls P g #[.slice none 0 0, .int .i64 0] w fun e w' => e = .returned (.slice none 0 0) ∧ w' = w) (n : Int) (h1 : 0 ≤ n) (h2 : n ≤ 1099511627776) :
    Contract P ids g [.nil 2004, .int .i64 n] (.sl true sz []) [] := by
  intro S w vs ob hL hnd hdis hst hgr
  obtain ⟨v1, v2, o1, o2, rfl, r1, r2, rfl⟩ := two_args hL
  simp only [Rep] at r1 r2
  obtain ⟨⟨a, rfl, ha⟩, rfl, _⟩ := r1
  obtain ⟨rfl, rfl⟩ := r2
  have := ha (by omega)
  subst this
  by_cases hn : n = 0
  · subst hn
    refine Calls.mono (h0 w) ?_
    rintro e w' ⟨rfl, rfl⟩
    refine ⟨_, S, [], [], rfl, ?_, by simp [RepIO, Tree.plain], by simp, by simp, fun _ h => h, fun _ h => .inl h, hst, Evo.refl _ _⟩
    rw [Rep]; exact .inl ⟨rfl, rfl, rfl, hsz⟩
  · have := hs n.toNat w (by omega) (by omega)
    rw [show ((n.toNat : Nat) : Int) = n by omega] at this
    refine Calls.mono this ?_
    rintro e w' ⟨cap, arr, ety, rfl, hcm, hcs, rfl⟩
    refine ⟨_, S, [w.heap.size], [], rfl, ?_, by simp [RepIO, Tree.plain], by simp, ?_, fun _ h => h, fun _ h => .inl h, fun b hb => ?_, evo_allocD (fun b hb => .inr hb) _⟩
    · rw [Rep]
      exact .inr ⟨w.heap.size, 0, cap, [], rfl, rfl, hsz, ⟨by simp, hcm⟩, ⟨cap * sz, by omega, arr, ety, (0, 0), heap_push_new w.drew _, by omega, by simp⟩, by rw [RepEs]⟩
    · intro b hb
      have hb : b = w.heap.size := by simpa using hb
      subst hb
      exact ⟨fun hS => by have := hst _ hS; omega, .inr (Nat.le_refl _)⟩
    · have := hst b hb
      simp; omega
/-- an array of four whole numbers out of a list -/
def key4 (l : List Int) : List Int := (l ++ [0, 0, 0, 0]).take 4
theorem contract_key (hs : ∀ (a : Option Addr) (zs : List Int) (cap : Nat) (w : World), zs.length ≤ 9223372036854775807 → (zs = [] ∨ ∃ b off, a = some ⟨b, off, none⟩ ∧ b < w.heap.size ∧ ∀ j (h : j < zs.length), w.cell? ⟨b, off + j, none⟩ = some (.int .i64 zs[j])) → zs.length ≤ cap →
      Calls P g #[.slice a zs.length cap] w fun e w' => e = .returned (.agg ((key4 zs).map (Value.int .i64)).toArray) ∧ RowKit.Below w.heap.size w w') (zs : List Int) (hz : zs.length ≤ 9223372036854775807) :
    Contract P ids g [.sl false 1 (zs.map (Tree.int .i64))] (.agg ((key4 zs).map (Tree.int .i64))) [] :=
  contract_strG fun S w vs ob hst hgr hL => by
    simp only [RepL] at hL
    obtain ⟨v, vs', ob1, ob2, hv, hR, ⟨rfl, rfl⟩, rfl⟩ := hL
    have hvs : vs = #[v] := by rw [← Array.toList_inj]; simpa using hv
    subst hvs
    rw [Rep] at hR
    obtain ⟨rfl, _, a, cap, rfl, hcap, hc⟩ := hR
    rw [List.length_map] at hcap ⊢
    refine ⟨rfl, fun w' l => io_plain _ l rfl, rfl, Calls.mono (hs a zs cap w hz ?_ hcap) ?_⟩
    · rcases hc with h | ⟨b, off, rfl, hS, hE⟩
      · exact .inl (by simpa using h)
      · exact .inr ⟨b, off, rfl, hst b hS, ((repEs_list zs b off []).1 hE).2⟩
    · rintro e w' ⟨rfl, hb⟩
      refine ⟨⟨_, rfl, ?_⟩, hb⟩
      simp only [Rep]
      refine ⟨_, rfl, ?_, ?_⟩
      · intro u hu
        obtain ⟨n, _, rfl⟩ := List.mem_map.1 (by simpa using hu)
        rfl
      · have : ∀ l : List Int, RepL ids S w' (l.map (Tree.int .i64)) (l.map (Value.int .i64)) [] := by
          intro l
          induction l with
          | nil => simp [RepL]
          | cons n l ih => simp only [List.map_cons, RepL]; exact ⟨_, _, [], [], rfl, by simp [Rep], ih, rfl⟩
        simpa using this (key4 zs)
end

theorem pos_four {n : Nat} (h : n = 4) : 0 < n := by omega
theorem grow_bigN {n b : Nat} (h : n ≤ 1099511627776) (hb : b = 32) : (0 + n) * b ≤ 140737488355328 := by subst hb; omega
theorem grow_sizeN {z : Value} {sz : Nat} (hz : z.cells.size = sz) {n c : Nat} (h : 0 + n ≤ c) : ((([] : List Value).toArray ++ Builtin.zeroCells z.cells (0 + n - 0) ++ Builtin.zeroCells z.cells (c - (0 + n)))).size = c * sz := by
  simp only [Array.size_append, List.size_toArray, List.length_nil, size_zeroCells, hz]
  rw [Nat.zero_add, ← Nat.add_mul]; congr 1; omega
/- flat elements -/
def leafT : Tree → Bool
  | .int _ _ => true
  | .bool _ => true
  | .str _ => true
  | _ => false
def flatE : Tree → Bool
  | .agg cs => cs.all leafT
  | t => leafT t
section
variable {ids : Ids}
theorem leaf_rep {t : Tree} (h : leafT t = true) {S S' : Nat → Prop} {w w' : World} {v : Value} {ob : List Nat} (hr : Rep ids S w t v ob) : ob = [] ∧ Rep ids S' w' t v [] := by
  cases t <;> simp only [leafT, Bool.false_eq_true] at h <;> (rw [Rep] at hr ⊢; exact ⟨hr.2, hr.1, rfl⟩)
theorem leafs_rep : ∀ {cs : List Tree} (h : cs.all leafT = true) {S : Nat → Prop} {w : World} {b off : Nat} {ob : List Nat}, RepCs ids S w cs b off ob →
    ob = [] ∧ ∃ news : List Value, news.length = cs.length ∧ (∀ j u, news[j]? = some u → w.cell? ⟨b, off + j, none⟩ = some u) ∧ (∀ u, u ∈ news → u.oneCell' = true) ∧
      ∀ (S' : Nat → Prop) (w' : World) (b' off' : Nat), (∀ j u, news[j]? = some u → w'.cell? ⟨b', off' + j, none⟩ = some u) → RepCs ids S' w' cs b' off' []
  | [], _, S, w, b, off, ob, hr => by
    rw [RepCs] at hr
    exact ⟨hr, [], rfl, by simp, by simp, fun S' w' b' off' _ => by rw [RepCs]⟩
  | t :: cs, h, S, w, b, off, ob, hr => by
    rw [List.all_cons, Bool.and_eq_true] at h
    rw [RepCs] at hr
    obtain ⟨v, ob1, ob2, ⟨hc, ho⟩, h1, h2, rfl⟩ := hr
    obtain ⟨e1, news, hl, hn, h1c, hcp⟩ := leafs_rep h.2 h2
    obtain ⟨e2, _⟩ := leaf_rep (S' := S) (w' := w) h.1 h1
    subst e1 e2
    refine ⟨rfl, v :: news, by simp [hl], ?_, ?_, ?_⟩
    · intro j u hj
      cases j with
      | zero => simp only [List.getElem?_cons_zero, Option.some.injEq] at hj; subst hj; exact hc
      | succ j => rw [List.getElem?_cons_succ] at hj; rw [show off + (j + 1) = off + 1 + j by omega]; exact hn j u hj
    · intro u hu
      rcases List.mem_cons.1 hu with rfl | hu
      · exact ho
      · exact h1c u hu
    · intro S' w' b' off' hw
      rw [RepCs]
      refine ⟨v, [], [], ⟨hw 0 v rfl, ho⟩, (leaf_rep h.1 h1).2, hcp S' w' b' (off' + 1) fun j u hj => ?_, rfl⟩
      rw [show off' + 1 + j = off' + (j + 1) by omega]
      exact hw (j + 1) u (by rw [List.getElem?_cons_succ]; exact hj)
theorem flatE_rep {t : Tree} (h : flatE t = true) {S : Nat → Prop} {w : World} {sz b off : Nat} {ob : List Nat} (hr : RepE ids S w t sz b off ob) :
    ob = [] ∧ ∃ news : List Value, news.length = sz ∧ (∀ j u, news[j]? = some u → w.cell? ⟨b, off + j, none⟩ = some u) ∧ (∀ u, u ∈ news → u.oneCell' = true) ∧
      ∀ (S' : Nat → Prop) (w' : World) (b' off' : Nat), (∀ j u, news[j]? = some u → w'.cell? ⟨b', off' + j, none⟩ = some u) → RepE ids S' w' t sz b' off' [] := by
  by_cases ha : ∃ cs, t = .agg cs
  · obtain ⟨cs, rfl⟩ := ha
    rw [RepE] at hr
    obtain ⟨rfl, hr⟩ := hr
    obtain ⟨e, news, h1, h2, h3, h4⟩ := leafs_rep h hr
    exact ⟨e, news, h1, h2, h3, fun S' w' b' off' hw => by rw [RepE]; exact ⟨rfl, h4 S' w' b' off' hw⟩⟩
  · have hn : ∀ cs, t = .agg cs → False := fun cs he => ha ⟨cs, he⟩
    have hl : leafT t = true := by cases t <;> first | exact h | (exact absurd rfl (hn _))
    rw [RepE] at hr
    · obtain ⟨rfl, v, ⟨hc, ho⟩, hv⟩ := hr
      obtain ⟨e, _⟩ := leaf_rep (S' := S) (w' := w) hl hv
      subst e
      refine ⟨rfl, [v], rfl, fun j u hj => ?_, by simpa using ho, fun S' w' b' off' hw => ?_⟩
      · cases j with
        | zero => simp only [List.getElem?_cons_zero, Option.some.injEq] at hj; subst hj; exact hc
        | succ j => simp at hj
      · rw [RepE]
        · exact ⟨rfl, v, ⟨hw 0 v rfl, ho⟩, (leaf_rep hl hv).2⟩
        · intro cs hcs; exact hn cs hcs
    · intro cs hcs; exact hn cs hcs
theorem flatEs_rep : ∀ {es : List Tree} (h : es.all flatE = true) {S : Nat → Prop} {w : World} {sz b off : Nat} {ob : List Nat}, RepEs ids S w es sz b off ob →
    ob = [] ∧ ∃ news : List Value, news.length = es.length * sz ∧ (∀ j u, news[j]? = some u → w.cell? ⟨b, off + j, none⟩ = some u) ∧ (∀ u, u ∈ news → u.oneCell' = true) ∧
      ∀ (S' : Nat → Prop) (w' : World) (b' off' : Nat), (∀ j u, news[j]? = some u → w'.cell? ⟨b', off' + j, none⟩ = some u) → RepEs ids S' w' es sz b' off' []
  | [], _, S, w, sz, b, off, ob, hr => by
    rw [RepEs] at hr
    exact ⟨hr, [], by simp, by simp, by simp, fun S' w' b' off' _ => by rw [RepEs]⟩
  | t :: es, h, S, w, sz, b, off, ob, hr => by
    rw [List.all_cons, Bool.and_eq_true] at h
    rw [RepEs] at hr
    obtain ⟨ob1, ob2, h1, h2, rfl⟩ := hr
    obtain ⟨e1, n1, a1, a2, a3, a4⟩ := flatE_rep h.1 h1
    obtain ⟨e2, n2, b1, b2, b3, b4⟩ := flatEs_rep h.2 h2
    subst e1 e2
    refine ⟨rfl, n1 ++ n2, by simp [a1, b1, Nat.add_mul]; omega, ?_, ?_, ?_⟩
    · intro j u hj
      rcases Nat.lt_or_ge j n1.length with h3 | h3
      · rw [List.getElem?_append_left h3] at hj; exact a2 j u hj
      · rw [List.getElem?_append_right h3] at hj
        have := b2 _ u hj
        rwa [show off + sz + (j - n1.length) = off + j by omega] at this
    · intro u hu
      rcases List.mem_append.1 hu with hu | hu
      · exact a3 u hu
      · exact b3 u hu
    · intro S' w' b' off' hw
      rw [RepEs]
      refine ⟨[], [], a4 S' w' b' off' fun j u hj => hw j u ?_, b4 S' w' b' (off' + sz) fun j u hj => ?_, rfl⟩
      · rw [List.getElem?_append_left (List.getElem?_eq_some_iff.1 hj).1]; exact hj
      · rw [show off' + sz + j = off' + (n1.length + j) by omega]
        refine hw _ u ?_
        rw [List.getElem?_append_right (by omega), show n1.length + j - n1.length = j by omega]; exact hj
/-- slices.Clone of flat elements -/
theorem contract_clone {P : Program} {g : FuncId} {ety : TypeId} {sz : Nat}
    (hs : ∀ (ad : Addr) (n c : Nat) (news : List Value) (w : World), news.length = n * sz → n ≤ 4294967296 → (∀ j u, news[j]? = some u → w.cell? (ad.add j) = some u) → (∀ u, u ∈ news → u.oneCell' = true) →
      Calls P g #[.slice (some ad) n c] w fun e w' => ∃ v', e = .returned v' ∧ w'.ownsRow w.heap.size ety sz v' n news ∧ RowKit.Below w.heap.size w w')
    (hn : ∀ (n c : Nat) (w : World), Calls P g #[.slice none n c] w fun e w' => e = .returned (.slice none 0 0) ∧ w' = w) (es : List Tree) (hes : es.all flatE = true) (hl : es.length ≤ 4294967296) :
    Contract P ids g [.sl false sz es] (.sl true sz es) [] := by
  intro S w vs ob hL hnd hdis hst hgr
  simp only [RepL] at hL
  obtain ⟨v, vs', ob1, ob2, hv, hR, ⟨rfl, rfl⟩, rfl⟩ := hL
  have hvs : vs = #[v] := by rw [← Array.toList_inj]; simpa using hv
  subst hvs
  rw [Rep] at hR
  obtain ⟨rfl, hsz, a, cap, rfl, hcap, hc⟩ := hR
  have hio : ∀ w' : World, RepIO ids S w' [Tree.sl false sz es] (#[Value.slice a es.length cap] : Array Value).toList [] [] := fun w' => by simp [RepIO, Tree.plain]
  have hpost : ∀ (v' : Value) (w' : World) (obr : List Nat), Rep ids S w' (.sl true sz es) v' obr → obr.Nodup → (∀ b, b ∈ obr → w.heap.size ≤ b) → RowKit.Below w.heap.size w w' →
      Post ids S w [.sl false sz es] (#[Value.slice a es.length cap] : Array Value).toList ([] ++ []) (.sl true sz es) [] (.returned v') w' := fun v' w' obr h1 h2 h3 hb =>
    ⟨v', S, obr, [], rfl, h1, hio w', by simpa using h2, fun b hb2 => by
      have h5 := h3 b (by simpa using hb2)
      exact ⟨fun hS => by have := hst b hS; omega, .inr h5⟩, fun _ h => h, fun _ h => .inl h, fun b h => by have := hst b h; have := hb.size; omega, ⟨hb.os, hb.tape, hb.output, hb.size, fun b hb' _ => hb.block b hb', fun b n hx => hx.congr (hb.block b hx.lt)⟩⟩
  cases a with
  | none =>
    have he : es = [] := by
      rcases hc with h | ⟨b, off, h, _⟩
      · exact h
      · cases h
    subst he
    refine Calls.mono (hn _ cap w) ?_
    rintro e w' ⟨rfl, rfl⟩
    refine hpost _ _ [] ?_ (by simp) (by simp) (RowKit.Below.refl _ _)
    rw [Rep]; exact .inl ⟨rfl, rfl, rfl, hsz⟩
  | some ad =>
    obtain ⟨news, h1, h2, h3, h4⟩ : ∃ news : List Value, news.length = es.length * sz ∧ (∀ j u, news[j]? = some u → w.cell? (ad.add j) = some u) ∧ (∀ u, u ∈ news → u.oneCell' = true) ∧
        ∀ (S' : Nat → Prop) (w' : World) (b' off' : Nat), (∀ j u, news[j]? = some u → w'.cell? ⟨b', off' + j, none⟩ = some u) → RepEs ids S' w' es sz b' off' [] := by
      rcases hc with rfl | ⟨b, off, hb, _, hE⟩
      · exact ⟨[], by simp, by simp, by simp, fun S' w' b' off' _ => by rw [RepEs]⟩
      · cases hb
        obtain ⟨_, news, h1, h2, h3, h4⟩ := flatEs_rep hes hE
        exact ⟨news, h1, fun j u hj => by rw [Addr.add_lit]; exact h2 j u hj, h3, h4⟩
    refine Calls.mono (hs ad es.length cap news w h1 hl h2 h3) ?_
    rintro e w' ⟨v', rfl, ⟨_, hown⟩, hb⟩
    rcases hown with ⟨rfl, hn0⟩ | ⟨b, cap', cur, rfl, hbb, hheap, g1, g2, g3, g4⟩
    · have he : es = [] := List.length_eq_zero_iff.1 hn0
      subst he
      refine hpost _ _ [] ?_ (by simp) (by simp) hb
      rw [Rep]; exact .inl ⟨rfl, rfl, rfl, hsz⟩
    · refine hpost _ _ [b] ?_ (by simp) (fun x hx => by rw [List.mem_singleton] at hx; omega) hb
      rw [Rep]
      refine .inr ⟨b, 0, cap', [], rfl, rfl, hsz, ⟨g1, g2⟩, ⟨cap' * sz, by omega, cur, ety, (0, 0), hheap, g3, fun o _ => by simp⟩, h4 S w' b 0 fun j u hj => ?_⟩
      have hj2 : j < news.length := (List.getElem?_eq_some_iff.1 hj).1
      rw [← g4] at hj
      rw [List.getElem?_take_of_lt (by omega)] at hj
      simp only [World.cell?, hheap, Nat.zero_add]
      simpa using hj
end

theorem compact_len (zs : List Int) : (Lib.compact zs).length ≤ zs.length := by
  unfold Lib.compact Lib.compactUpTo
  rw [List.length_map]
  exact Nat.le_trans (List.length_filter_le _ _) (by simp)
/- the oracle -/
def intsK (k : IntKind) : List Tree → Option (List Int)
  | [] => some []
  | .int k' n :: ts => if k' = k then (intsK k ts).map (n :: ·) else none
  | _ => none
theorem intsK_map {k : IntKind} : ∀ l : List Int, intsK k (l.map (Tree.int k)) = some l
  | [] => rfl
  | n :: l => by simp [intsK, intsK_map l]
theorem intsK_eq {k : IntKind} : ∀ {ts : List Tree} {l : List Int}, intsK k ts = some l → ts = l.map (Tree.int k)
  | [], l, h => by simp [intsK] at h; subst h; rfl
  | t :: ts, l, h => by
    cases t with
    | int k' n =>
      simp only [intsK] at h
      split at h
      · rename_i hk; subst hk
        obtain ⟨m, hm, rfl⟩ := Option.map_eq_some_iff.1 h
        rw [intsK_eq hm]; rfl
      · cases h
    | _ => simp [intsK] at h
def strings_IndexByte (s : List UInt8) (c : Int) : Option Int := some (Lib.indexByte s (UInt8.ofNat c.toNat))
def extIdxB : List Tree → Option (Tree × List Tree)
  | [.str s, .int .u8 c] => (strings_IndexByte s c).map fun r => (.int .i64 r, [])
  | _ => none
def slices_Compact_byte (l : List Int) : Option (List Int) := if l.length ≤ 9223372036854775807 then some (Lib.compact l) else none
def extCompactB : List Tree → Option (Tree × List Tree)
  | [.sl true 1 es] => (intsK .u8 es).bind fun l => (slices_Compact_byte l).map fun r => (.sl true 1 (r.map (Tree.int .u8)), [.dead])
  | _ => none
def slices_Delete_byte (l : List Int) (i j : Int) : Option (List Int) := if 0 ≤ i ∧ i < j ∧ j ≤ l.length then some (l.take i.toNat ++ l.drop j.toNat) else none
def extDeleteB : List Tree → Option (Tree × List Tree)
  | [.sl true 1 es, .int .i64 i, .int .i64 j] => (intsK .u8 es).bind fun l => (slices_Delete_byte l i j).map fun r => (.sl true 1 (r.map (Tree.int .u8)), [.dead])
  | _ => none
def slices_GrowN {α : Type} (n : Int) : Option (List α) := if 0 ≤ n ∧ n ≤ 1099511627776 then some [] else none
def extGrowN (sz : Nat) : List Tree → Option (Tree × List Tree)
  | [.nil 2004, .int .i64 n] => if 0 ≤ n ∧ n ≤ 1099511627776 then some (.sl true sz [], []) else none
  | _ => none
def impl_key4 (l : List Int) : Option (Int × Int × Int × Int) := if l.length ≤ 9223372036854775807 then some ((key4 l).getD 0 0, (key4 l).getD 1 0, (key4 l).getD 2 0, (key4 l).getD 3 0) else none
def extKey : List Tree → Option (Tree × List Tree)
  | [.sl false 1 es] => (intsK .i64 es).bind fun l => if l.length ≤ 9223372036854775807 then some (.agg ((key4 l).map (Tree.int .i64)), []) else none
  | _ => none
/-- a copy of a list -/
def cloneL {α : Type} (l : List α) : Option (List α) := if l.length ≤ 4294967296 then some l else none
def extClone (sz : Nat) : List Tree → Option (Tree × List Tree)
  | [.sl false sz' es] => if sz' = sz ∧ es.all flatE = true ∧ es.length ≤ 4294967296 then some (.sl true sz es, []) else none
  | _ => none
/-- by the functions' own numbers -/
def ext : Oracle
  | 873, args => extIdxB args
  | 790, args => extCompactB args
  | 810, args => extDeleteB args
  | 816, args => extGrowN 4 args
  | 283, args => extKey args
  | 784, args => extClone 1 args
  | 785, args => extClone 4 args
  | 786, args => extClone 4 args
  | 787, args => extClone 2 args
  | 788, args => extClone 3 args
  | 789, args => extClone 1 args
  | _, _ => none

section
variable {T : Nat → Option PFunc}
theorem ev_ext {u : Nat} (hT : T u = none) (d : Nat) (args : List Tree) : ev T ext d u args = ext u args := by
  cases d with
  | zero => rfl
  | succ d => simp only [ev, hT]
theorem spec_idxB (hT : T 873 = none) (d : Nat) (s : List UInt8) (c : Int) : Spec (ev T ext d) 873 [.str s, .int .u8 c] (strings_IndexByte s c) (fun r => (.int .i64 r, [])) := by
  intro x hx
  rw [ev_ext hT]
  simp only [ext, extIdxB, hx, Option.map_some]
theorem spec_clone {α : Type} {u sz : Nat} {enc : α → Tree} (hu : ∀ args, ext u args = extClone sz args) (hf : ∀ x, flatE (enc x) = true) (hT : T u = none) (d : Nat) (l : List α) : Spec (ev T ext d) u [.sl false sz (l.map enc)] (cloneL l) (fun r => (.sl true sz (r.map enc), [])) := by
  intro x hx
  unfold cloneL at hx
  split at hx
  · rename_i hl
    cases hx
    have h2 : (l.map enc).all flatE = true := by rw [List.all_eq_true]; intro t ht; obtain ⟨y, _, rfl⟩ := List.mem_map.1 ht; exact hf y
    rw [ev_ext hT, hu]
    simp only [extClone]
    rw [if_pos ⟨trivial, h2, by simpa using hl⟩]
  · cases hx
theorem spec_compactB (hT : T 790 = none) (d : Nat) (l : List Int) : Spec (ev T ext d) 790 [.sl true 1 (l.map (Tree.int .u8))] (slices_Compact_byte l) (fun r => (.sl true 1 (r.map (Tree.int .u8)), [.dead])) := by
  intro x hx
  rw [ev_ext hT]
  simp only [ext, extCompactB, intsK_map, Option.bind_some, hx, Option.map_some]
theorem spec_deleteB (hT : T 810 = none) (d : Nat) (l : List Int) (i j : Int) : Spec (ev T ext d) 810 [.sl true 1 (l.map (Tree.int .u8)), .int .i64 i, .int .i64 j] (slices_Delete_byte l i j) (fun r => (.sl true 1 (r.map (Tree.int .u8)), [.dead])) := by
  intro x hx
  rw [ev_ext hT]
  simp only [ext, extDeleteB, intsK_map, Option.bind_some, hx, Option.map_some]
theorem spec_growN {α : Type} {enc : α → Tree} (hT : T 816 = none) (d : Nat) (n : Int) : Spec (ev T ext d) 816 [.nil 2004, .int .i64 n] (slices_GrowN (α := α) n) (fun r => (.sl true 4 (r.map enc), [])) := by
  intro x hx
  rw [ev_ext hT]
  unfold slices_GrowN at hx
  split at hx
  · rename_i hn
    cases hx
    simp only [ext, extGrowN, if_pos hn, List.map_nil]
  · cases hx
theorem key4_four (l : List Int) : key4 l = [(key4 l).getD 0 0, (key4 l).getD 1 0, (key4 l).getD 2 0, (key4 l).getD 3 0] := by
  match l with
  | [] => rfl
  | [a] => rfl
  | [a, b] => rfl
  | [a, b, c] => rfl
  | a :: b :: c :: d :: l => rfl
theorem spec_key (hT : T 283 = none) (d : Nat) (l : List Int) : Spec (ev T ext d) 283 [.sl false 1 (l.map (Tree.int .i64))] (impl_key4 l) (fun r => (.agg [.int .i64 r.1, .int .i64 r.2.1, .int .i64 r.2.2.1, .int .i64 r.2.2.2], [])) := by
  intro x hx
  rw [ev_ext hT]
  unfold impl_key4 at hx
  split at hx
  · rename_i hn
    cases hx
    simp only [ext, extKey, intsK_map, Option.bind_some, if_pos hn]
    conv => lhs; rw [key4_four l]
    rfl
  · cases hx
end
def ExtOk (P : Program) (ids : Ids) (g u : Nat) : Prop := callable P g = true ∧ ∀ args r outs, ext u args = some (r, outs) → Contract P ids g args r outs
theorem extOk_clone {P : Program} {ids : Ids} {g u sz : Nat} (hu : ∀ args, ext u args = extClone sz args) (hc : callable P g = true) (h : ∀ es : List Tree, es.all flatE = true → es.length ≤ 4294967296 → Contract P ids g [.sl false sz es] (.sl true sz es) []) : ExtOk P ids g u := by
  refine ⟨hc, fun args r outs he => ?_⟩
  rw [hu] at he
  unfold extClone at he
  split at he
  · split at he
    · rename_i hh
      obtain ⟨rfl, h1, h2⟩ := hh
      cases he
      exact h _ h1 h2
    · cases he
  · cases he
theorem extOk_idxB {P : Program} {ids : Ids} {g : Nat} (hc : callable P g = true) (h : ∀ (s : List UInt8) (c : Int), Contract P ids g [.str s, .int .u8 c] (.int .i64 (Lib.indexByte s (UInt8.ofNat c.toNat))) []) : ExtOk P ids g 873 := by
  refine ⟨hc, fun args r outs he => ?_⟩
  simp only [ext] at he
  unfold extIdxB at he
  split at he
  · simp only [strings_IndexByte, Option.map_some, Option.some.injEq] at he
    cases he
    exact h _ _
  · cases he
theorem extOk_compactB {P : Program} {ids : Ids} {g : Nat} (hc : callable P g = true) (h : ∀ zs : List Int, zs.length ≤ 9223372036854775807 → Contract P ids g [.sl true 1 (zs.map (Tree.int .u8))] (.sl true 1 ((Lib.compact zs).map (Tree.int .u8))) [.dead]) : ExtOk P ids g 790 := by
  refine ⟨hc, fun args r outs he => ?_⟩
  simp only [ext] at he
  unfold extCompactB at he
  split at he
  · simp only [Option.bind_eq_some_iff, Option.map_eq_some_iff] at he
    obtain ⟨l, hl, r', hr', he⟩ := he
    rw [intsK_eq hl]
    unfold slices_Compact_byte at hr'
    split at hr'
    · rename_i hlt
      cases hr'; cases he
      exact h l hlt
    · cases hr'
  · cases he
theorem extOk_deleteB {P : Program} {ids : Ids} {g : Nat} (hc : callable P g = true) (h : ∀ (zs : List Int) (i j : Int), 0 ≤ i → i < j → j ≤ zs.length → Contract P ids g [.sl true 1 (zs.map (Tree.int .u8)), .int .i64 i, .int .i64 j] (.sl true 1 ((zs.take i.toNat ++ zs.drop j.toNat).map (Tree.int .u8))) [.dead]) : ExtOk P ids g 810 := by
  refine ⟨hc, fun args r outs he => ?_⟩
  simp only [ext] at he
  unfold extDeleteB at he
  split at he
  · simp only [Option.bind_eq_some_iff, Option.map_eq_some_iff] at he
    obtain ⟨l, hl, r', hr', he⟩ := he
    rw [intsK_eq hl]
    unfold slices_Delete_byte at hr'
    split at hr'
    · rename_i hlt
      cases hr'; cases he
      exact h l _ _ hlt.1 hlt.2.1 hlt.2.2
    · cases hr'
  · cases he
theorem extOk_growN {P : Program} {ids : Ids} {g : Nat} (hc : callable P g = true) (h : ∀ n : Int, 0 ≤ n → n ≤ 1099511627776 → Contract P ids g [.nil 2004, .int .i64 n] (.sl true 4 []) []) : ExtOk P ids g 816 := by
  refine ⟨hc, fun args r outs he => ?_⟩
  simp only [ext] at he
  unfold extGrowN at he
  split at he
  · split at he
    · rename_i hlt
      cases he
      exact h _ hlt.1 hlt.2
    · cases he
  · cases he
theorem extOk_key {P : Program} {ids : Ids} {g : Nat} (hc : callable P g = true) (h : ∀ zs : List Int, zs.length ≤ 9223372036854775807 → Contract P ids g [.sl false 1 (zs.map (Tree.int .i64))] (.agg ((key4 zs).map (Tree.int .i64))) []) : ExtOk P ids g 283 := by
  refine ⟨hc, fun args r outs he => ?_⟩
  simp only [ext] at he
  unfold extKey at he
  split at he
  · simp only [Option.bind_eq_some_iff] at he
    obtain ⟨l, hl, he⟩ := he
    split at he
    · rename_i hlt
      rw [intsK_eq hl]
      cases he
      exact h l hlt
    · cases he
  · cases he
theorem idsOf_uniq {L : List (Nat × Nat)} {U k0 : Nat} (hU : U ≠ 0) (h : (L.all fun e => e.2 != U || e.1 == k0) = true) {k : Nat} (hk : idsOf L k = U) : k = k0 := by
  have hm := idsOf_memU hk hU
  have := List.all_eq_true.1 h _ hm
  simpa using this
  where
  idsOf_memU : ∀ {L : List (Nat × Nat)} {g u : Nat}, idsOf L g = u → u ≠ 0 → (g, u) ∈ L
  | [], g, u, h, h0 => absurd h.symm h0
  | (k, v) :: L, g, u, h, h0 => by
    simp only [idsOf] at h
    split at h
    · rename_i hk; subst hk h; simp
    · exact List.mem_cons_of_mem _ (idsOf_memU h h0)
/-- the numbers of the functions of the library that are answered by `ext` -/
def extIds : List Nat := [873, 790, 810, 816, 283, 784, 785, 786, 787, 788, 789]
theorem ext_else {u : Nat} (h : u ∉ extIds) (args : List Tree) : ext u args = none := by
  unfold ext
  split
  · exact absurd (by simp [extIds]) h
  · exact absurd (by simp [extIds]) h
  · exact absurd (by simp [extIds]) h
  · exact absurd (by simp [extIds]) h
  · exact absurd (by simp [extIds]) h
  · exact absurd (by simp [extIds]) h
  · exact absurd (by simp [extIds]) h
  · exact absurd (by simp [extIds]) h
  · exact absurd (by simp [extIds]) h
  · exact absurd (by simp [extIds]) h
  · exact absurd (by simp [extIds]) h
  · rfl
theorem idsOf_mem : ∀ {L : List (Nat × Nat)} {g u : Nat}, idsOf L g = u → u ≠ 0 → (g, u) ∈ L
  | [], g, u, h, h0 => absurd h.symm h0
  | (k, v) :: L, g, u, h, h0 => by
    simp only [idsOf] at h
    split at h
    · rename_i hk; subst hk h; simp
    · exact List.mem_cons_of_mem _ (idsOf_mem h h0)
def ExtAll (P : Program) (ids : Ids) : List (Nat × Nat) → Prop
  | [] => True
  | e :: l => ExtOk P ids e.1 e.2 ∧ ExtAll P ids l
theorem ExtAll.mem {P : Program} {ids : Ids} : ∀ {l : List (Nat × Nat)}, ExtAll P ids l → ∀ e, e ∈ l → ExtOk P ids e.1 e.2
  | e' :: l, h, e, he => by
    simp only [List.mem_cons] at he
    rcases he with rfl | he
    · exact h.1
    · exact h.2.mem e he
/-- the oracle is sound where its functions are those of the program -/
theorem sound_extT {P : Program} {ids : Ids} {L : List (Nat × Nat)} (hids : ids.f = idsOf L) (X : List (Nat × Nat)) (hx : (L.filter fun e => extIds.contains e.2) = X) (h : ExtAll P ids X) : Sound P ids ext := by
  intro g args r outs he
  rw [hids] at he
  by_cases hu : idsOf L g ∈ extIds
  · have hm := idsOf_mem (L := L) (g := g) rfl (fun h0 => by rw [h0] at hu; simp [extIds] at hu)
    obtain ⟨h1, h2⟩ := h.mem _ (by rw [← hx]; exact List.mem_filter.2 ⟨hm, by simpa using hu⟩)
    exact ⟨h1, h2 args r outs he⟩
  · rw [ext_else hu] at he; cases he
end Go.Vs
/- For proofs about the typed functions: what they give, and loops. -/
namespace Go.Vs
open Go

/-- a partial value is there and fits -/
def wp {α : Type} (D : Option α) (Q : α → Prop) : Prop := ∃ x, D = some x ∧ Q x

theorem w64_def (n : Int) : w64 n = (n + 9223372036854775808) % 18446744073709551616 - 9223372036854775808 := by
  simp only [w64, IntKind.wrap, IntKind.bits, IntKind.signed]
  simp
  split <;> omega
theorem w64_id {n : Int} (h0 : -9223372036854775808 ≤ n) (h1 : n ≤ 9223372036854775807) : w64 n = n := by rw [w64_def]; omega
theorem w64_lo (n : Int) : -9223372036854775808 ≤ w64 n := by rw [w64_def]; omega
theorem w64_hi (n : Int) : w64 n ≤ 9223372036854775807 := by rw [w64_def]; omega
theorem w8_def (n : Int) : IntKind.wrap .u8 n = n % 256 := by simp [IntKind.wrap, IntKind.bits, IntKind.signed]
theorem wu64_def (n : Int) : IntKind.wrap .u64 n = n % 18446744073709551616 := by simp [IntKind.wrap, IntKind.bits, IntKind.signed]
theorem imax_def (a b : Int) : imax a b = max a b := by unfold imax; split <;> omega
theorem imin_def (a b : Int) : imin a b = min a b := by unfold imin; split <;> omega
theorem lim_def : lim = 4294967296 := rfl
theorem loopLim_def : loopLim = 18446744073709551616 := rfl

section
variable {α β S B R : Type} {Q : α → Prop}

theorem wp_some {x : α} (h : Q x) : wp (some x) Q := ⟨x, rfl, h⟩
theorem wp_bind {A : Option β} {k : β → Option α} (h : wp A (fun x => wp (k x) Q)) : wp (A.bind k) Q := by
  obtain ⟨x, rfl, y, h1, h2⟩ := h; exact ⟨y, h1, h2⟩
theorem wp_eq {A : Option α} {x : α} (h : A = some x) (hq : Q x) : wp A Q := ⟨x, h, hq⟩
theorem wp_mono {A : Option α} {P : α → Prop} (h : wp A P) (hpq : ∀ x, P x → Q x) : wp A Q := by obtain ⟨x, h1, h2⟩ := h; exact ⟨x, h1, hpq x h2⟩
theorem wp_ite {p : Prop} [Decidable p] {A A' : Option α} (h1 : p → wp A Q) (h2 : ¬ p → wp A' Q) : wp (if p then A else A') Q := by
  by_cases hp : p
  · rw [if_pos hp]; exact h1 hp
  · rw [if_neg hp]; exact h2 hp
theorem eq_of_wp {A : Option α} {x : α} (h : wp A (fun y => y = x)) : A = some x := by obtain ⟨y, h1, h2⟩ := h; rw [h1, h2]

theorem at_ok {l : List α} {i : Int} (h0 : 0 ≤ i) (h1 : i.toNat < l.length) : at? l i = some l[i.toNat] := by
  simp [at?, h0, h1]
theorem at_nat {l : List α} {n : Nat} (h1 : n < l.length) : at? l (n : Int) = some l[n] := by
  rw [at_ok (by omega) (by simpa using h1)]; simp
theorem at_get? {l : List α} {i : Int} (h0 : 0 ≤ i) : at? l i = l[i.toNat]? := by simp [at?, h0]
theorem wp_at {l : List α} {i : Int} (h0 : 0 ≤ i) (h1 : i < l.length) (h : ∀ v, l[i.toNat]? = some v → Q v) : wp (at? l i) Q := by
  have h2 : i.toNat < l.length := by omega
  exact ⟨l[i.toNat], at_ok h0 h2, h _ (List.getElem?_eq_getElem h2)⟩
theorem app_ok {l m : List α} (h : l.length + m.length ≤ 4294967296) : app? l m = some (l ++ m) := by simp [app?, lim_def, h]
theorem mk_ok {n : Int} {z : α} (h0 : 0 ≤ n) (h : n ≤ 4294967296) : mk? n z = some (List.replicate n.toNat z) := by
  have : n.toNat ≤ 4294967296 := by omega
  simp [mk?, lim_def, h0, this]
theorem div_ok {k : IntKind} {a b : Int} (h : b ≠ 0) : div? k a b = some (k.wrap (a.tdiv b)) := by simp [div?, h]
theorem mod_ok {a b : Int} (h : b ≠ 0) : mod? a b = some (a.tmod b) := by simp [mod?, h]
theorem sub_ok {l : List α} {a b : Int} (h0 : 0 ≤ a) (h1 : a ≤ b) (h2 : b ≤ l.length) : sub? l a b = some ((l.take b.toNat).drop a.toNat) := by simp [sub?, h0, h1, h2]
theorem s2b_ok {s : List UInt8} (h : s.length ≤ 4294967296) : s2b? s = some (s.map fun b => (b.toNat : Int)) := by simp [s2b?, lim_def, h]

/-- a loop by an invariant and a measure -/
theorem wp_loop {body : S → Option (Step S B R)} {kb : B → Option α} {kr : R → Option α} (I : S → Prop) (μ : S → Nat) {s0 : S} (h0 : I s0) (hm : μ s0 < 18446744073709551616)
    (hs : ∀ s, I s → wp (body s) fun o => match o with | .next s' => I s' ∧ μ s' < μ s | .brk b => wp (kb b) Q | .ret r => wp (kr r) Q) : wp (onL (loop body loopLim s0) kb kr) Q := by
  have key : ∀ (n : Nat) (s : S), I s → μ s < n → wp (onL (loop body n s) kb kr) Q := by
    intro n
    induction n with
    | zero => intro s _ h; omega
    | succ n ih =>
      intro s hI hn
      obtain ⟨o, h1, h2⟩ := hs s hI
      simp only [loop, h1]
      cases o with
      | next s' => simp only at h2 ⊢; exact ih s' h2.1 (by omega)
      | brk b => exact h2
      | ret r => exact h2
  exact key _ _ h0 (by rw [loopLim_def]; exact hm)

/-- a loop that counts: the state at round k is told -/
theorem loop_count {body : S → Option (Step S B R)} (st : Nat → S) {o : Out B R} : ∀ (m : Nat) (n k : Nat), m < n → (∀ j, k ≤ j → j < k + m → body (st j) = some (.next (st (j + 1)))) →
    (match o with | .brk b => body (st (k + m)) = some (.brk b) | .ret r => body (st (k + m)) = some (.ret r)) → loop body n (st k) = some o
  | 0, n + 1, k, _, _, h2 => by
    simp only [loop]
    cases o with
    | brk b => simp only [Nat.add_zero] at h2; rw [h2]
    | ret r => simp only [Nat.add_zero] at h2; rw [h2]
  | m + 1, n + 1, k, hn, h1, h2 => by
    simp only [loop, h1 k (Nat.le_refl _) (by omega)]
    exact loop_count st m n (k + 1) (by omega) (fun j hj hj2 => h1 j (by omega) (by omega)) (by rw [show k + 1 + m = k + (m + 1) by omega]; exact h2)
theorem loop_brk {body : S → Option (Step S B R)} (st : Nat → S) {b : B} (m : Nat) (hm : m < 18446744073709551616) (h1 : ∀ j, j < m → body (st j) = some (.next (st (j + 1)))) (h2 : body (st m) = some (.brk b)) : loop body loopLim (st 0) = some (.brk b) :=
  loop_count st m _ 0 (by rw [loopLim_def]; exact hm) (fun j _ hj => h1 j (by omega)) (by simpa using h2)
theorem loop_ret' {body : S → Option (Step S B R)} (st : Nat → S) {r : R} (m : Nat) (hm : m < 18446744073709551616) (h1 : ∀ j, j < m → body (st j) = some (.next (st (j + 1)))) (h2 : body (st m) = some (.ret r)) : loop body loopLim (st 0) = some (.ret r) :=
  loop_count st m _ 0 (by rw [loopLim_def]; exact hm) (fun j _ hj => h1 j (by omega)) (by simpa using h2)

theorem onL_brk {kb : B → Option α} {kr : R → Option α} {b : B} : onL (some (.brk b)) kb kr = kb b := rfl
theorem onL_ret {kb : B → Option α} {kr : R → Option α} {r : R} : onL (some (.ret r)) kb kr = kr r := rfl
theorem onS_next {kn : S → Option α} {kb : B → Option α} {kr : R → Option α} {s : S} : onS (some (.next s)) kn kb kr = kn s := rfl
theorem onS_brk {kn : S → Option α} {kb : B → Option α} {kr : R → Option α} {b : B} : onS (some (.brk b)) kn kb kr = kb b := rfl
theorem onS_ret {kn : S → Option α} {kb : B → Option α} {kr : R → Option α} {r : R} : onS (some (.ret r)) kn kb kr = kr r := rfl
theorem wp_onS {o : Option (Step S B R)} {kn : S → Option α} {kb : B → Option α} {kr : R → Option α} (h : wp o fun o => match o with | .next s => wp (kn s) Q | .brk b => wp (kb b) Q | .ret r => wp (kr r) Q) : wp (onS o kn kb kr) Q := by
  obtain ⟨x, rfl, h⟩ := h
  cases x <;> exact h
end
/- lists told by a function -/
def tab {α : Type} (f : Nat → α) (n : Nat) : List α := (List.range n).map f
section
variable {α : Type} {f g : Nat → α} {n : Nat}
@[simp] theorem tab_length : (tab f n).length = n := by simp [tab]
theorem tab_get {i : Nat} (h : i < n) : (tab f n)[i]? = some (f i) := by simp [tab, h]
theorem tab_at {i : Int} (h0 : 0 ≤ i) (h1 : i < n) : at? (tab f n) i = some (f i.toNat) := by
  rw [at_get? h0, tab_get (by omega)]
theorem tab_congr (h : ∀ i, i < n → f i = g i) : tab f n = tab g n := by
  unfold tab; exact List.map_congr_left fun i hi => h i (by simpa using hi)
theorem tab_zero : tab f 0 = [] := rfl
theorem tab_succ : tab f (n + 1) = tab f n ++ [f n] := by simp [tab, List.range_succ]
theorem tab_replicate {z : α} : List.replicate n z = tab (fun _ => z) n := by
  induction n with
  | zero => rfl
  | succ n ih => rw [tab_succ, ← ih, List.replicate_succ']
theorem tab_set {i : Nat} {v : α} : (tab f n).set i v = tab (fun j => if j = i then v else f j) n := by
  apply List.ext_getElem?
  intro j
  rw [List.getElem?_set]
  by_cases hj : j < n
  · by_cases hij : i = j
    · subst hij; rw [if_pos rfl, if_pos (by simpa using hj), tab_get hj, if_pos rfl]
    · have : ¬ j = i := fun e => hij e.symm
      rw [tab_get hj, if_neg hij, tab_get hj, if_neg this]
  · have e1 : (tab (fun j => if j = i then v else f j) n)[j]? = none := List.getElem?_eq_none (by simpa using hj)
    have e2 : (tab f n)[j]? = none := List.getElem?_eq_none (by simpa using hj)
    rw [e1, e2]
    split
    · split
      · rename_i h2; simp at h2; omega
      · rfl
    · rfl
theorem eq_tab (l : List α) (d : α) : l = tab (fun i => l.getD i d) l.length := by
  apply List.ext_getElem?
  intro j
  by_cases hj : j < l.length
  · rw [tab_get hj]; simp [List.getD, List.getElem?_eq_getElem hj]
  · rw [List.getElem?_eq_none (by omega), List.getElem?_eq_none (by simp; omega)]
end
end Go.Vs
