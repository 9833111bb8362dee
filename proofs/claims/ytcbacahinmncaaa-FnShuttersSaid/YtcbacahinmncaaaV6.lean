/- The framework by which this claim is proved, part 6 of 6: an interpreter of the program over value trees, and its soundness. No conditions. -/
import Derived.Test.YtcbacahinmncaaaV4
import Derived.ProofKit
import Derived.Test.YtcbacahinmncaaaV5
import Derived.Carry
import Derived.Handed
import Derived.KernelRfl
/- A law's arguments, read as data, are trees. -/
namespace Go.Vs
open Go

def contig (P : Program) : Nat → List Field → Option Nat
  | off, [] => some off
  | off, f :: fs => if f.offset = off then contig P (off + P.cellsOf f.type) fs else none

/-- types of plain data -/
def okTy (P : Program) : Nat → TypeId → Bool
  | 0, _ => false
  | n + 1, t => match P.underlying t with
    | some .bool => true
    | some (.int _) => true
    | some .string => true
    | some (.slice e) => okTy P n e && decide (0 < P.cellsOf e)
    | some (.struct fs) => contig P 0 fs.toList == some (P.cellsOf t) && fs.toList.all fun f => okTy P n f.type
    | _ => false

def mkT (P : Program) (t : TypeId) (cs : List Tree) : Tree :=
  match P.underlying t with
  | some (.struct _) => .agg cs
  | _ => match cs with
    | [c] => c
    | _ => .agg cs

/-- the shared cells of a value of type t -/
def Shaped (P : Program) : Nat → TypeId → List Tree → Prop
  | 0, _, _ => False
  | n + 1, t, ts => match P.underlying t with
    | some .bool => ∃ b, ts = [.bool b]
    | some (.int k) => ∃ m, ts = [.int k m] ∧ (Lit.int k m).wf = true
    | some .string => ∃ s : List UInt8, ts = [.str s] ∧ s.length ≤ maxLen
    | some (.slice e) => ∃ es, ts = [.sl false (P.cellsOf e) es] ∧ es.length ≤ maxLen ∧ ∀ x ∈ es, ∃ cs, Shaped P n e cs ∧ x = mkT P e cs
    | some (.struct fs) => ∃ css : List (List Tree), ts = css.flatten ∧ ShapedL (Shaped P n) (fs.toList.map (·.type)) css
    | _ => False
  where ShapedL (sh : TypeId → List Tree → Prop) : List TypeId → List (List Tree) → Prop
  | [], [] => True
  | t :: ts, c :: cs => sh t c ∧ ShapedL sh ts cs
  | _, _ => False

section
variable {ids : Nat → Nat} {H : Type} {enc : TypeId × Value → H} {P : Program} {w : World} {sp : Nat → Bool} {N : Nat}

theorem repL_append' {S : Nat → Prop} : ∀ {ts ts' : List Tree} {vs vs' : List Value}, RepL ids S w ts vs [] → RepL ids S w ts' vs' [] → RepL ids S w (ts ++ ts') (vs ++ vs') []
  | [], ts', vs, vs', h, h' => by
    simp only [RepL] at h; obtain ⟨rfl, _⟩ := h; simpa using h'
  | t :: ts, ts', vs, vs', h, h' => by
    simp only [RepL] at h
    obtain ⟨v, vs1, o1, o2, rfl, h1, h2, h3⟩ := h
    obtain ⟨rfl, rfl⟩ := List.append_eq_nil_iff.1 h3.symm
    simp only [List.cons_append, RepL]
    exact ⟨v, vs1 ++ vs', [], [], rfl, h1, repL_append' h2 h', rfl⟩

theorem mkT_cells {t : TypeId} {n : Nat} {cs : List Tree} (h : Shaped P (n + 1) t cs) : (mkT P t cs).cells = cs := by
  unfold Shaped at h
  unfold mkT
  split at h
  · rename_i hu; obtain ⟨b, rfl⟩ := h; simp [hu, Tree.cells]
  · rename_i k hu; obtain ⟨m, rfl, _⟩ := h; simp [hu, Tree.cells]
  · rename_i hu; obtain ⟨m, rfl, _⟩ := h; simp [hu, Tree.cells]
  · rename_i e hu; obtain ⟨m, rfl, _⟩ := h; simp [hu, Tree.cells]
  · rename_i fs hu; simp [hu, Tree.cells]
  · exact absurd h id

theorem trod_rep : ∀ (n : Nat) (t : TypeId), okTy P n t = true → ∀ (fuel : Nat) (cs : List Value) (d : DataW H) (ps : List MemPlace),
    DataW.trod enc P w 0 sp true fuel t cs = some (d, ps) → (∀ x, x ∈ ps → x.block < N) → ∃ ts, Shaped P n t ts ∧ RepL ids (fun b => b < N) w ts cs [] ∧ ∀ u, u ∈ cs → u.oneCell' = true := by
  intro n
  induction n with
  | zero => intro t h; simp [okTy] at h
  | succ n ih =>
    intro t hok fuel cs d ps h hps
    unfold okTy at hok
    split at hok
    · rename_i hu
      obtain ⟨b, rfl, _⟩ := DataW.trod_bool hu h
      refine ⟨[.bool b], by unfold Shaped; rw [hu]; exact ⟨b, rfl⟩, ?_, by simp [Value.oneCell']⟩
      simp only [RepL, Rep]; exact ⟨_, [], [], [], rfl, ⟨rfl, rfl⟩, ⟨rfl, rfl⟩, rfl⟩
    · rename_i k hu
      obtain ⟨m, rfl, _, hw⟩ := DataW.trod_int hu h
      refine ⟨[.int k m], by unfold Shaped; rw [hu]; exact ⟨m, rfl, hw⟩, ?_, by simp [Value.oneCell']⟩
      simp only [RepL, Rep]; exact ⟨_, [], [], [], rfl, ⟨rfl, rfl⟩, ⟨rfl, rfl⟩, rfl⟩
    · rename_i hu
      obtain ⟨s, rfl, _, hs⟩ := DataW.trod_string hu h
      refine ⟨[.str s.data.toList], by unfold Shaped; rw [hu]; exact ⟨s.data.toList, rfl, by simpa using hs⟩, ?_, by simp [Value.oneCell']⟩
      simp only [RepL, Rep]; exact ⟨_, [], [], [], rfl, ⟨by simp, rfl⟩, ⟨rfl, rfl⟩, rfl⟩
    · rename_i e hu
      simp only [Bool.and_eq_true, decide_eq_true_eq] at hok
      obtain ⟨hoe, hpos⟩ := hok
      rcases DataW.trod_slice hu h with ⟨rfl, _⟩ | ⟨a, len, cap, elems, rest, m, _, rfl, hx, _, hlc, hcm, hlen, hel, _, _⟩
      · refine ⟨[.sl false (P.cellsOf e) []], by unfold Shaped; rw [hu]; exact ⟨[], rfl, by simp [maxLen], by simp⟩, ?_, by simp [Value.oneCell']⟩
        simp only [RepL, Rep]
        exact ⟨_, [], [], [], rfl, ⟨rfl, hpos, none, 0, rfl, Nat.le_refl _, .inl trivial⟩, ⟨rfl, rfl⟩, rfl⟩
      · simp only [Prod.mk.injEq] at hx
        obtain ⟨_, rfl⟩ := hx
        -- each element
        have each : ∀ i, i < len → ∃ vs ts, w.cells? 0 (a.add (i * P.cellsOf e)) (P.cellsOf e) = some vs ∧ Shaped P n e ts ∧ RepL ids (fun b => b < N) w ts vs [] ∧ ∀ u, u ∈ vs → u.oneCell' = true := by
          intro i hi
          have h1 := hel i hi
          have hlt : i < elems.length := by omega
          rw [List.getElem?_eq_getElem hlt, Option.bind_eq_some_iff] at h1
          obtain ⟨vs, hvs, h2⟩ := h1
          obtain ⟨ts, g1, g2, g3⟩ := ih e hoe m vs _ _ (by rw [h2]) (fun x hx => hps x (by
            simp only [List.mem_append, List.mem_flatMap]
            exact .inr ⟨elems[i], .inl (List.getElem_mem hlt), hx⟩))
          exact ⟨vs, ts, hvs, g1, g2, g3⟩
        have hab : 0 < len → a.block < N ∧ a.spot = none := by
          intro h0
          obtain ⟨vs, ts, hvs, _⟩ := each 0 h0
          have hc := (World.cells?_some hvs).2.2 0 hpos
          simp only [Nat.zero_mul, Addr.add, if_true] at hc
          refine ⟨hps (.cell a.block a.off) ?_, ?_⟩
          · refine List.mem_append_left _ ?_
            unfold MemPlace.row
            have : 0 < (elems.length + rest.length) * P.cellsOf e := Nat.mul_pos (by omega) hpos
            exact List.mem_map.2 ⟨0, List.mem_range.2 this, by simp⟩
          · cases hs : a.spot with
            | none => rfl
            | some q =>
              unfold World.cell? at hc
              simp only [hs, Option.isSome_some, if_true] at hc
              have hv0 : 0 < vs.length := by have := (World.cells?_some hvs).2.1; omega
              rw [List.getElem?_eq_getElem hv0] at hc
              split at hc <;> cases hc
        have hrow : ∃ es : List Tree, es.length = len ∧ (∀ x ∈ es, ∃ cs, Shaped P n e cs ∧ x = mkT P e cs) ∧ (0 < len → RepEs ids (fun b => b < N) w es (P.cellsOf e) a.block a.off []) := by
          have key : ∀ (k i : Nat), i + k = len → ∃ es : List Tree, es.length = k ∧ (∀ x ∈ es, ∃ cs, Shaped P n e cs ∧ x = mkT P e cs) ∧ (0 < len → RepEs ids (fun b => b < N) w es (P.cellsOf e) a.block (a.off + i * P.cellsOf e) []) := by
            intro k
            induction k with
            | zero => intro i _; exact ⟨[], rfl, by simp, fun _ => by simp [RepEs]⟩
            | succ k ihk =>
              intro i hik
              obtain ⟨es, e1, e2, e3⟩ := ihk (i + 1) (by omega)
              obtain ⟨vs, ts, hvs, g1, g2, g3⟩ := each i (by omega)
              obtain ⟨_, hvl, hvc⟩ := World.cells?_some hvs
              refine ⟨mkT P e ts :: es, by simp [e1], ?_, ?_⟩
              · intro x hx
                rcases List.mem_cons.1 hx with rfl | hx
                · exact ⟨ts, g1, rfl⟩
                · exact e2 x hx
              · intro h0
                obtain ⟨hN, hsp⟩ := hab h0
                have hn : ∃ q, n = q + 1 := by
                  cases n with
                  | zero => simp [okTy] at hoe
                  | succ q => exact ⟨q, rfl⟩
                obtain ⟨q, rfl⟩ := hn
                simp only [RepEs, repE_iff, mkT_cells g1]
                have htl : ts.length = vs.length := (repL_length _ _ _ g2).symm
                refine ⟨[], [], ⟨by omega, ?_⟩, ?_, rfl⟩
                · refine repCs_row _ vs _ _ _ g2 g3 fun j u hj => ?_
                  have hjl := (List.getElem?_eq_some_iff.1 hj).1
                  have := hvc j (by omega)
                  rw [← this] at hj
                  obtain ⟨ab, ao, as⟩ := a
                  simp only at hsp; subst hsp
                  have e4 : (Addr.add (Addr.add ⟨ab, ao, none⟩ (i * P.cellsOf e)) j) = ⟨ab, ao + i * P.cellsOf e + j, none⟩ := by
                    unfold Addr.add; split <;> split <;> simp_all
                  rw [e4] at hj; exact hj
                · have := e3 h0
                  rw [Nat.succ_mul, ← Nat.add_assoc] at this; exact this
          obtain ⟨es, e1, e2, e3⟩ := key len 0 (by omega)
          exact ⟨es, e1, e2, fun h0 => by simpa using e3 h0⟩
        obtain ⟨es, e1, e2, e3⟩ := hrow
        refine ⟨[.sl false (P.cellsOf e) es], by unfold Shaped; rw [hu]; exact ⟨es, rfl, by omega, e2⟩, ?_, by simp [Value.oneCell']⟩
        simp only [RepL, Rep]
        refine ⟨_, [], [], [], rfl, ⟨rfl, hpos, some a, cap, by rw [e1], by omega, ?_⟩, ⟨rfl, rfl⟩, rfl⟩
        by_cases h0 : len = 0
        · exact .inl (List.eq_nil_of_length_eq_zero (by omega))
        · right
          obtain ⟨hN, hsp⟩ := hab (by omega)
          refine ⟨a.block, a.off, ?_, hN, e3 (by omega)⟩
          obtain ⟨ab, ao, as⟩ := a
          simp only at hsp; subst hsp; rfl
    · rename_i fs hu
      simp only [Bool.and_eq_true, beq_iff_eq, List.all_eq_true] at hok
      obtain ⟨hco, hall⟩ := hok
      obtain ⟨xs, m, _, hx, hcl, hxl, hf⟩ := DataW.trod_struct hu h
      simp only [Prod.mk.injEq] at hx
      obtain ⟨_, rfl⟩ := hx
      have key : ∀ (l : List Field) (i off : Nat), fs.toList.drop i = l → contig P off l = some (P.cellsOf t) → ∃ css : List (List Tree), Shaped.ShapedL (Shaped P n) (l.map (·.type)) css ∧ RepL ids (fun b => b < N) w css.flatten (cs.drop off) [] ∧ (∀ u, u ∈ cs.drop off → u.oneCell' = true) := by
        intro l
        induction l with
        | nil =>
          intro i off _ hc
          simp only [contig, Option.some.injEq] at hc
          have : cs.drop off = [] := List.drop_eq_nil_of_le (by omega)
          exact ⟨[], trivial, by simp [RepL, this], by simp [this]⟩
        | cons f l ihl =>
          intro i off hd hc
          simp only [contig] at hc
          split at hc
          · rename_i hoff
            have hil : i < fs.toList.length := by
              refine Classical.byContradiction fun hn => ?_
              rw [List.drop_eq_nil_of_le (by omega)] at hd; cases hd
            have hfi : fs[i]? = some f := by
              have := congrArg (·[0]?) hd
              simpa using this
            have hd' : fs.toList.drop (i + 1) = l := by
              rw [← List.drop_drop, hd]; rfl
            obtain ⟨css, c1, c2, c3⟩ := ihl (i + 1) _ hd' hc
            have h1 := hf i f hfi
            have hxi : i < xs.length := by rw [hxl]; simpa using hil
            rw [List.getElem?_eq_getElem hxi] at h1
            obtain ⟨ts, g1, g2, g3⟩ := ih f.type (hall f (by have := Array.mem_of_getElem? hfi; simpa using this)) m _ _ _ (by rw [h1]) (fun x hx => hps x (List.mem_flatMap.2 ⟨xs[i], List.getElem_mem hxi, hx⟩))
            rw [hoff] at g2 g3
            have hsplit : cs.drop off = (cs.drop off).take (P.cellsOf f.type) ++ cs.drop (off + P.cellsOf f.type) := by
              rw [← List.drop_drop]; exact (List.take_append_drop _ _).symm
            refine ⟨ts :: css, ⟨g1, c1⟩, ?_, ?_⟩
            · rw [hsplit, List.flatten_cons]; exact repL_append' g2 c2
            · intro u hu'
              rw [hsplit] at hu'
              rcases List.mem_append.1 hu' with hu' | hu'
              · exact g3 u hu'
              · exact c3 u hu'
          · cases hc
      obtain ⟨css, c1, c2, c3⟩ := key fs.toList 0 0 rfl hco
      refine ⟨css.flatten, by unfold Shaped; rw [hu]; exact ⟨css, rfl, c1⟩, by simpa using c2, by simpa using c3⟩
    · cases hok
end
end Go.Vs
/- From a law's typed function to the law's statement. -/
namespace Go.Vs
open Go Go.RowKit Go.ChangeShapes Go.WideShapes

def allOk (P : Program) (L : List (Nat × Nat)) (T : Nat → Option PFunc) : Bool :=
  L.all fun e => match T (idsOf L e.1) with
    | some pf => okAt P (idsOf L) e.1 pf
    | none => true

theorem conf_all {P : Program} {L : List (Nat × Nat)} {T : Nat → Option PFunc} (h0 : T 0 = none) (h : allOk P L T = true) : ∀ g pf, T (idsOf L g) = some pf → okAt P (idsOf L) g pf = true := by
  refine conf_of h0 fun e he pf hT => ?_
  have := List.all_eq_true.1 h e he
  rw [hT] at this; exact this

def ShapedAll (P : Program) (n : Nat) : List TypeId → List Tree → Prop
  | [], [] => True
  | t :: ts, x :: xs => (∃ cs, Shaped P n t cs ∧ x = mkT P t cs) ∧ ShapedAll P n ts xs
  | _, _ => False

section
variable {ids : Nat → Nat} {H : Type} {enc : TypeId × Value → H} {P : Program} {W : World} {sp : Nat → Bool} {n : Nat}

theorem value_rep {r : Reach} {b0 : Nat} {t : TypeId} {v : Value} {cs : List Tree} {S : Nat → Prop} (hw : Value.okWide P W r b0 t v) (hs : Shaped P (n + 1) t cs) (hr : RepL ids S W cs v.cells.toList []) (h1 : ∀ u, u ∈ v.cells.toList → u.oneCell' = true) :
    Rep ids S W (mkT P t cs) v [] := by
  have one : ∀ x, cs = [x] → v.cells = #[v] → Rep ids S W x v [] := by
    rintro x rfl hv
    rw [hv] at hr
    simp only [RepL] at hr
    obtain ⟨v', vs', o1, o2, e, h2, h3, h4⟩ := hr
    simp only [List.cons.injEq] at e
    obtain ⟨rfl, rfl⟩ := e
    obtain ⟨rfl, rfl⟩ := List.append_eq_nil_iff.1 h4.symm
    exact h2
  have nagg : (∀ fs, P.underlying t ≠ some (.struct fs)) → (∀ m e, P.underlying t ≠ some (.array m e)) → (∃ d, P.underlying t = some d ∧ (d = .bool ∨ (∃ k, d = .int k) ∨ d = .string ∨ ∃ e, d = .slice e)) → v.cells = #[v] := by
    rintro _ _ ⟨d, hd, h⟩
    cases v with
    | agg cs => 
      exfalso
      rcases h with rfl | ⟨k, rfl⟩ | rfl | ⟨e, rfl⟩ <;> simp [Value.okWide, hd, Cell.okWide, Cell.ok] at hw
    | _ => rfl
  unfold Shaped at hs
  unfold mkT
  split at hs
  · rename_i hu; obtain ⟨b, rfl⟩ := hs
    simp only [hu]
    exact one _ rfl (nagg (by simp [hu]) (by simp [hu]) ⟨_, hu, .inl rfl⟩)
  · rename_i k hu; obtain ⟨m, rfl, _⟩ := hs
    simp only [hu]
    exact one _ rfl (nagg (by simp [hu]) (by simp [hu]) ⟨_, hu, .inr (.inl ⟨k, rfl⟩)⟩)
  · rename_i hu; obtain ⟨m, rfl, _⟩ := hs
    simp only [hu]
    exact one _ rfl (nagg (by simp [hu]) (by simp [hu]) ⟨_, hu, .inr (.inr (.inl rfl))⟩)
  · rename_i e hu; obtain ⟨m, rfl, _⟩ := hs
    simp only [hu]
    exact one _ rfl (nagg (by simp [hu]) (by simp [hu]) ⟨_, hu, .inr (.inr (.inr ⟨e, rfl⟩))⟩)
  · rename_i fs hu
    simp only [hu]
    simp only [Value.okWide, hu] at hw
    obtain ⟨vs, rfl, _, _⟩ := hw
    simp only [Value.cells] at hr h1
    simp only [Rep]
    exact ⟨vs, rfl, fun u hu => h1 u (by simpa using hu), hr⟩
  · exact hs.elim

theorem args_rep : ∀ (ts : List TypeId) (vs : List Value) (ds : List (DataW H)) (ps : List MemPlace), DataW.TrodAll enc P W 0 sp true ts vs ds ps → (∀ (j : Nat) t v, ts[j]? = some t → vs[j]? = some v → Value.okWide P W .any 0 t v) →
    ts.all (okTy P n) = true → (∀ x ∈ ps, x.block < W.heap.size) → ∃ trees, ShapedAll P n ts trees ∧ RepL ids (fun b => b < W.heap.size) W trees vs []
  | [], [], [], ps, _, _, _, _ => ⟨[], trivial, by simp [RepL]⟩
  | t :: ts, v :: vs, d :: ds, ps, h, hv, hok, hlt => by
    obtain ⟨p, q, ⟨fuel, h1⟩, h2, rfl⟩ := h
    simp only [List.all_cons, Bool.and_eq_true] at hok
    obtain ⟨cs, g1, g2, g3⟩ := trod_rep (ids := ids) n t hok.1 fuel _ d p h1 (fun x hx => hlt x (List.mem_append_left _ hx))
    obtain ⟨trees, g4, g5⟩ := args_rep ts vs ds q h2 (fun j t' v' a b => hv (j + 1) t' v' (by simpa using a) (by simpa using b)) hok.2 (fun x hx => hlt x (List.mem_append_right _ hx))
    have hn : ∃ m, n = m + 1 := by
      cases n with
      | zero => simp [okTy] at hok
      | succ m => exact ⟨m, rfl⟩
    obtain ⟨m, rfl⟩ := hn
    refine ⟨mkT P t cs :: trees, ⟨⟨cs, g1, rfl⟩, g4⟩, ?_⟩
    simp only [RepL]
    exact ⟨v, vs, [], [], rfl, value_rep (hv 0 t v rfl rfl) g1 g2 g3, g5, rfl⟩
  | [], _ :: _, _, _, h, _, _, _ => by simp [DataW.TrodAll] at h
  | [], [], _ :: _, _, h, _, _, _ => by simp [DataW.TrodAll] at h
  | _ :: _, [], _, _, h, _, _, _ => by simp [DataW.TrodAll] at h
  | _ :: _, _ :: _, [], _, h, _, _, _ => by simp [DataW.TrodAll] at h

theorem trodAll_behind (hl : laidOutB P = true) {W' : World} (hb : Below W.heap.size W W') : ∀ (ts : List TypeId) (vs : List Value) (ds : List (DataW H)) (ps : List MemPlace), ts.all (fun t => P.readableRec t && decide (t < P.types.size)) = true →
    DataW.TrodAll enc P W 0 (fun _ => true) true ts vs ds ps → (∀ x ∈ ps, x.block < W.heap.size) → DataW.TrodAll enc P W' 0 (fun b => decide (b < W.heap.size)) true ts vs ds ps
  | [], [], [], ps, _, h, _ => h
  | t :: ts, v :: vs, d :: ds, ps, hr, h, hlt => by
    obtain ⟨p, q, h1, h2, rfl⟩ := h
    simp only [List.all_cons, Bool.and_eq_true, decide_eq_true_eq] at hr
    exact ⟨p, q, Below.trod hl hr.1.1 hr.1.2 h1 hb (fun x hx => hlt x (List.mem_append_left _ hx)), trodAll_behind hl hb ts vs ds q hr.2 h2 (fun x hx => hlt x (List.mem_append_right _ hx)), rfl⟩
  | [], _ :: _, _, _, _, h, _ => by simp [DataW.TrodAll] at h
  | [], [], _ :: _, _, _, h, _ => by simp [DataW.TrodAll] at h
  | _ :: _, [], _, _, _, h, _ => by simp [DataW.TrodAll] at h
  | _ :: _, _ :: _, [], _, _, h, _ => by simp [DataW.TrodAll] at h
end

/-- a law over plain data without package variables -/
theorem law_lifted {C : Checked} {os : Os} {g : FuncId} {fn : Func} {s : ChangeSpec} {conds : List PathCond} {apart : Bool} {L : List (Nat × Nat)} {T : Nat → Option PFunc} {d n : Nat} {tb : TypeId} {H : Type} {enc : TypeId × Value → H}
    (own : ownKnob C.prog.godebug = none) (hlaid : laidOutB C.prog = true) (started : os.Started) (noInit : C.prog.inits.idxOf? g = none) (hfn : C.prog.funcs[g]? = some fn)
    (witness : ∃ (w : World) (tape : Tape) (i : Input), w.os = os ∧ (w.forCall tape i).Shaped C.prog ∧ i.vars = [] ∧ Input.okWide C.prog (w.forCall tape i) .any w.heap.size g i ∧
      s.pre6 enc C.prog fn conds apart (w.forCall tape i).memory i.args ∧ (({} : Assume)).holds C.prog (lone (Frame.enter C.prog g i.args .normal) [] (w.forCall tape i)))
    (hmix : C.prog.follows .mixedOrders = true) (h0 : T 0 = none) (hall : allOk C.prog L T = true) (hty : fn.params.toList.all (okTy C.prog n) = true)
    (hread : fn.params.toList.all (fun t => C.prog.readableRec t && decide (t < C.prog.types.size)) = true) (hres : fn.resultTypes = #[tb]) (htb : C.prog.underlying tb = some .bool)
    (hv : s.vars = []) (hs : ∀ ds : List (DataW H), ds.length = fn.params.size → (s.fn H ds).results = [.lit (.bool true)] ∧ (s.fn H ds).args = ds ∧ (s.fn H ds).vars = [])
    (hlaw : ∀ trees, ShapedAll C.prog n fn.params.toList trees → ev T noExt d (idsOf L g) trees = some (.bool true, [])) :
    ReturnsInHanded {} C os g .any (s.pre6 enc C.prog fn conds apart) (s.post enc C.prog fn apart true false false) := by
  refine returnsInHanded_of_change own started noInit hfn witness ?_
  intro W base args ds gs before hval hW _ _
  have hval0 : ∀ (j : Nat) t v, fn.params.toList[j]? = some t → args.toList[j]? = some v → Value.okWide C.prog W .any 0 t v := fun j t v h1 h2 => by
    have := hval j t v (by simpa using h1) (by simpa using h2)
    exact this
  have hW' := hW
  obtain ⟨p, q, hA, hV, rfl, hfz, hnd⟩ := hW
  rw [hv] at hV
  have hgs : gs = [] ∧ q = [] := by
    cases gs with
    | nil => exact ⟨rfl, hV⟩
    | cons a l => exact hV.elim
  obtain ⟨rfl, rfl⟩ := hgs
  have hlt : ∀ x ∈ p, x.block < W.heap.size := fun x hx => hW'.lt x (List.mem_append_left _ hx)
  obtain ⟨trees, g1, g2⟩ := args_rep (ids := idsOf L) (n := n) fn.params.toList args.toList ds p hA hval0 hty hlt
  have hsound : Sound C.prog (idsOf L) (ev T noExt d) := sound_ev hmix sound_noExt (conf_all h0 hall) d
  refine (law_of_ev hsound (hlaw trees g1) g2).mono ?_
  rintro e w' ⟨rfl, hb⟩
  have hlen : ds.length = fn.params.size := by
    have : ∀ (ts : List TypeId) (vs : List Value) (ds : List (DataW H)) (ps : List MemPlace), DataW.TrodAll enc C.prog W 0 (fun _ => true) true ts vs ds ps → ds.length = ts.length := by
      intro ts
      induction ts with
      | nil =>
        intro vs ds ps h
        cases vs <;> cases ds <;> simp [DataW.TrodAll] at h ⊢
      | cons t ts ih =>
        intro vs ds ps h
        cases vs with
        | nil => simp [DataW.TrodAll] at h
        | cons v vs =>
          cases ds with
          | nil => simp [DataW.TrodAll] at h
          | cons d ds => obtain ⟨a, b, _, h2, _⟩ := h; simp [ih vs ds b h2]
    simpa using this _ _ _ _ hA
  obtain ⟨k1, k2, k3⟩ := hs ds hlen
  refine ⟨_, rfl, ds, [], p ++ [], [], p, [], hW', ?_, ?_, ?_, hb.frame _, fun h => by cases h⟩
  · simp only [List.append_nil, k1, hres, Array.toList, List.size_toArray, List.length_cons, List.length_nil]
    exact trodAll_mk1 (shut_bool htb true)
  · simp only [List.append_nil, k2]
    exact trodAll_behind hlaid hb _ _ _ _ hread hA hlt
  · simp only [List.append_nil, k3, hv]
    simp [DataW.TrodVars]
/- typed readings -/
section
variable {P : Program} {n : Nat} {t e : TypeId} {α : Type}
def Reads (P : Program) (n : Nat) (t : TypeId) (cells : α → List Tree) (ok : α → Prop) : Prop := ∀ cs, Shaped P n t cs → ∃ x, cs = cells x ∧ ok x

theorem rd_int {k : IntKind} (hu : P.underlying t = some (.int k)) : Reads P (n + 1) t (fun m => [Tree.int k m]) (okI k) := by
  intro cs h
  unfold Shaped at h
  rw [hu] at h
  obtain ⟨m, rfl, hw⟩ := h
  refine ⟨m, rfl, ?_⟩
  simpa [Lit.wf, okI] using hw
theorem rd_bool (hu : P.underlying t = some .bool) : Reads P (n + 1) t (fun m => [Tree.bool m]) okB := by
  intro cs h
  unfold Shaped at h
  rw [hu] at h
  obtain ⟨m, rfl⟩ := h
  exact ⟨m, rfl, trivial⟩
theorem rd_str (hu : P.underlying t = some .string) : Reads P (n + 1) t (fun m => [Tree.str m]) okS := by
  intro cs h
  unfold Shaped at h
  rw [hu] at h
  obtain ⟨m, rfl, hw⟩ := h
  exact ⟨m, rfl, by simpa [maxLen, okS] using hw⟩
theorem list_choice {β : Type} {enc : α → β} {ok : α → Prop} : ∀ (es : List β), (∀ y ∈ es, ∃ x, y = enc x ∧ ok x) → ∃ l : List α, es = l.map enc ∧ ∀ x ∈ l, ok x
  | [], _ => ⟨[], rfl, by simp⟩
  | y :: es, h => by
    obtain ⟨x, rfl, hx⟩ := h y (by simp)
    obtain ⟨l, rfl, hl⟩ := list_choice es fun z hz => h z (by simp [hz])
    exact ⟨x :: l, rfl, fun z hz => by rcases List.mem_cons.1 hz with rfl | hz; exact hx; exact hl z hz⟩
theorem rd_slice {sz : Nat} {cells : α → List Tree} {ok : α → Prop} {enc : α → Tree} (hu : P.underlying t = some (.slice e)) (hc : P.cellsOf e = sz) (h : Reads P n e cells ok) (henc : ∀ x, mkT P e (cells x) = enc x) :
    Reads P (n + 1) t (fun l => [Tree.sl false sz (l.map enc)]) (okL ok) := by
  intro cs hs
  unfold Shaped at hs
  rw [hu] at hs
  obtain ⟨es, rfl, hl, hes⟩ := hs
  obtain ⟨l, rfl, hok⟩ := list_choice (enc := enc) (ok := ok) es fun y hy => by
    obtain ⟨cs, h1, rfl⟩ := hes y hy
    obtain ⟨x, rfl, hx⟩ := h cs h1
    exact ⟨x, henc x, hx⟩
  exact ⟨l, by rw [hc], by simpa [maxLen] using hl, hok⟩
theorem shapedL_cons {sh : TypeId → List Tree → Prop} {ts : List TypeId} {css : List (List Tree)} : Shaped.ShapedL sh (t :: ts) css ↔ ∃ c cs, css = c :: cs ∧ sh t c ∧ Shaped.ShapedL sh ts cs := by
  cases css with
  | nil => simp [Shaped.ShapedL]
  | cons c cs =>
    simp only [Shaped.ShapedL]
    constructor
    · intro h; exact ⟨c, cs, rfl, h⟩
    · rintro ⟨c', cs', e, h⟩; cases e; exact h
theorem shapedL_nil {sh : TypeId → List Tree → Prop} {css : List (List Tree)} : Shaped.ShapedL sh [] css ↔ css = [] := by
  cases css <;> simp [Shaped.ShapedL]
theorem shaped_struct {fs : Array Field} {cs : List Tree} (hu : P.underlying t = some (.struct fs)) (h : Shaped P (n + 1) t cs) : ∃ css : List (List Tree), cs = css.flatten ∧ Shaped.ShapedL (Shaped P n) (fs.toList.map (·.type)) css := by
  unfold Shaped at h
  rw [hu] at h
  exact h
theorem mkT_one {c : Tree} (h : ∀ fs, P.underlying t ≠ some (.struct fs)) : mkT P t [c] = c := by
  unfold mkT
  split
  · rename_i fs hu; exact absurd hu (h fs)
  · rfl
theorem mkT_agg {cs : List Tree} {fs : Array Field} (h : P.underlying t = some (.struct fs)) : mkT P t cs = .agg cs := by
  unfold mkT; rw [h]
/-- one argument after the other -/
theorem sh_nil {trees : List Tree} (h : ShapedAll P n [] trees) : trees = [] := by
  cases trees with
  | nil => rfl
  | cons a l => exact h.elim
theorem sh_cons {ts : List TypeId} {trees : List Tree} {cells : α → List Tree} {ok : α → Prop} {enc : α → Tree} (h : ShapedAll P n (t :: ts) trees) (hr : Reads P n t cells ok) (henc : ∀ x, mkT P t (cells x) = enc x) :
    ∃ x xs, trees = enc x :: xs ∧ ok x ∧ ShapedAll P n ts xs := by
  cases trees with
  | nil => exact h.elim
  | cons a l =>
    obtain ⟨⟨cs, h1, rfl⟩, h2⟩ := h
    obtain ⟨x, rfl, hx⟩ := hr cs h1
    exact ⟨x, l, by rw [henc], hx, h2⟩
end
end Go.Vs
