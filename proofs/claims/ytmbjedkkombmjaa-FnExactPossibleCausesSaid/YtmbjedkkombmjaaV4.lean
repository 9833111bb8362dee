/- The framework by which this claim is proved, part 4 of 6: an interpreter of the program over value trees, and its soundness. No conditions. -/
import Derived.Test.YtmbjedkkombmjaaV1
import Derived.Test.YtmbjedkkombmjaaV3
import Derived.Orders
import Derived.Below
/- What an instruction looks at and what it writes. -/
namespace Go.Vs
open Go

def rootsOf (ρ : Roots) (s : Nat) : List Nat := ρ.filterMap fun e => if e.1 = s then some e.2.1 else none

/-- the slots behind an operand -/
def rdO (ρ : Roots) : Opd → List Nat
  | .c _ => []
  | .v s => s :: rootsOf ρ s

/-- what goes when slot d is written -/
def wrS (ρ : Roots) (d : Nat) : List Nat := d :: ρ.filterMap fun e => if e.2.1 = d then some e.1 else none

/-- what goes when slot r's tree changes -/
def chS (ρ : Roots) (r : Nat) : List Nat := r :: ρ.filterMap fun e => if e.2.1 = r then (if e.2.2 then some e.1 else none) else none

def wrO (ρ : Roots) : Md → Opd → List Nat
  | .copy, _ => []
  | _, .c _ => []
  | _, .v s => wrS ρ s ++ (s :: rootsOf ρ s).flatMap (chS ρ)

/-- changes at the places behind an operand -/
def chO (ρ : Roots) : Opd → List Nat
  | .c _ => []
  | .v s => (s :: rootsOf ρ s).flatMap (chS ρ)

def rdI (ρ : Roots) (fix : List Nat) : Ins → List Nat
  | .mv _ x | .nchk _ x | .asg _ x _ | .box _ x _ | .load _ _ _ x _ | .un _ _ x | .conv _ _ x | .s2b _ x | .b2s _ x | .make _ _ _ x | .slc0 _ x
  | .fld _ _ _ _ x | .fadr _ _ _ x | .ext _ x _ | .extp _ x _ | .len _ _ x => rdO ρ x
  | .pick _ a b c => rdO ρ a ++ (rdO ρ b ++ rdO ρ c)
  | .new _ _ => []
  | .build _ _ ps => ps.flatMap fun p => rdO ρ p.2.2.1
  | .mksl _ _ _ _ ps => ps.flatMap fun p => rdO ρ p.2.1
  | .store _ a x _ => rdO ρ a ++ rdO ρ x
  | .bin _ _ x y | .eqb _ _ x y | .eqv _ _ _ x y | .iadr _ _ x y | .idx _ x y | .app _ _ x y _ => rdO ρ x ++ rdO ρ y
  | .slc _ _ _ x lo hi _ => rdO ρ x ++ (lo.toList.flatMap (rdO ρ) ++ hi.toList.flatMap (rdO ρ))
  | .mm _ _ x xs => rdO ρ x ++ xs.flatMap (rdO ρ)
  | .call _ _ _ args => fix ++ args.flatMap fun a => rdO ρ a.1
  | .callv _ f args => fix ++ (rdO ρ f ++ args.flatMap (rdO ρ))
  | .mkfn _ _ _ => []

def wrI (ρ : Roots) (fix : List Nat) : Ins → List Nat
  | .mv d _ | .nchk d _ | .pick d _ _ _ | .new d _ | .bin d _ _ _ | .eqb d _ _ _ | .eqv d _ _ _ _ | .un d _ _ | .conv d _ _ | .s2b d _ | .b2s d _ | .make d _ _ _
  | .slc0 d _ | .fld d _ _ _ _ | .fadr d _ _ _ | .iadr d _ _ _ | .idx d _ _ | .len d _ _ | .mm d _ _ _ | .mkfn d _ _ | .extp d _ _ => wrS ρ d
  | .asg d x m | .box d x m => wrS ρ d ++ wrO ρ m x
  | .build d _ ps => wrS ρ d ++ ps.flatMap fun p => wrO ρ p.2.2.2 p.2.2.1
  | .mksl d _ _ _ ps => wrS ρ d ++ ps.flatMap fun p => wrO ρ p.2.2 p.2.1
  | .load d _ _ a m => wrS ρ d ++ (if m.isSome then chO ρ a else [])
  | .store _ a x m => chO ρ a ++ wrO ρ m x
  | .slc d _ _ x _ _ m => wrS ρ d ++ wrO ρ m x
  | .ext d x _ => wrS ρ d ++ wrO ρ .move x
  | .app d _ s x m => wrS ρ d ++ (wrO ρ .move s ++ wrO ρ m x)
  | .call d _ fz args => d.toList.flatMap (wrS ρ) ++ (args.flatMap (fun a => if a.2 || fz then chO ρ a.1 else []) ++ (if fz then fix.flatMap (chS ρ) else []))
  | .callv d _ _ => d.toList.flatMap (wrS ρ)

def rdG (ρ : Roots) (fix : List Nat) (o : Option (Nat × Bool) × Ins) : List Nat :=
  (match o.1 with | some g => [g.1] | none => []) ++ rdI ρ fix o.2

/-- references are where the region allows them -/
def RefsOk (ρ : Roots) (E : Env) : Prop := ∀ s r p, RefAt E s r p → okRef ρ s r p = true

def Agr (L : List Nat) (E E' : Env) : Prop := ∀ s, s ∈ L → get E s = get E' s

theorem okRef_root {ρ : Roots} {s r : Nat} {p : Path} (h : okRef ρ s r p = true) : r ∈ rootsOf ρ s := by
  induction ρ with
  | nil => simp [okRef] at h
  | cons e ρ ih =>
    obtain ⟨t, r', l⟩ := e
    simp only [okRef] at h
    simp only [rootsOf, List.filterMap_cons] at *
    by_cases ht : t = s
    · simp only [ht, if_true] at h ⊢
      by_cases hr : r' = r
      · simp [hr]
      · simp [hr] at h
    · simp only [ht, if_false] at h ⊢
      exact ih h

section
variable {ρ : Roots} {fix : List Nat} {E E' : Env} {σ : Oracle}

theorem Agr.left {L L' : List Nat} (h : Agr (L ++ L') E E') : Agr L E E' := fun s hs => h s (by simp [hs])
theorem Agr.right {L L' : List Nat} (h : Agr (L ++ L') E E') : Agr L' E E' := fun s hs => h s (by simp [hs])
theorem Agr.sub {L L' : List Nat} (h : Agr L E E') (hs : ∀ s, s ∈ L' → s ∈ L) : Agr L' E E' := fun s hx => h s (hs s hx)

theorem Agr.ws {L : List Nat} (h : Agr L E E') (ws : Env) : Agr L (ws ++ E) (ws ++ E') := by
  intro s hs
  rw [get_append, get_append, h s hs]

theorem RefsOk.bor (h : RefsOk ρ E) {s r : Nat} {p : Path} (hg : get E s = .bor r p) : r ∈ rootsOf ρ s := okRef_root (h s r p (.inl hg))
theorem RefsOk.adr (h : RefsOk ρ E) {s r i j : Nat} {p : Path} (hg : get E s = .adr r p i j) : r ∈ rootsOf ρ s := okRef_root (h s r p (.inr ⟨i, j, hg⟩))

theorem treeAt_loc {r : Nat} {p : Path} (h : get E r = get E' r) : treeAt E r p = treeAt E' r p := by simp only [treeAt, h]

theorem peek_loc (hr : RefsOk ρ E) {x : Opd} (h : Agr (rdO ρ x) E E') : peek E x = peek E' x := by
  cases x with
  | c t => rfl
  | v s =>
    simp only [peek]
    rw [← h s (by simp [rdO])]
    cases hg : get E s <;> simp only
    rename_i r p
    exact treeAt_loc (h r (by simp [rdO, hr.bor hg]))

theorem place_loc {x : Opd} (h : Agr (rdO ρ x) E E') : place E x = place E' x := by
  cases x with
  | c t => rfl
  | v s => simp only [place]; rw [← h s (by simp [rdO])]

theorem addrOf_loc (hr : RefsOk ρ E) {x : Opd} (h : Agr (rdO ρ x) E E') : addrOf E x = addrOf E' x := by
  cases x with
  | c t => rfl
  | v s =>
    simp only [addrOf]
    rw [← h s (by simp [rdO])]
    cases hg : get E s with
    | bor r p => simp only; rw [treeAt_loc (h r (by simp [rdO, hr.bor hg]))]
    | tree t =>
      cases t with
      | ptr o cs => cases o <;> rfl
      | _ => rfl
    | _ => rfl

theorem addrOf_root (hr : RefsOk ρ E) {x : Opd} {r i j : Nat} {p : Path} (h : addrOf E x = some (.own r p i j)) : r ∈ rdO ρ x := by
  cases x with
  | c t => simp [addrOf] at h
  | v s =>
    simp only [addrOf] at h
    split at h
    · cases h; simp [rdO]
    · cases h
    · rename_i r' p' hg
      split at h
      · cases h; simp [rdO, hr.bor hg]
      · cases h
      · cases h
    · rename_i r' p' i' j' hg
      cases h; simp [rdO, hr.adr hg]
    · cases h

theorem place_root (hr : RefsOk ρ E) {x : Opd} {r : Nat} {p : Path} (h : place E x = some (r, p)) : r ∈ rdO ρ x := by
  cases x with
  | c t => simp [place] at h
  | v s =>
    simp only [place] at h
    split at h
    · cases h; simp [rdO]
    · rename_i r' p' hg; cases h; simp [rdO, hr.bor hg]
    · cases h

theorem capTrees_loc : ∀ {caps : List Nat}, (∀ c, c ∈ caps → get E c = get E' c) → capTrees E caps = capTrees E' caps
  | [], _ => rfl
  | c :: caps, h => by
    simp only [capTrees]
    rw [h c (by simp), capTrees_loc (caps := caps) (fun c' hc => h c' (by simp [hc]))]

/-- closures capture what stays -/
def ClosOk (fix : List Nat) (E : Env) : Prop := ∀ s f caps, get E s = .clo f caps → ∀ c, c ∈ caps → c ∈ fix

theorem peekArg_loc (hr : RefsOk ρ E) (hc : ClosOk fix E) {x : Opd} (hf : Agr fix E E') (h : Agr (rdO ρ x) E E') : peekArg E x = peekArg E' x := by
  cases x with
  | c t => rfl
  | v s =>
    simp only [peekArg]
    rw [← h s (by simp [rdO])]
    cases hg : get E s <;> simp only
    · rename_i r p
      rw [treeAt_loc (h r (by simp [rdO, hr.bor hg]))]
    · rename_i r p i j
      rw [treeAt_loc (h r (by simp [rdO, hr.adr hg]))]
    · rename_i f caps
      rw [capTrees_loc (fun c hm => hf c (hc s f caps hg c hm))]

theorem take_loc (hr : RefsOk ρ E) {x : Opd} {m : Md} (h : Agr (rdO ρ x) E E') : take ρ E m x = take ρ E' m x := by
  cases x with
  | c t => rfl
  | v s =>
    simp only [take]
    rw [← h s (by simp [rdO])]
    cases hg : get E s <;> simp only
    rename_i r p
    rw [← h r (by simp [rdO, hr.bor hg])]

theorem peekArgs_loc (hr : RefsOk ρ E) (hc : ClosOk fix E) (hf : Agr fix E E') : ∀ {xs : List Opd}, Agr (xs.flatMap (rdO ρ)) E E' → peekArgs E xs = peekArgs E' xs
  | [], _ => rfl
  | x :: xs, h => by
    rw [List.flatMap_cons] at h
    simp only [peekArgs]
    rw [peekArg_loc hr hc hf h.left, peekArgs_loc hr hc hf h.right]

theorem mmAll_loc (hr : RefsOk ρ E) {mx : Bool} {k : IntKind} : ∀ {xs : List Opd} {a : Int}, Agr (xs.flatMap (rdO ρ)) E E' → mmAll E mx k xs a = mmAll E' mx k xs a
  | [], _, _ => rfl
  | x :: xs, a, h => by
    rw [List.flatMap_cons] at h
    simp only [mmAll]
    rw [peek_loc hr h.left]
    congr 1
    funext t
    cases t <;> simp only
    split
    · exact mmAll_loc hr h.right
    · rfl

theorem bound_loc (hr : RefsOk ρ E) {n : Nat} {x : Option Opd} (h : Agr (x.toList.flatMap (rdO ρ)) E E') : bound E n x = bound E' n x := by
  cases x with
  | none => rfl
  | some x => simp only [bound]; rw [peek_loc hr (by simpa using h)]

/-- what is written lies in W, and its references are allowed -/
def WOk (ρ : Roots) (fix : List Nat) (W : List Nat) (ws : Env) : Prop :=
  ∀ e, e ∈ ws → e.1 ∈ W ∧ (∀ r p, (e.2 = .bor r p ∨ ∃ i j, e.2 = .adr r p i j) → okRef ρ e.1 r p = true) ∧ ∀ f caps, e.2 = .clo f caps → ∀ c, c ∈ caps → c ∈ fix

theorem WOk.append {W : List Nat} {a b : Env} (ha : WOk ρ fix W a) (hb : WOk ρ fix W b) : WOk ρ fix W (a ++ b) := by
  intro e he
  rcases List.mem_append.1 he with he | he
  · exact ha e he
  · exact hb e he

theorem WOk.mono {W W' : List Nat} {a : Env} (ha : WOk ρ fix W a) (h : ∀ s, s ∈ W → s ∈ W') : WOk ρ fix W' a :=
  fun e he => ⟨h _ (ha e he).1, (ha e he).2⟩

theorem WOk.nil {W : List Nat} : WOk ρ fix W [] := by intro e he; simp at he

theorem kills_wok {d : Nat} : ∀ e, e ∈ kills ρ d → e.1 ∈ (ρ.filterMap fun e => if e.2.1 = d then some e.1 else none) ∧ e.2 = .undef := by
  induction ρ with
  | nil => intro e he; simp [kills] at he
  | cons x ρ ih =>
    obtain ⟨t, r, l⟩ := x
    intro e he
    simp only [kills] at he
    simp only [List.filterMap_cons]
    by_cases hr : r = d
    · simp only [hr, if_true, List.mem_cons] at he ⊢
      rcases he with rfl | he
      · exact ⟨.inl rfl, rfl⟩
      · exact ⟨.inr (ih e he).1, (ih e he).2⟩
    · simp only [hr, if_false] at he ⊢
      exact ih e he

theorem killsLong_wok {d : Nat} : ∀ e, e ∈ killsLong ρ d → e.1 ∈ (ρ.filterMap fun e => if e.2.1 = d then (if e.2.2 then some e.1 else none) else none) ∧ e.2 = .undef := by
  induction ρ with
  | nil => intro e he; simp [killsLong] at he
  | cons x ρ ih =>
    obtain ⟨t, r, l⟩ := x
    intro e he
    simp only [killsLong] at he
    simp only [List.filterMap_cons]
    by_cases hr : r = d
    · cases l
      · simp only [hr, if_true, Bool.false_eq_true, if_false] at he ⊢; exact ih e he
      · simp only [hr, if_true, List.mem_cons] at he ⊢
        rcases he with rfl | he
        · exact ⟨.inl rfl, rfl⟩
        · exact ⟨.inr (ih e he).1, (ih e he).2⟩
    · simp only [hr, if_false] at he ⊢
      exact ih e he

theorem wr_wok {d : Nat} {a : AV} (h1 : ∀ r p, (a = .bor r p ∨ ∃ i j, a = .adr r p i j) → okRef ρ d r p = true) (h2 : ∀ f caps, a = .clo f caps → ∀ c, c ∈ caps → c ∈ fix) : WOk ρ fix (wrS ρ d) (wr ρ d a) := by
  intro e he
  simp only [wr, List.mem_cons] at he
  rcases he with rfl | he
  · exact ⟨by simp [wrS], h1, h2⟩
  · obtain ⟨g1, g2⟩ := kills_wok e he
    refine ⟨by simp only [wrS, List.mem_cons]; exact .inr g1, ?_, ?_⟩
    · rintro r p (h | ⟨i, j, h⟩) <;> rw [g2] at h <;> cases h
    · intro f caps h; rw [g2] at h; cases h

theorem wrT {d : Nat} {t : Tree} : WOk ρ fix (wrS ρ d) (wr ρ d (.tree t)) :=
  wr_wok (by rintro r p (h | ⟨i, j, h⟩) <;> cases h) (by intro f caps h; cases h)
theorem wrU {d : Nat} : WOk ρ fix (wrS ρ d) (wr ρ d .undef) :=
  wr_wok (by rintro r p (h | ⟨i, j, h⟩) <;> cases h) (by intro f caps h; cases h)
theorem wrG {d : Nat} : WOk ρ fix (wrS ρ d) (wr ρ d .gone) :=
  wr_wok (by rintro r p (h | ⟨i, j, h⟩) <;> cases h) (by intro f caps h; cases h)
theorem wrB {d r : Nat} {p : Path} (h : okRef ρ d r p = true) : WOk ρ fix (wrS ρ d) (wr ρ d (.bor r p)) :=
  wr_wok (by rintro r p (h | ⟨i, j, h⟩) <;> cases h; assumption) (by intro f caps h; cases h)
theorem wrA {d r i j : Nat} {p : Path} (h : okRef ρ d r p = true) : WOk ρ fix (wrS ρ d) (wr ρ d (.adr r p i j)) :=
  wr_wok (by rintro r p (h | ⟨i, j, h⟩) <;> cases h; assumption) (by intro f caps h; cases h)

theorem chg_wok {r : Nat} {T : Tree} : WOk ρ fix (chS ρ r) (chg ρ r T) := by
  intro e he
  simp only [chg, List.mem_cons] at he
  rcases he with rfl | he
  · refine ⟨by simp [chS], ?_, ?_⟩
    · rintro r p (h | ⟨i, j, h⟩) <;> cases h
    · intro f caps h; cases h
  · obtain ⟨g1, g2⟩ := killsLong_wok e he
    refine ⟨by simp only [chS, List.mem_cons]; exact .inr g1, ?_, ?_⟩
    · rintro r p (h | ⟨i, j, h⟩) <;> rw [g2] at h <;> cases h
    · intro f caps h; rw [g2] at h; cases h

theorem get_mem : ∀ {ws : Env} {s : Nat}, (ws.any fun e => decide (e.1 = s)) = true → (s, get ws s) ∈ ws
  | [], s, h => by simp at h
  | (k, a) :: ws, s, h => by
    simp only [get]
    by_cases hk : k = s
    · simp [hk]
    · simp only [hk, if_false]
      simp only [List.any_cons, hk, decide_false, Bool.false_or] at h
      exact List.mem_cons_of_mem _ (get_mem h)

theorem WOk.refs {W : List Nat} {ws : Env} (h : WOk ρ fix W ws) (hr : RefsOk ρ E) : RefsOk ρ (ws ++ E) := by
  intro s r p hra
  simp only [RefAt, get_append] at hra
  split at hra
  · rename_i hany
    exact (h _ (get_mem hany)).2.1 r p hra
  · exact hr s r p hra

theorem WOk.clos {W : List Nat} {ws : Env} (h : WOk ρ fix W ws) (hr : ClosOk fix E) : ClosOk fix (ws ++ E) := by
  intro s f caps hg
  rw [get_append] at hg
  split at hg
  · rename_i hany
    exact (h _ (get_mem hany)).2.2 f caps hg
  · exact hr s f caps hg

/-- what W does not hold stays -/
theorem WOk.keeps {W : List Nat} {ws : Env} (h : WOk ρ fix W ws) {s : Nat} (hs : s ∉ W) : get (ws ++ E) s = get E s := by
  rw [get_append]
  split
  · rename_i hany
    exact absurd (h _ (get_mem hany)).1 hs
  · rfl

theorem take_wok (hr : RefsOk ρ E) {x : Opd} {m : Md} {t : Tree} {ws : Env} (h : take ρ E m x = some (t, ws)) : WOk ρ fix (wrO ρ m x) ws := by
  cases x with
  | c t => simp only [take] at h; cases h; exact WOk.nil
  | v s =>
    simp only [take] at h
    split at h
    · split at h
      · cases h; exact WOk.nil
      · cases m with
        | copy => cases h
        | move => cases h; exact wrU.mono (fun x hx => by simp only [wrO, List.mem_append]; exact .inl hx)
        | freeze => cases h; exact chg_wok.mono (fun x hx => by simp only [wrO, List.mem_append, List.flatMap_cons]; exact .inr (.inl hx))
    · rename_i r p hg
      split at h
      · simp only [Option.bind_eq_some_iff] at h
        obtain ⟨t0, _, h⟩ := h
        have hin : ∀ x, x ∈ chS ρ r → x ∈ (s :: rootsOf ρ s).flatMap (chS ρ) := fun x hx => List.mem_flatMap.2 ⟨r, by simp [hr.bor hg], hx⟩
        cases m with
        | move =>
          simp only [Option.bind_eq_some_iff] at h
          obtain ⟨T', _, h⟩ := h; cases h
          exact chg_wok.mono (fun x hx => by simp only [wrO, List.mem_append]; exact .inr (hin x hx))
        | freeze =>
          simp only [Option.bind_eq_some_iff] at h
          obtain ⟨T', _, h⟩ := h; cases h
          exact chg_wok.mono (fun x hx => by simp only [wrO, List.mem_append]; exact .inr (hin x hx))
        | copy => simp only at h; split at h <;> cases h; exact WOk.nil
      · cases h
    · cases h
end
end Go.Vs
/- What an instruction looks at and what it writes: all of them. -/
namespace Go.Vs
open Go

section
variable {ρ : Roots} {fix : List Nat} {E E' : Env} {σ : Oracle}

theorem takeParts_loc : ∀ {ps : List (Nat × Nat × Opd × Md)} {cs : List Tree} {E E' : Env}, RefsOk ρ E → Agr (ps.flatMap fun p => rdO ρ p.2.2.1) E E' → takeParts ρ E ps cs = takeParts ρ E' ps cs
  | [], _, _, _, _, _ => rfl
  | (off, sz, x, m) :: ps, cs, E, E', hr, h => by
    rw [List.flatMap_cons] at h
    simp only [takeParts]
    rw [← take_loc hr h.left]
    cases ht : take ρ E m x with
    | none => rfl
    | some q =>
      obtain ⟨t, ws⟩ := q
      simp only [Option.bind_some]
      split
      · rw [takeParts_loc ((take_wok (fix := []) hr ht).refs hr) (h.right.ws ws)]
      · rfl

theorem takeElems_loc {sz : Nat} : ∀ {ps : List (Nat × Opd × Md)} {es : List Tree} {E E' : Env}, RefsOk ρ E → Agr (ps.flatMap fun p => rdO ρ p.2.1) E E' → takeElems ρ E sz ps es = takeElems ρ E' sz ps es
  | [], _, _, _, _, _ => rfl
  | (i, x, m) :: ps, es, E, E', hr, h => by
    rw [List.flatMap_cons] at h
    simp only [takeElems]
    rw [← take_loc hr h.left]
    cases ht : take ρ E m x with
    | none => rfl
    | some q =>
      obtain ⟨t, ws⟩ := q
      simp only [Option.bind_some]
      split
      · rw [takeElems_loc ((take_wok (fix := []) hr ht).refs hr) (h.right.ws ws)]
      · rfl

theorem takeParts_wok : ∀ {ps : List (Nat × Nat × Opd × Md)} {cs cs' : List Tree} {E ws : Env}, RefsOk ρ E → takeParts ρ E ps cs = some (cs', ws) → WOk ρ fix (ps.flatMap fun p => wrO ρ p.2.2.2 p.2.2.1) ws
  | [], cs, cs', E, ws, hr, h => by simp only [takeParts] at h; cases h; exact WOk.nil
  | (off, sz, x, m) :: ps, cs, cs', E, ws, hr, h => by
    simp only [takeParts, Option.bind_eq_some_iff] at h
    obtain ⟨⟨t, w1⟩, h1, h⟩ := h
    simp only at h
    split at h
    · simp only [Option.bind_eq_some_iff] at h
      obtain ⟨⟨cs2, w2⟩, h2, h⟩ := h
      cases h
      have k1 := take_wok (fix := fix) hr h1
      have k2 := takeParts_wok (k1.refs hr) h2
      rw [List.flatMap_cons]
      exact (k2.mono (fun s hs => by simp only [List.mem_append]; exact .inr hs)).append (k1.mono (fun s hs => by simp only [List.mem_append]; exact .inl hs))
    · cases h

theorem takeElems_wok {sz : Nat} : ∀ {ps : List (Nat × Opd × Md)} {es es' : List Tree} {E ws : Env}, RefsOk ρ E → takeElems ρ E sz ps es = some (es', ws) → WOk ρ fix (ps.flatMap fun p => wrO ρ p.2.2 p.2.1) ws
  | [], es, es', E, ws, hr, h => by simp only [takeElems] at h; cases h; exact WOk.nil
  | (i, x, m) :: ps, es, es', E, ws, hr, h => by
    simp only [takeElems, Option.bind_eq_some_iff] at h
    obtain ⟨⟨t, w1⟩, h1, h⟩ := h
    simp only at h
    split at h
    · simp only [Option.bind_eq_some_iff] at h
      obtain ⟨⟨cs2, w2⟩, h2, h⟩ := h
      cases h
      have k1 := take_wok (fix := fix) hr h1
      have k2 := takeElems_wok (k1.refs hr) h2
      rw [List.flatMap_cons]
      exact (k2.mono (fun s hs => by simp only [List.mem_append]; exact .inr hs)).append (k1.mono (fun s hs => by simp only [List.mem_append]; exact .inl hs))
    · cases h

theorem loadOwn_loc {d sz r i j : Nat} {agg : Bool} {m : Option Md} {p : Path} (h : get E r = get E' r) : loadOwn ρ E d agg sz m r p i j = loadOwn ρ E' d agg sz m r p i j := by
  simp only [loadOwn, h]

theorem load_loc (hr : RefsOk ρ E) {d sz : Nat} {agg : Bool} {m : Option Md} {a : Opd} (h : Agr (rdO ρ a) E E') : load ρ E d agg sz m a = load ρ E' d agg sz m a := by
  simp only [load]
  rw [← addrOf_loc hr h]
  cases ha : addrOf E a with
  | none => rfl
  | some ad =>
    cases ad with
    | sh cs => rfl
    | own r p i j => exact loadOwn_loc (h r (addrOf_root hr ha))

theorem load_wok (hr : RefsOk ρ E) {d sz : Nat} {agg : Bool} {m : Option Md} {a : Opd} {ws : Env} (h : load ρ E d agg sz m a = some ws) : WOk ρ fix (wrS ρ d ++ (if m.isSome then chO ρ a else [])) ws := by
  have hl : ∀ {w : Env}, WOk ρ fix (wrS ρ d) w → WOk ρ fix (wrS ρ d ++ (if m.isSome then chO ρ a else [])) w := fun hw => hw.mono (fun s hs => by simp [hs])
  simp only [load, Option.bind_eq_some_iff] at h
  obtain ⟨ad, had, h⟩ := h
  cases ad with
  | sh cs =>
    simp only [Option.bind_eq_some_iff, Option.some.injEq] at h
    obtain ⟨cs', _, t, _, rfl⟩ := h
    exact hl wrT
  | own r p i j =>
    simp only [loadOwn] at h
    split at h
    · simp only [Option.bind_eq_some_iff] at h
      obtain ⟨n, _, e, _, cs, _, t, _, h⟩ := h
      have hc : m.isSome = true → ∀ T, WOk ρ fix (wrS ρ d ++ (if m.isSome then chO ρ a else [])) (chg ρ r T) := by
        intro hm T
        refine chg_wok.mono fun s hs => ?_
        simp only [hm, if_true, List.mem_append]
        right
        have hra := addrOf_root hr had
        cases a with
        | c t => simp [rdO] at hra
        | v x => exact List.mem_flatMap.2 ⟨r, hra, hs⟩
      split at h
      · cases h; exact hl wrT
      · split at h
        · cases m with
          | none => cases h
          | some md =>
            cases md with
            | copy => cases h
            | move =>
              simp only [Option.bind_eq_some_iff] at h
              obtain ⟨_, _, T', _, h⟩ := h; cases h
              exact (hl wrT).append (hc rfl _)
            | freeze =>
              simp only [Option.bind_eq_some_iff] at h
              obtain ⟨_, _, T', _, h⟩ := h; cases h
              exact (hl wrT).append (hc rfl _)
        · split at h
          · cases h; exact hl (wrB ‹_›)
          · cases h
    · cases h

theorem store_loc (hr : RefsOk ρ E) {sz : Nat} {m : Md} {a x : Opd} (h : Agr (rdO ρ a ++ rdO ρ x) E E') : store ρ E sz m a x = store ρ E' sz m a x := by
  simp only [store]
  rw [← take_loc hr h.right]
  cases ht : take ρ E m x with
  | none => rfl
  | some q =>
    obtain ⟨t, ws⟩ := q
    simp only [Option.bind_some]
    split
    · have hr2 := (take_wok (fix := []) hr ht).refs hr
      rw [← addrOf_loc hr2 (h.left.ws ws)]
      cases ha : addrOf (ws ++ E) a with
      | none => rfl
      | some ad =>
        cases ad with
        | sh cs => rfl
        | own r p i j =>
          simp only [Option.bind_some]
          rw [h.left.ws ws r (addrOf_root hr2 ha)]
    · rfl

theorem store_wok (hr : RefsOk ρ E) {sz : Nat} {m : Md} {a x : Opd} {ws : Env} (h : store ρ E sz m a x = some ws) : WOk ρ fix (chO ρ a ++ wrO ρ m x) ws := by
  simp only [store, Option.bind_eq_some_iff] at h
  obtain ⟨⟨t, w1⟩, ht, h⟩ := h
  simp only at h
  have k1 := take_wok (fix := fix) hr ht
  have hr2 := k1.refs hr
  split at h
  · simp only [Option.bind_eq_some_iff] at h
    obtain ⟨ad, had, h⟩ := h
    cases ad with
    | sh cs => cases h
    | own r p i j =>
      simp only at h
      split at h
      · simp only [Option.bind_eq_some_iff] at h
        obtain ⟨_, _, _, _, T', _, h⟩ := h; cases h
        refine (chg_wok.mono fun s hs => ?_).append (k1.mono (fun s hs => by simp [hs]))
        simp only [List.mem_append]; left
        have hra := addrOf_root hr2 had
        cases a with
        | c t => simp [rdO] at hra
        | v x => exact List.mem_flatMap.2 ⟨r, hra, hs⟩
      · cases h
  · cases h

theorem callArgs_loc (hr : RefsOk ρ E) (hc : ClosOk fix E) (hf : Agr fix E E') : ∀ {args : List (Opd × Bool)}, Agr (args.flatMap fun a => rdO ρ a.1) E E' → callArgs ρ E args = callArgs ρ E' args
  | [], _ => rfl
  | (x, false) :: args, h => by
    rw [List.flatMap_cons] at h
    simp only [callArgs]
    rw [peekArg_loc hr hc hf h.left, callArgs_loc hr hc hf h.right]
  | (x, true) :: args, h => by
    rw [List.flatMap_cons] at h
    simp only [callArgs]
    rw [← place_loc h.left, callArgs_loc hr hc hf h.right]
    cases hp : place E x with
    | none => rfl
    | some q =>
      obtain ⟨r, p⟩ := q
      simp only [Option.bind_some]
      rw [treeAt_loc (h.left r (place_root hr hp))]

theorem bvRoots_loc : ∀ {args : List (Opd × Bool)}, Agr (args.flatMap fun a => rdO ρ a.1) E E' → bvRoots E args = bvRoots E' args
  | [], _ => rfl
  | (.v s, false) :: args, h => by
    rw [List.flatMap_cons] at h
    simp only [bvRoots]
    rw [← h.left s (by simp [rdO]), bvRoots_loc h.right]
  | (.c t, false) :: args, h => by
    rw [List.flatMap_cons] at h
    simp only [bvRoots]; exact bvRoots_loc h.right
  | (.c t, true) :: args, h => by
    rw [List.flatMap_cons] at h
    simp only [bvRoots]; exact bvRoots_loc h.right
  | (.v s, true) :: args, h => by
    rw [List.flatMap_cons] at h
    simp only [bvRoots]; exact bvRoots_loc h.right

theorem bvRoots_in (hr : RefsOk ρ E) (hc : ClosOk fix E) : ∀ {args : List (Opd × Bool)} {r : Nat}, r ∈ bvRoots E args → r ∈ fix ∨ ∃ x, (x, false) ∈ args ∧ r ∈ rdO ρ x
  | [], r, h => by simp [bvRoots] at h
  | (.v s, false) :: args, r, h => by
    simp only [bvRoots, List.mem_append] at h
    rcases h with h | h
    · split at h
      · rename_i r' p hg
        simp only [List.mem_singleton] at h; subst h
        exact .inr ⟨.v s, by simp, by simp [rdO, hr.bor hg]⟩
      · rename_i r' p i j hg
        simp only [List.mem_singleton] at h; subst h
        exact .inr ⟨.v s, by simp, by simp [rdO, hr.adr hg]⟩
      · rename_i f caps hg
        exact .inl (hc s f caps hg r h)
      · simp only [List.mem_singleton] at h; subst h
        exact .inr ⟨.v r, by simp, by simp [rdO]⟩
    · rcases bvRoots_in hr hc h with h | ⟨x, h1, h2⟩
      · exact .inl h
      · exact .inr ⟨x, by simp [h1], h2⟩
  | (.c t, false) :: args, r, h => by
    simp only [bvRoots] at h
    rcases bvRoots_in hr hc h with h | ⟨x, h1, h2⟩
    · exact .inl h
    · exact .inr ⟨x, by simp [h1], h2⟩
  | (.c t, true) :: args, r, h => by
    simp only [bvRoots] at h
    rcases bvRoots_in hr hc h with h | ⟨x, h1, h2⟩
    · exact .inl h
    · exact .inr ⟨x, by simp [h1], h2⟩
  | (.v s, true) :: args, r, h => by
    simp only [bvRoots] at h
    rcases bvRoots_in hr hc h with h | ⟨x, h1, h2⟩
    · exact .inl h
    · exact .inr ⟨x, by simp [h1], h2⟩

theorem ioPlaces_loc : ∀ {args : List (Opd × Bool)}, Agr (args.flatMap fun a => rdO ρ a.1) E E' → ioPlaces E args = ioPlaces E' args
  | [], _ => rfl
  | (x, false) :: args, h => by
    rw [List.flatMap_cons] at h
    simp only [ioPlaces]; exact ioPlaces_loc h.right
  | (x, true) :: args, h => by
    rw [List.flatMap_cons] at h
    simp only [ioPlaces]
    rw [place_loc h.left, ioPlaces_loc h.right]

theorem freezeRoots_loc : ∀ {L : List Nat} {E E' : Env}, Agr L E E' → freezeRoots ρ E L = freezeRoots ρ E' L
  | [], _, _, _ => rfl
  | r :: L, E, E', h => by
    simp only [freezeRoots]
    rw [← h r (by simp)]
    cases get E r with
    | tree T =>
      simp only
      split
      · exact freezeRoots_loc (h.sub fun s hs => by simp [hs])
      · rw [freezeRoots_loc ((h.sub (L' := L) fun s hs => by simp [hs]).ws _)]
    | _ => rfl

theorem freezeRoots_wok : ∀ {L : List Nat} {E ws : Env}, freezeRoots ρ E L = some ws → WOk ρ fix (L.flatMap (chS ρ)) ws
  | [], E, ws, h => by simp only [freezeRoots] at h; cases h; exact WOk.nil
  | r :: L, E, ws, h => by
    have hm : ∀ {w : Env}, WOk ρ fix (L.flatMap (chS ρ)) w → WOk ρ fix ((r :: L).flatMap (chS ρ)) w := fun hw => hw.mono (fun s hs => by rw [List.flatMap_cons]; exact List.mem_append.2 (.inr hs))
    simp only [freezeRoots] at h
    split at h
    · split at h
      · exact hm (freezeRoots_wok h)
      · simp only [Option.bind_eq_some_iff] at h
        obtain ⟨w1, h1, h⟩ := h; cases h
        exact (hm (freezeRoots_wok h1)).append (chg_wok.mono (fun s hs => by rw [List.flatMap_cons]; exact List.mem_append.2 (.inl hs)))
    · cases h

theorem backArgs_loc (hr : RefsOk ρ E) : ∀ {args : List (Opd × Bool)} {ts : List Tree}, Agr (args.flatMap fun a => rdO ρ a.1) E E' → backArgs ρ E args ts = backArgs ρ E' args ts
  | [], [], _ => rfl
  | [], _ :: _, _ => rfl
  | (x, false) :: args, ts, h => by
    rw [List.flatMap_cons] at h
    simp only [backArgs]; exact backArgs_loc hr h.right
  | (x, true) :: args, [], h => rfl
  | (x, true) :: args, t :: ts, h => by
    rw [List.flatMap_cons] at h
    simp only [backArgs]
    rw [← place_loc h.left]
    cases hp : place E x with
    | none => rfl
    | some q =>
      obtain ⟨r, p⟩ := q
      simp only [Option.bind_some]
      rw [← h.left r (place_root hr hp), backArgs_loc hr h.right]

theorem backArgs_wok (hr : RefsOk ρ E) : ∀ {args : List (Opd × Bool)} {ts : List Tree} {ws : Env}, backArgs ρ E args ts = some ws → WOk ρ fix (args.flatMap fun a => if a.2 then chO ρ a.1 else []) ws
  | [], [], ws, h => by simp only [backArgs] at h; cases h; exact WOk.nil
  | [], _ :: _, ws, h => by simp [backArgs] at h
  | (x, false) :: args, ts, ws, h => by
    have hb' : backArgs ρ E args ts = some ws := by simpa [backArgs] using h
    rw [List.flatMap_cons]
    exact (backArgs_wok hr hb').mono (fun s hs => by simp only [List.mem_append]; exact .inr hs)
  | (x, true) :: args, [], ws, h => by simp [backArgs] at h
  | (x, true) :: args, t :: ts, ws, h => by
    simp only [backArgs, Option.bind_eq_some_iff] at h
    obtain ⟨⟨r, p⟩, hp, h⟩ := h
    simp only at h
    split at h
    · simp only [Option.bind_eq_some_iff] at h
      obtain ⟨t0, _, h⟩ := h
      split at h
      · simp only [Option.bind_eq_some_iff] at h
        obtain ⟨T', _, w1, h1, h⟩ := h; cases h
        rw [List.flatMap_cons]
        refine (chg_wok.mono fun s hs => ?_).append ((backArgs_wok hr h1).mono (fun s hs => by simp only [List.mem_append]; exact .inr hs))
        simp only [List.mem_append, if_true]; left
        have hra := place_root hr hp
        cases x with
        | c t => simp [rdO] at hra
        | v x => exact List.mem_flatMap.2 ⟨r, hra, hs⟩
      · cases h
    · cases h

theorem callOp_loc (hr : RefsOk ρ E) (hc : ClosOk fix E) {d : Option Nat} {f : Nat} {fz : Bool} {args : List (Opd × Bool)} (h : Agr (fix ++ args.flatMap fun a => rdO ρ a.1) E E') :
    callOp σ ρ E d f fz args = callOp σ ρ E' d f fz args := by
  have h1 : callArgs ρ E args = callArgs ρ E' args := callArgs_loc hr hc h.left h.right
  have h2 : bvRoots E args = bvRoots E' args := bvRoots_loc h.right
  have h3 : ioRoots E args = ioRoots E' args := by simp only [ioRoots, ioPlaces_loc h.right]
  have h4 : rootsOk ρ E args = rootsOk ρ E' args := by simp only [rootsOk, h2, h3]
  have hbv : Agr (bvRoots E args) E E' := by
    intro s hs
    rcases bvRoots_in hr hc hs with hs | ⟨x, g1, g2⟩
    · exact h.left s hs
    · exact h.right s (List.mem_flatMap.2 ⟨_, g1, g2⟩)
  have h5 : freezeRoots ρ E (bvRoots E args) = freezeRoots ρ E' (bvRoots E args) := freezeRoots_loc hbv
  simp only [callOp]
  rw [← h1, ← h4, ← h2, ← h5]
  cases callArgs ρ E args with
  | none => rfl
  | some ts =>
    simp only [Option.bind_some]
    split
    · cases σ f ts with
      | none => rfl
      | some q =>
        obtain ⟨t, outs⟩ := q
        simp only [Option.bind_some]
        cases hw : (if fz then freezeRoots ρ E (bvRoots E args) else if t.noSh && Tree.noShL outs then some [] else none) with
        | none => rfl
        | some w1 =>
          simp only [Option.bind_some]
          have hw1 : RefsOk ρ (w1 ++ E) := by
            split at hw
            · exact (freezeRoots_wok (fix := fix) hw).refs hr
            · split at hw
              · cases hw; exact hr
              · cases hw
          rw [backArgs_loc hw1 (h.right.ws w1)]
    · rfl

theorem callOp_wok (hr : RefsOk ρ E) (hc : ClosOk fix E) {d : Option Nat} {f : Nat} {fz : Bool} {args : List (Opd × Bool)} {ws : Env} (h : callOp σ ρ E d f fz args = some ws) :
    WOk ρ fix (d.toList.flatMap (wrS ρ) ++ (args.flatMap (fun a => if a.2 || fz then chO ρ a.1 else []) ++ (if fz then fix.flatMap (chS ρ) else []))) ws := by
  simp only [callOp, Option.bind_eq_some_iff] at h
  obtain ⟨ts, _, h⟩ := h
  split at h
  · simp only [Option.bind_eq_some_iff] at h
    obtain ⟨⟨t, outs⟩, _, w1, hw, w2, h2, h⟩ := h
    simp only at hw h2 h
    cases h
    have k1 : WOk ρ fix (args.flatMap (fun a => if a.2 || fz then chO ρ a.1 else []) ++ (if fz then fix.flatMap (chS ρ) else [])) w1 := by
      split at hw
      · rename_i hfz
        refine (freezeRoots_wok hw).mono fun s hs => ?_
        obtain ⟨r, hrm, hs⟩ := List.mem_flatMap.1 hs
        simp only [hfz, Bool.or_true, if_true, List.mem_append]
        rcases bvRoots_in hr hc hrm with hrf | ⟨x, g1, g2⟩
        · exact .inr (List.mem_flatMap.2 ⟨r, hrf, hs⟩)
        · refine .inl (List.mem_flatMap.2 ⟨_, g1, ?_⟩)
          cases x with
          | c t => simp [rdO] at g2
          | v x => exact List.mem_flatMap.2 ⟨r, g2, hs⟩
      · split at hw
        · cases hw; exact WOk.nil
        · cases hw
    have k2 := (backArgs_wok (fix := fix) (k1.refs hr) h2).mono (W' := args.flatMap (fun a => if a.2 || fz then chO ρ a.1 else []) ++ (if fz then fix.flatMap (chS ρ) else [])) (by
      intro s hs
      obtain ⟨a, ha, hs⟩ := List.mem_flatMap.1 hs
      refine List.mem_append.2 (.inl (List.mem_flatMap.2 ⟨a, ha, ?_⟩))
      by_cases ha2 : a.2 = true
      · simp only [ha2, if_true, Bool.true_or] at hs ⊢; exact hs
      · simp [ha2] at hs)
    have k3 : WOk ρ fix (d.toList.flatMap (wrS ρ)) (putRes ρ d t) := by
      cases d with
      | none => exact WOk.nil
      | some x => simpa [putRes] using wrT
    exact (k3.mono fun s hs => List.mem_append.2 (.inl hs)).append ((k2.append k1).mono fun s hs => List.mem_append.2 (.inr hs))
  · cases h
end
end Go.Vs
/- An instruction's step hangs on what it looks at. -/
namespace Go.Vs
open Go

section
variable {ρ : Roots} {fix : List Nat} {E E' : Env} {σ : Oracle}

theorem mv_loc {d : Nat} {x : Opd} (h : Agr (rdO ρ x) E E') : stepI σ ρ fix E (.mv d x) = stepI σ ρ fix E' (.mv d x) := by
  cases x with
  | c t => rfl
  | v s => simp only [stepI]; rw [← h s (by simp [rdO])]

theorem nchk_loc (hr : RefsOk ρ E) {d : Nat} {x : Opd} (h : Agr (rdO ρ x) E E') : stepI σ ρ fix E (.nchk d x) = stepI σ ρ fix E' (.nchk d x) := by
  cases x with
  | c t => rfl
  | v s =>
    simp only [stepI]
    rw [← h s (by simp [rdO])]
    cases hg : get E s with
    | bor r p => simp only; rw [treeAt_loc (h r (by simp [rdO, hr.bor hg]))]
    | adr r p i j => simp only; rw [treeAt_loc (h r (by simp [rdO, hr.adr hg]))]
    | tree t => cases t <;> rfl
    | _ => rfl

theorem ext_loc {d i : Nat} {x : Opd} (h : Agr (rdO ρ x) E E') : stepI σ ρ fix E (.ext d x i) = stepI σ ρ fix E' (.ext d x i) := by
  cases x with
  | c t => rfl
  | v s => simp only [stepI]; rw [← h s (by simp [rdO])]

theorem extp_loc {d i : Nat} {x : Opd} (h : Agr (rdO ρ x) E E') : stepI σ ρ fix E (.extp d x i) = stepI σ ρ fix E' (.extp d x i) := by
  cases x with
  | c t => rfl
  | v s => simp only [stepI]; rw [← h s (by simp [rdO])]

theorem app_loc (hr : RefsOk ρ E) {d sz : Nat} {s x : Opd} {m : Md} (h : Agr (rdO ρ s ++ rdO ρ x) E E') : stepI σ ρ fix E (.app d sz s x m) = stepI σ ρ fix E' (.app d sz s x m) := by
  simp only [stepI]
  rw [← take_loc hr h.right]
  cases ht : take ρ E m x with
  | none => rfl
  | some q =>
    obtain ⟨tx, w1⟩ := q
    simp only [Option.bind_some]
    rw [take_loc ((take_wok (fix := []) hr ht).refs hr) (h.left.ws w1)]

theorem fadr_loc (hr : RefsOk ρ E) {d off sz : Nat} {x : Opd} (h : Agr (rdO ρ x) E E') : stepI σ ρ fix E (.fadr d off sz x) = stepI σ ρ fix E' (.fadr d off sz x) := by
  simp only [stepI]
  rw [← addrOf_loc hr h]
  cases ha : addrOf E x with
  | none => rfl
  | some ad =>
    cases ad with
    | sh cs => rfl
    | own r p i j =>
      simp only [Option.bind_some]
      rw [treeAt_loc (h r (addrOf_root hr ha))]

theorem stepI_loc (hr : RefsOk ρ E) (hc : ClosOk fix E) {i : Ins} (h : Agr (rdI ρ fix i) E E') : stepI σ ρ fix E i = stepI σ ρ fix E' i := by
  cases i with
  | mv d x => exact mv_loc h
  | nchk d x => exact nchk_loc hr h
  | asg d x m => simp only [stepI]; rw [take_loc hr h]
  | pick d c a b =>
    simp only [rdI] at h
    simp only [stepI]; rw [peek_loc hr h.left, peek_loc hr h.right.left, peek_loc hr h.right.right]
  | new d z => rfl
  | box d x m => simp only [stepI]; rw [take_loc hr h]
  | build d z ps => simp only [stepI]; rw [takeParts_loc hr h]
  | mksl d sz z n ps => simp only [stepI]; rw [takeElems_loc hr h]
  | load d agg sz a m => simp only [stepI]; rw [load_loc hr h]
  | store sz a x m => simp only [stepI]; rw [store_loc hr h]
  | bin d op x y => simp only [rdI] at h; simp only [stepI]; rw [peek_loc hr h.left, peek_loc hr h.right]
  | eqb d neg x y => simp only [rdI] at h; simp only [stepI]; rw [peek_loc hr h.left, peek_loc hr h.right]
  | eqv d neg ks x y => simp only [rdI] at h; simp only [stepI]; rw [peek_loc hr h.left, peek_loc hr h.right]
  | un d op x => simp only [stepI]; rw [peek_loc hr h]
  | conv d k x => simp only [stepI]; rw [peek_loc hr h]
  | s2b d x => simp only [stepI]; rw [peek_loc hr h]
  | b2s d x => simp only [stepI]; rw [peek_loc hr h]
  | make d sz z n => simp only [stepI]; rw [peek_loc hr h]
  | slc d str sz x lo hi m =>
    simp only [rdI] at h
    simp only [stepI]
    rw [take_loc hr h.left]
    congr 1
    funext q
    obtain ⟨t, ws⟩ := q
    simp only
    congr 1
    funext n
    rw [bound_loc hr h.right.right]
    congr 1
    funext hh
    rw [bound_loc hr h.right.left]
  | slc0 d x => simp only [stepI]; rw [peek_loc hr h]
  | fld d agg off sz x => simp only [stepI]; rw [peek_loc hr h]
  | fadr d off sz x => exact fadr_loc hr h
  | iadr d sz x i => simp only [rdI] at h; simp only [stepI]; rw [peek_loc hr h.left, peek_loc hr h.right, place_loc h.left]
  | idx d x i => simp only [rdI] at h; simp only [stepI]; rw [peek_loc hr h.left, peek_loc hr h.right]
  | ext d x i => exact ext_loc h
  | extp d x i => exact extp_loc h
  | len d str x => simp only [stepI]; rw [peek_loc hr h]
  | app d sz s x m => exact app_loc hr h
  | mm d mx x xs =>
    simp only [rdI] at h
    simp only [stepI]; rw [peek_loc hr h.left]
    congr 1
    funext t
    cases t <;> simp only
    rw [mmAll_loc hr h.right]
  | call d f fz args => simp only [stepI]; exact callOp_loc hr hc h
  | callv d fv args =>
    simp only [rdI] at h
    simp only [stepI]; rw [peekArgs_loc hr hc h.left h.right.right, peekArg_loc hr hc h.left h.right.left]
  | mkfn d f caps => rfl

theorem stepI_wok (hr : RefsOk ρ E) (hc : ClosOk fix E) {i : Ins} {ws : Env} (h : stepI σ ρ fix E i = some ws) : WOk ρ fix (wrI ρ fix i) ws := by
  cases i with
  | mv d x =>
    simp only [stepI, wrI] at h ⊢
    split at h
    · split at h <;> cases h; exact wrT
    · split at h
      · split at h
        · cases h; exact wrT
        · split at h <;> cases h; exact wrB ‹_›
      · split at h <;> cases h; exact wrB ‹_›
      · split at h <;> cases h; exact wrA ‹_›
      · cases h
  | nchk d x =>
    simp only [stepI, wrI] at h ⊢
    split at h
    · cases h
    · split at h
      · split at h
        · split at h <;> cases h; exact wrB ‹_›
        · cases h; exact wrT
      · split at h
        · split at h <;> cases h; exact wrB ‹_›
        · cases h
      · split at h
        · split at h <;> cases h; exact wrA ‹_›
        · cases h
      · cases h
  | asg d x m =>
    simp only [stepI, wrI, Option.bind_eq_some_iff] at h ⊢
    obtain ⟨⟨t, w1⟩, h1, h⟩ := h; cases h
    exact (wrT.mono fun s hs => List.mem_append.2 (.inl hs)).append ((take_wok hr h1).mono fun s hs => List.mem_append.2 (.inr hs))
  | pick d c a b =>
    simp only [stepI, wrI, Option.bind_eq_some_iff] at h ⊢
    obtain ⟨t, h1, h⟩ := h
    split at h
    · simp only [Option.bind_eq_some_iff] at h
      obtain ⟨t, _, h⟩ := h
      split at h <;> cases h; exact wrT
    · cases h
  | new d z => simp only [stepI] at h; cases h; exact wrT
  | box d x m =>
    simp only [stepI, wrI, Option.bind_eq_some_iff] at h ⊢
    obtain ⟨⟨t, w1⟩, h1, h⟩ := h
    simp only at h
    split at h <;> cases h
    exact (wrT.mono fun s hs => List.mem_append.2 (.inl hs)).append ((take_wok hr h1).mono fun s hs => List.mem_append.2 (.inr hs))
  | build d z ps =>
    simp only [stepI, wrI, Option.bind_eq_some_iff] at h ⊢
    obtain ⟨⟨t, w1⟩, h1, h⟩ := h; cases h
    exact (wrT.mono fun s hs => List.mem_append.2 (.inl hs)).append ((takeParts_wok hr h1).mono fun s hs => List.mem_append.2 (.inr hs))
  | mksl d sz z n ps =>
    simp only [stepI, wrI, Option.bind_eq_some_iff] at h ⊢
    obtain ⟨⟨t, w1⟩, h1, h⟩ := h; cases h
    exact (wrT.mono fun s hs => List.mem_append.2 (.inl hs)).append ((takeElems_wok hr h1).mono fun s hs => List.mem_append.2 (.inr hs))
  | load d agg sz a m => simp only [stepI] at h; exact load_wok hr h
  | store sz a x m => simp only [stepI] at h; exact store_wok hr h
  | bin d op x y =>
    simp only [stepI, wrI, Option.bind_eq_some_iff] at h ⊢
    obtain ⟨_, _, _, _, _, _, h⟩ := h; cases h; exact wrT
  | eqb d neg x y =>
    simp only [stepI, wrI, Option.bind_eq_some_iff] at h ⊢
    obtain ⟨_, _, _, _, _, _, h⟩ := h; cases h; exact wrT
  | eqv d neg ks x y =>
    simp only [stepI, wrI, Option.bind_eq_some_iff] at h ⊢
    obtain ⟨_, _, h⟩ := h
    split at h
    · simp only [Option.bind_eq_some_iff] at h
      obtain ⟨_, _, h⟩ := h
      split at h
      · simp only [Option.bind_eq_some_iff] at h
        obtain ⟨_, _, h⟩ := h; cases h; exact wrT
      · cases h
    · cases h
  | un d op x =>
    simp only [stepI, wrI, Option.bind_eq_some_iff] at h ⊢
    obtain ⟨_, _, _, _, h⟩ := h; cases h; exact wrT
  | conv d k x =>
    simp only [stepI, wrI, Option.bind_eq_some_iff] at h ⊢
    obtain ⟨_, _, h⟩ := h
    split at h <;> cases h; exact wrT
  | s2b d x =>
    simp only [stepI, wrI, Option.bind_eq_some_iff] at h ⊢
    obtain ⟨_, _, h⟩ := h
    split at h
    · split at h <;> cases h; exact wrT
    · cases h
  | b2s d x =>
    simp only [stepI, wrI, Option.bind_eq_some_iff] at h ⊢
    obtain ⟨_, _, h⟩ := h
    split at h
    · cases h; exact wrT
    · split at h
      · simp only [Option.bind_eq_some_iff] at h
        obtain ⟨_, _, h⟩ := h; cases h; exact wrT
      · cases h
    · cases h
  | make d sz z n =>
    simp only [stepI, wrI, Option.bind_eq_some_iff] at h ⊢
    obtain ⟨_, _, _, _, h⟩ := h
    split at h <;> cases h; exact wrT
  | slc d str sz x lo hi m =>
    simp only [stepI, wrI, Option.bind_eq_some_iff] at h ⊢
    obtain ⟨⟨t, w1⟩, h1, n, _, hh, _, l, _, h⟩ := h
    have hw : ∀ T, WOk ρ fix (wrS ρ d ++ wrO ρ m x) (wr ρ d (.tree T) ++ w1) := fun T =>
      (wrT.mono fun s hs => List.mem_append.2 (.inl hs)).append ((take_wok hr h1).mono fun s hs => List.mem_append.2 (.inr hs))
    split at h
    · split at h
      · cases h; exact hw _
      · split at h <;> cases h; exact hw _
      · cases h
    · cases h
  | slc0 d x =>
    simp only [stepI, wrI, Option.bind_eq_some_iff] at h ⊢
    obtain ⟨_, _, h⟩ := h
    split at h
    · cases h; exact wrT
    · cases h; exact wrT
    · cases h
  | fld d agg off sz x =>
    simp only [stepI, wrI, Option.bind_eq_some_iff] at h ⊢
    obtain ⟨_, _, h⟩ := h
    split at h
    · simp only [Option.bind_eq_some_iff] at h
      obtain ⟨_, _, _, _, h⟩ := h
      split at h <;> cases h; exact wrT
    · cases h
  | fadr d off sz x =>
    simp only [stepI, wrI, Option.bind_eq_some_iff] at h ⊢
    obtain ⟨ad, _, h⟩ := h
    cases ad with
    | sh cs =>
      simp only [Option.bind_eq_some_iff] at h
      obtain ⟨_, _, h⟩ := h; cases h; exact wrT
    | own r p i j =>
      simp only at h
      split at h
      · split at h <;> cases h; exact wrA ‹_›
      · cases h
  | iadr d sz x i =>
    simp only [stepI, wrI, Option.bind_eq_some_iff] at h ⊢
    obtain ⟨_, _, _, _, _, _, h⟩ := h
    split at h
    · split at h
      · simp only [Option.bind_eq_some_iff] at h
        obtain ⟨⟨r, p⟩, _, h⟩ := h
        simp only at h
        split at h <;> cases h; exact wrA ‹_›
      · cases h
    · split at h
      · simp only [Option.bind_eq_some_iff] at h
        obtain ⟨_, _, h⟩ := h; cases h; exact wrT
      · cases h
    · cases h
  | idx d x i =>
    simp only [stepI, wrI, Option.bind_eq_some_iff] at h ⊢
    obtain ⟨_, _, _, _, _, _, h⟩ := h
    split at h
    · simp only [Option.bind_eq_some_iff] at h
      obtain ⟨_, _, h⟩ := h; cases h; exact wrT
    · cases h
  | ext d x i =>
    simp only [stepI, wrI] at h ⊢
    split at h
    · rename_i s
      split at h
      · simp only [Option.bind_eq_some_iff] at h
        obtain ⟨_, _, h⟩ := h
        split at h
        · cases h; exact wrT.mono fun s hs => List.mem_append.2 (.inl hs)
        · cases h
          exact (wrT.mono fun s hs => List.mem_append.2 (.inl hs)).append (wrT.mono fun s hs => List.mem_append.2 (.inr (List.mem_append.2 (.inl hs))))
      · cases h
    · cases h
  | extp d x i =>
    simp only [stepI, wrI] at h ⊢
    split at h
    · split at h
      · simp only [Option.bind_eq_some_iff] at h
        obtain ⟨_, _, h⟩ := h
        split at h
        · cases h; exact wrT
        · cases h
      · cases h
    · cases h
  | len d str x =>
    simp only [stepI, wrI, Option.bind_eq_some_iff] at h ⊢
    obtain ⟨_, _, _, _, h⟩ := h; cases h; exact wrT
  | app d sz s x m =>
    simp only [stepI, wrI, Option.bind_eq_some_iff] at h ⊢
    obtain ⟨⟨tx, w1⟩, h1, ⟨ts, w2⟩, h2, new, _, h⟩ := h
    have k1 := take_wok (fix := fix) hr h1
    have k2 := take_wok (fix := fix) (k1.refs hr) h2
    have hw : ∀ T, WOk ρ fix (wrS ρ d ++ (wrO ρ .move s ++ wrO ρ m x)) (wr ρ d (.tree T) ++ (w2 ++ w1)) := fun T =>
      (wrT.mono fun s hs => List.mem_append.2 (.inl hs)).append ((k2.mono fun s hs => List.mem_append.2 (.inr (List.mem_append.2 (.inl hs)))).append (k1.mono fun s hs => List.mem_append.2 (.inr (List.mem_append.2 (.inr hs)))))
    split at h
    · split at h
      · split at h <;> cases h <;> exact hw _
      · cases h
    · split at h <;> cases h; exact hw _
    · cases h
  | mm d mx x xs =>
    simp only [stepI, wrI, Option.bind_eq_some_iff] at h ⊢
    obtain ⟨_, _, h⟩ := h
    split at h
    · simp only [Option.bind_eq_some_iff] at h
      obtain ⟨_, _, h⟩ := h; cases h; exact wrT
    · cases h
  | call d f fz args => simp only [stepI] at h; exact callOp_wok hr hc h
  | callv d fv args =>
    simp only [stepI, wrI, Option.bind_eq_some_iff] at h ⊢
    obtain ⟨_, _, _, _, h⟩ := h
    split at h
    · split at h
      · simp only [Option.bind_eq_some_iff] at h
        obtain ⟨⟨t, outs⟩, _, h⟩ := h
        simp only at h
        split at h <;> cases h
        cases d with
        | none => exact WOk.nil
        | some x => simpa [putRes] using wrT
      · cases h
    · cases h
  | mkfn d f caps =>
    simp only [stepI, wrI] at h ⊢
    split at h <;> cases h
    rename_i hall
    refine wr_wok (by rintro r p (h | ⟨i, j, h⟩) <;> cases h) ?_
    intro f' caps' he c hcm
    cases he
    simpa using List.all_eq_true.1 hall c hcm

theorem dst_wr {i : Ins} {d : Nat} (h : d ∈ dstOf i) : ∀ s, s ∈ wrS ρ d → s ∈ wrI ρ fix i := by
  intro s hs
  cases i <;> simp only [dstOf, List.mem_singleton, Option.mem_toList, List.not_mem_nil] at h <;> (try subst h) <;> simp only [wrI, List.mem_append] <;> first | exact hs | exact .inl hs | skip
  · left; exact List.mem_flatMap.2 ⟨d, by simp, hs⟩
  · exact List.mem_flatMap.2 ⟨d, by simp, hs⟩

theorem stepG_loc (hr : RefsOk ρ E) (hc : ClosOk fix E) {o : Option (Nat × Bool) × Ins} (h : Agr (rdG ρ fix o) E E') : stepG σ ρ fix E o = stepG σ ρ fix E' o := by
  obtain ⟨g, i⟩ := o
  cases g with
  | none => exact stepI_loc hr hc h.right
  | some g =>
    obtain ⟨g, want⟩ := g
    simp only [stepG]
    rw [← h.left g (by simp), stepI_loc hr hc h.right]

theorem stepG_wok (hr : RefsOk ρ E) (hc : ClosOk fix E) {o : Option (Nat × Bool) × Ins} {ws : Env} (h : stepG σ ρ fix E o = some ws) : WOk ρ fix (wrI ρ fix o.2) ws := by
  obtain ⟨g, i⟩ := o
  cases g with
  | none => exact stepI_wok hr hc h
  | some g =>
    obtain ⟨g, want⟩ := g
    simp only [stepG] at h
    split at h
    · split at h
      · exact stepI_wok hr hc h
      · cases h
        intro e he
        obtain ⟨d, hd, he⟩ := List.mem_flatMap.1 he
        exact wrG.mono (dst_wr hd) e he
    · cases h
      intro e he
      obtain ⟨d, hd, he⟩ := List.mem_flatMap.1 he
      exact wrG.mono (dst_wr hd) e he
    · cases h
end
end Go.Vs
/- A region's operations in another order. -/
namespace Go.Vs
open Go

abbrev POp := Option (Nat × Bool) × Ins

def EqE (E E' : Env) : Prop := ∀ s, get E s = get E' s

theorem EqE.refl (E : Env) : EqE E E := fun _ => rfl
theorem EqE.symm {E E' : Env} (h : EqE E E') : EqE E' E := fun s => (h s).symm
theorem EqE.trans {E1 E2 E3 : Env} (h : EqE E1 E2) (h' : EqE E2 E3) : EqE E1 E3 := fun s => (h s).trans (h' s)
theorem EqE.ws {E E' : Env} (h : EqE E E') (ws : Env) : EqE (ws ++ E) (ws ++ E') := by
  intro s; rw [get_append, get_append, h s]
theorem EqE.agr {E E' : Env} (h : EqE E E') (L : List Nat) : Agr L E E' := fun s _ => h s

theorem keepE_eq {ks : List Nat} {E E' : Env} (h : EqE E E') : keepE ks E = keepE ks E' := by
  simp only [keepE]
  exact List.map_congr_left fun k _ => by rw [h k]

def disj (a b : List Nat) : Bool := a.all fun x => !b.contains x

theorem disj_sound {a b : List Nat} (h : disj a b = true) : ∀ x, x ∈ a → x ∉ b := by
  intro x hx hb
  have := List.all_eq_true.1 h x hx
  simp [hb] at this

/-- neither sees what the other does -/
def apart (ρ : Roots) (fix : List Nat) (x y : POp) : Bool :=
  disj (wrI ρ fix x.2) (rdG ρ fix y) && disj (wrI ρ fix y.2) (rdG ρ fix x) && disj (wrI ρ fix x.2) (wrI ρ fix y.2)

section
variable {ρ : Roots} {fix : List Nat} {σ : Oracle} {E E' : Env}

def Good (ρ : Roots) (fix : List Nat) (E : Env) : Prop := RefsOk ρ E ∧ ClosOk fix E

theorem Good.eq (h : Good ρ fix E) (he : EqE E E') : Good ρ fix E' :=
  ⟨fun s r p hr => h.1 s r p (by simpa only [RefAt, he s] using hr), fun s f caps hg => h.2 s f caps (by rw [he s]; exact hg)⟩

theorem Good.step (h : Good ρ fix E) {o : POp} {ws : Env} (hs : stepG σ ρ fix E o = some ws) : Good ρ fix (ws ++ E) :=
  ⟨(stepG_wok h.1 h.2 hs).refs h.1, (stepG_wok h.1 h.2 hs).clos h.2⟩

theorem get_swap {a b : Env} (h : ∀ s, (a.any fun e => decide (e.1 = s)) = true → (b.any fun e => decide (e.1 = s)) = false) : EqE (a ++ (b ++ E)) (b ++ (a ++ E)) := by
  intro s
  simp only [get_append]
  by_cases ha : (a.any fun e => decide (e.1 = s)) = true
  · simp [ha, h s ha]
  · simp [ha]

theorem any_mem {ws : Env} {W : List Nat} {s : Nat} (h : WOk ρ fix W ws) (ha : (ws.any fun e => decide (e.1 = s)) = true) : s ∈ W :=
  (h _ (get_mem ha)).1

/-- two operations that do not see each other -/
theorem swap {x y : POp} {wx wy : Env} (hg : Good ρ fix E) (ha : apart ρ fix x y = true) (hx : stepG σ ρ fix E x = some wx) (hy : stepG σ ρ fix (wx ++ E) y = some wy) :
    stepG σ ρ fix E y = some wy ∧ stepG σ ρ fix (wy ++ E) x = some wx ∧ EqE (wy ++ (wx ++ E)) (wx ++ (wy ++ E)) := by
  simp only [apart, Bool.and_eq_true] at ha
  obtain ⟨⟨a1, a2⟩, a3⟩ := ha
  have kx := stepG_wok hg.1 hg.2 hx
  have hy' : stepG σ ρ fix E y = some wy := by
    rw [← hy]
    refine stepG_loc hg.1 hg.2 fun s hs => ?_
    exact (kx.keeps fun hw => disj_sound a1 s hw hs).symm
  have ky := stepG_wok hg.1 hg.2 hy'
  refine ⟨hy', ?_, get_swap fun s h1 => ?_⟩
  · rw [← hx]
    refine (stepG_loc hg.1 hg.2 fun s hs => ?_).symm
    exact (ky.keeps fun hw => disj_sound a2 s hw hs).symm
  · cases hq : (wx.any fun e => decide (e.1 = s)) with
    | false => rfl
    | true => exact absurd (any_mem ky h1) (disj_sound a3 s (any_mem kx hq))

def evL (σ : Oracle) (ρ : Roots) (fix : List Nat) (ops : List POp) : List Nat → Env → Option Env
  | [], E => some E
  | i :: l, E => match ops[i]? with
    | some o => (stepG σ ρ fix E o).bind fun ws => evL σ ρ fix ops l (ws ++ E)
    | none => none

theorem evL_range (ops : List POp) : ∀ (k : Nat) (pre post : List POp) (E : Env), ops = pre ++ post → pre.length = k → evOps σ ρ fix post E = evL σ ρ fix ops (List.range' k post.length) E
  | k, pre, [], E, _, _ => by simp [evOps, evL]
  | k, pre, o :: post, E, h, hk => by
    simp only [List.length_cons, List.range'_succ, evL, evOps]
    have : ops[k]? = some o := by rw [h, List.getElem?_append_right (by omega)]; simp [hk]
    rw [this]
    congr 1
    funext ws
    exact evL_range ops (k + 1) (pre ++ [o]) post (ws ++ E) (by simp [h]) (by simp [hk])

theorem evL_congr {ops : List POp} : ∀ {l : List Nat} {E E' F : Env}, Good ρ fix E → EqE E E' → evL σ ρ fix ops l E = some F → ∃ F', evL σ ρ fix ops l E' = some F' ∧ EqE F F'
  | [], E, E', F, hg, he, h => by simp only [evL, Option.some.injEq] at h; subst h; exact ⟨E', rfl, he⟩
  | i :: l, E, E', F, hg, he, h => by
    simp only [evL] at h ⊢
    cases ho : ops[i]? with
    | none => rw [ho] at h; cases h
    | some o =>
      rw [ho] at h
      simp only [Option.bind_eq_some_iff] at h
      obtain ⟨ws, h1, h⟩ := h
      simp only
      rw [← stepG_loc hg.1 hg.2 (he.agr _), h1]
      simp only [Option.bind_some]
      exact evL_congr (hg.step h1) (he.ws ws) h

/-- an operation that sees none of those ahead of it comes to the front -/
theorem bubble {ops : List POp} {i : Nat} {o : POp} (ho : ops[i]? = some o) : ∀ {pre post : List Nat} {E F : Env}, Good ρ fix E →
    (∀ x, x ∈ pre → ∃ q, ops[x]? = some q ∧ apart ρ fix q o = true) → evL σ ρ fix ops (pre ++ i :: post) E = some F →
    ∃ F', evL σ ρ fix ops (i :: (pre ++ post)) E = some F' ∧ EqE F F'
  | [], post, E, F, hg, ha, h => ⟨F, h, EqE.refl F⟩
  | x :: pre, post, E, F, hg, ha, h => by
    obtain ⟨q, hq, hap⟩ := ha x (by simp)
    simp only [List.cons_append, evL, hq, Option.bind_eq_some_iff] at h
    obtain ⟨wx, hx, h⟩ := h
    obtain ⟨F1, h1, he1⟩ := bubble ho (hg.step hx) (fun y hy => ha y (by simp [hy])) h
    simp only [evL, ho, Option.bind_eq_some_iff] at h1
    obtain ⟨wy, hy, h1⟩ := h1
    obtain ⟨g1, g2, g3⟩ := swap hg hap hx hy
    obtain ⟨F2, h2, he2⟩ := evL_congr ((hg.step hx).step hy) g3 h1
    refine ⟨F2, ?_, he1.trans he2⟩
    simp only [evL, ho, g1, Option.bind_some, List.cons_append, hq, g2]
    exact h2
end
end Go.Vs
/- A region of the model runs as the interpreter says. -/
namespace Go.Vs
open Go

/-- behind some code -/
def Went (ids : Nat → Nat) (S A : Nat → Prop) (N : Nat) (kp : List Nat) (ρ : Roots) (fix : List Nat) (w : World) (tm : Array Value) (ds : List Deferred) (E' : Env) (a' : Act) (w' : World) : Prop :=
  ∃ tm' S' obs', a' = ⟨tm', ds⟩ ∧ Inv ids S' A N ρ fix w' tm' E' obs' [] ∧ Evo A w w' ∧ (∀ b, S b → S' b) ∧ (∀ b, S' b → S b ∨ A b) ∧ ∀ s, s ∈ kp → tm'.getD s undef = tm.getD s undef

def okGuard (ops : Array Oper) : Option (Nat × Bool) → Option (Nat × Bool) → Bool
  | none, none => true
  | some (j, want), some (g, want') => want == want' && (match ops[j]? with
    | some oj => oj.dst == some g
    | none => false)
  | _, _ => false

def okG (P : Program) (ids : Nat → Nat) (N : Nat) (fix kp : List Nat) (ops : Array Oper) (o : Oper) (q : POp) : Bool :=
  okIns P ids o q.2 && o.dst.toList == dstOf q.2 && (dstOf q.2).all (fun d => decide (d < N) && !fix.contains d && !kp.contains d) && okGuard ops o.guard q.1

section
variable {P : Program} {ids : Nat → Nat} {S S' A : Nat → Prop} {N : Nat} {kp : List Nat} {ρ : Roots} {fix : List Nat} {w w' : World} {tm : Array Value} {ds : List Deferred} {E F : Env} {obs : Nat → List Nat}
variable {K : Act → World → Prop} {Q : Exit → Act → World → Prop} {σ : Oracle}

theorem Went.refl (h : Inv ids S A N ρ fix w tm E obs []) : Went ids S A N kp ρ fix w tm ds E ⟨tm, ds⟩ w :=
  ⟨tm, S, obs, rfl, h, Evo.refl A w, fun _ h => h, fun _ h => .inl h, fun _ _ => rfl⟩

theorem opG_sound {ops : Array Oper} {o : Oper} {q : POp} {ws : Env} (hσ : Sound P ids σ) (h : Inv ids S A N ρ fix w tm E obs []) (hok : okG P ids N fix kp ops o q = true)
    (hs : stepG σ ρ fix E q = some ws) (hK : ∀ a' w', After ids S A N ρ fix w tm ds E (dstOf q.2) ws a' w' → K a' w') :
    if Region.wanted o (yielded ops (Act.mk tm ds).tmps) then o.wp P ⟨tm, ds⟩ w K Q ∨ (o.asks P ⟨tm, ds⟩ w ∧ LetsOut Q) else K ((Act.mk tm ds).put o.dst undef) w := by
  simp only [okG, Bool.and_eq_true, List.all_eq_true, beq_iff_eq, decide_eq_true_eq, Bool.not_eq_true'] at hok
  obtain ⟨⟨⟨k1, k2⟩, k3⟩, k4⟩ := hok
  have hd : ∀ x, x ∈ dstOf q.2 → x < N ∧ x ∉ fix := by
    intro x hx
    obtain ⟨⟨g1, g2⟩, g3⟩ := k3 x hx
    exact ⟨g1, by simpa using g2⟩
  obtain ⟨g, i⟩ := q
  simp only at k1 k2 k3 k4 hd
  unfold okGuard at k4
  split at k4
  · rename_i hgd
    rw [if_pos (by simp [Region.wanted, hgd])]
    exact .inl (op_sound hσ h k1 hd (by simpa [stepG] using hs) hK)
  · rename_i j want g' want' hgd
    rw [Bool.and_eq_true, beq_iff_eq] at k4
    obtain ⟨rfl, k4⟩ := k4
    split at k4
    · rename_i oj hoj
      rw [beq_iff_eq] at k4
      have skip : ws = ((dstOf i).flatMap fun d => wr ρ d .gone) → K ((Act.mk tm ds).put o.dst undef) w := by
        rintro rfl
        refine hK _ _ ?_
        rw [← k2] at hd ⊢
        cases ho : o.dst with
        | none =>
          exact ⟨tm, S, obs, rfl, by simpa using h, Evo.refl A w, fun _ h => h, fun _ h => .inl h, fun _ _ => rfl⟩
        | some d =>
          rw [ho] at hd
          obtain ⟨h1, h2⟩ := hd d (by simp)
          have hI := Inv.put (d := d) (a := .gone) (v := undef) (ob := []) (H := []) (by simpa using h) h1 h2 (by simp [SlotOk, get_wr, getD_set_self (by rw [h.size]; exact h1)]) (by rintro r p (h | ⟨i, j, h⟩) <;> cases h) (by intro f caps h; cases h)
          exact ⟨_, S, _, rfl, by simpa using hI, Evo.refl A w, fun _ h => h, fun _ h => .inl h, fun s hs => getD_set_ne (by simpa using hs)⟩
      simp only [stepG] at hs
      split at hs
      · rename_i b hb
        have h0 := h.slot g'
        simp only [SlotOk, hb, Rep] at h0
        have hlt : g' < tm.size := by
          refine Classical.byContradiction fun hn => ?_
          have : tm.getD g' undef = undef := by
            simp only [Array.getD_eq_getD_getElem?]
            rw [Array.getElem?_eq_none (by omega)]; rfl
          rw [this] at h0
          exact absurd h0.1 (by simp [undef])
        have hy : yielded ops tm j = some b := by
          unfold yielded
          simp only [hoj, Option.bind_some, k4]
          have : tm[g']? = some (.bool b) := by
            have := h0.1
            simp only [Array.getD_eq_getD_getElem?, Array.getElem?_eq_getElem hlt, Option.getD_some] at this
            rw [Array.getElem?_eq_getElem hlt, this]
          rw [this]
        split at hs
        · rename_i hbw
          rw [if_pos (by simp [Region.wanted, hgd, hy, hbw])]
          exact .inl (op_sound hσ h k1 hd hs hK)
        · rename_i hbw
          rw [if_neg (by simp [Region.wanted, hgd, hy, hbw])]
          simp only [Option.some.injEq] at hs; subst hs
          exact skip rfl
      · rename_i hb
        have h0 := h.slot g'
        simp only [SlotOk, hb] at h0
        have hy : yielded ops tm j = none := by
          unfold yielded
          simp only [hoj, Option.bind_some, k4]
          have h1 := h0.2
          simp only [Array.getD_eq_getD_getElem?] at h1
          cases hq : tm[g']? with
          | none => rfl
          | some v =>
            rw [hq] at h1
            simp only [Option.getD_some] at h1
            subst h1; rfl
        rw [if_neg (by simp [Region.wanted, hgd, hy])]
        simp only [Option.some.injEq] at hs; subst hs
        exact skip rfl
      · cases hs
    · cases k4
  · cases k4

theorem Inv.good (h : Inv ids S A N ρ fix w tm E obs []) : Good ρ fix E := ⟨h.ref, h.clo⟩

/-- one operation further -/
theorem Went.after {_a : Act} {i : List Nat} {ws : Env} {w1 : World} {tm1 : Array Value} {S1 : Nat → Prop} {a' : Act} (hkp : ∀ d, d ∈ i → d ∉ kp)
    (h1 : Evo A w w1) (h2 : ∀ b, S b → S1 b) (h3 : ∀ b, S1 b → S b ∨ A b) (h4 : ∀ s, s ∈ kp → tm1.getD s undef = tm.getD s undef)
    (h : After ids S1 A N ρ fix w1 tm1 ds E i ws a' w') : Went ids S A N kp ρ fix w tm ds (ws ++ E) a' w' := by
  obtain ⟨tm', S', obs', rfl, g1, g2, g3, g4, g5⟩ := h
  exact ⟨tm', S', obs', rfl, g1, h1.trans g2, fun b hb => g3 b (h2 b hb), fun b hb => (g4 b hb).elim (h3 b) .inr, fun s hs => (g5 s (fun hx => hkp s hx hs)).trans (h4 s hs)⟩

theorem okG_kp {ops : Array Oper} {o : Oper} {q : POp} (hok : okG P ids N fix kp ops o q = true) : ∀ d, d ∈ dstOf q.2 → d ∉ kp := by
  simp only [okG, Bool.and_eq_true, List.all_eq_true, beq_iff_eq, decide_eq_true_eq, Bool.not_eq_true'] at hok
  intro d hd
  simpa using (hok.1.2 d hd).2

theorem wpOps_sound {ops : Array Oper} {pops : List POp} (hσ : Sound P ids σ) (hok : ∀ (i : Nat) (o : Oper) (q : POp), ops[i]? = some o → pops[i]? = some q → okG P ids N fix kp ops o q = true) (hlen : ops.size = pops.length) :
    ∀ (l : List Nat) (E : Env) (a : Act) (w1 : World), Went ids S A N kp ρ fix w tm ds E a w1 → evL σ ρ fix pops l E = some F →
      (∀ a' w', Went ids S A N kp ρ fix w tm ds F a' w' → Q .normal a' w') → wpOps P ops Q l a w1
  | [], E, a, w1, hw, he, hq => by
    simp only [evL, Option.some.injEq] at he; subst he
    exact hq _ _ hw
  | i :: l, E, a, w1, hw, he, hq => by
    simp only [evL] at he
    cases hp : pops[i]? with
    | none => rw [hp] at he; cases he
    | some q =>
      rw [hp] at he
      simp only [Option.bind_eq_some_iff] at he
      obtain ⟨ws, h1, he⟩ := he
      have hi : i < ops.size := by rw [hlen]; exact (List.getElem?_eq_some_iff.1 hp).1
      have ho : ops[i]? = some ops[i] := Array.getElem?_eq_getElem hi
      obtain ⟨tm1, S1, obs1, rfl, g1, g2, g3, g4, g5⟩ := hw
      simp only [wpOps, ho]
      have hk := hok i _ q ho hp
      exact opG_sound hσ g1 hk h1 fun a' w' haf => wpOps_sound hσ hok hlen l _ a' w' (Went.after (_a := a') (okG_kp hk) g2 g3 g4 g5 haf) he hq

/-- which operations come ahead -/
def aft (o : Oper) : List Nat := (o.after.toList.filter fun e => Region.binds .any e).map (·.on)

def bitOf (M : List Nat) (i x : Nat) : Bool := (M.getD i 0).testBit x

def befs : List Oper → List Nat → List Nat
  | [], acc => acc
  | o :: os, acc => befs os (acc ++ [(aft o).foldl (fun s y => s ||| 2 ^ y ||| acc.getD y 0) 0])

/-- what is not ordered does not see each other -/
def ordOk (ρ : Roots) (fix : List Nat) (ops : Array Oper) (pops : List POp) : Bool :=
  let M := befs ops.toList []
  (List.range ops.size).all fun i => match ops[i]?, pops[i]? with
    | some o, some q => (aft o).all (fun y => decide (y < i)) && (List.range i).all fun x =>
        (if bitOf M i x then (aft o).contains x || (aft o).any (fun y => decide (x < y) && bitOf M y x) else match pops[x]? with
          | some p => apart ρ fix p q
          | none => false)
    | _, _ => false

def Listed (listed : Array Bool) (i : Nat) : Prop := listed.getD i true = true

theorem ready_aft {ops : Array Oper} {listed : Array Bool} {i : Nat} {o : Oper} (ho : ops[i]? = some o) :
    i ∈ Region.ready .any ops listed ↔ ¬ Listed listed i ∧ ∀ y, y ∈ aft o → listed.getD y false = true := by
  have hi := (Array.getElem?_eq_some_iff.1 ho).1
  simp only [Region.ready, List.mem_filter, List.mem_range, hi, true_and, ho, Option.map_some, Option.getD_some, Bool.and_eq_true, Bool.not_eq_true', Listed, Bool.not_eq_true, Array.all_eq_true_iff_forall_mem, Bool.or_eq_true, aft,
    List.mem_map, List.mem_filter]
  constructor
  · rintro ⟨h1, h2⟩
    refine ⟨h1, ?_⟩
    rintro y ⟨e, ⟨he, hb⟩, rfl⟩
    rcases h2 e (by simpa using he) with h | h
    · simp [hb] at h
    · exact h
  · rintro ⟨h1, h2⟩
    refine ⟨h1, fun e he => ?_⟩
    cases hb : Region.binds .any e with
    | false => left; simp
    | true => right; exact h2 e.on ⟨e, ⟨by simpa using he, hb⟩, rfl⟩

theorem ordOk_at {ops : Array Oper} {pops : List POp} (h : ordOk ρ fix ops pops = true) {i : Nat} {o : Oper} {q : POp} (ho : ops[i]? = some o) (hq : pops[i]? = some q) :
    (∀ y, y ∈ aft o → y < i) ∧ ∀ x, x < i → (bitOf (befs ops.toList []) i x = true ∧ (x ∈ aft o ∨ ∃ y, y ∈ aft o ∧ x < y ∧ bitOf (befs ops.toList []) y x = true)) ∨
      (bitOf (befs ops.toList []) i x = false ∧ ∃ p, pops[x]? = some p ∧ apart ρ fix p q = true) := by
  have hi := (Array.getElem?_eq_some_iff.1 ho).1
  simp only [ordOk, List.all_eq_true, List.mem_range] at h
  have := h i hi
  rw [ho, hq] at this
  simp only [Bool.and_eq_true, List.all_eq_true, decide_eq_true_eq, List.mem_range] at this
  refine ⟨this.1, fun x hx => ?_⟩
  have h2 := this.2 x hx
  split at h2
  · rename_i hb
    left
    simp only [Bool.or_eq_true, List.contains_iff_mem, List.any_eq_true, Bool.and_eq_true, decide_eq_true_eq] at h2
    exact ⟨hb, h2⟩
  · rename_i hb
    right
    refine ⟨by simpa using hb, ?_⟩
    split at h2
    · exact ⟨_, by assumption, h2⟩
    · cases h2

theorem bit_listed {ops : Array Oper} {pops : List POp} (h : ordOk ρ fix ops pops = true) (hlen : ops.size = pops.length) {listed : Array Bool} (hsz : listed.size = ops.size)
    (hcl : ∀ i o, ops[i]? = some o → Listed listed i → ∀ y, y ∈ aft o → Listed listed y) :
    ∀ i, ∀ o, ops[i]? = some o → (∀ y, y ∈ aft o → Listed listed y) → ∀ x, x < i → bitOf (befs ops.toList []) i x = true → Listed listed x := by
  intro i
  induction i using Nat.strongRecOn with
  | _ i ih =>
    intro o ho hal x hx hb
    have hi := (Array.getElem?_eq_some_iff.1 ho).1
    have hq : pops[i]? = some (pops[i]'(by omega)) := List.getElem?_eq_getElem (by omega)
    obtain ⟨h1, h2⟩ := ordOk_at h ho hq
    rcases h2 x hx with ⟨_, h3⟩ | ⟨h3, _⟩
    · rcases h3 with h3 | ⟨y, hy, hxy, h3⟩
      · exact hal x h3
      · have hyi := h1 y hy
        have hoy : ops[y]? = some ops[y] := Array.getElem?_eq_getElem (by omega)
        exact ih y hyi _ hoy (hcl y _ hoy (hal y hy)) x hxy h3
    · rw [hb] at h3; cases h3

theorem EqE.evo {F' : Env} (_h : EqE F F') {a : Act} (hq : Went ids S A N kp ρ fix w tm ds F' a w') : Went ids S A N kp ρ fix w tm ds F' a w' := hq

theorem wpAny_sound' {ops : Array Oper} {pops : List POp} (hσ : Sound P ids σ) (hok : ∀ (i : Nat) (o : Oper) (q : POp), ops[i]? = some o → pops[i]? = some q → okG P ids N fix kp ops o q = true) (hlen : ops.size = pops.length)
    (hord : ordOk ρ fix ops pops = true) :
    ∀ (fuel : Nat) (rem : List Nat) (listed : Array Bool) (E F : Env) (a : Act) (w1 : World), rem.length = fuel → rem.Pairwise (· < ·) → listed.size = ops.size →
      (∀ i, i ∈ rem ↔ ¬ Listed listed i) → (∀ (i : Nat) (o : Oper), ops[i]? = some o → Listed listed i → ∀ y, y ∈ aft o → Listed listed y) →
      Went ids S A N kp ρ fix w tm ds E a w1 → evL σ ρ fix pops rem E = some F →
      (∀ F' a' w', EqE F F' → Went ids S A N kp ρ fix w tm ds F' a' w' → Q .normal a' w') → wpAny P .any ops Q fuel listed a w1
  | 0, rem, listed, E, F, a, w1, hf, hs, hsz, hrem, hcl, hw, he, hq => by
    have : rem = [] := List.eq_nil_of_length_eq_zero hf
    subst this
    simp only [evL, Option.some.injEq] at he; subst he
    refine ⟨?_, hq _ _ _ (EqE.refl _) hw⟩
    simp only [Region.ready, List.filter_eq_nil_iff, List.mem_range]
    intro i hi hr
    simp only [Bool.and_eq_true, Bool.not_eq_true'] at hr
    exact List.not_mem_nil ((hrem i).2 (by simp [Listed, hr.1]))
  | fuel + 1, rem, listed, E, F, a, w1, hf, hs, hsz, hrem, hcl, hw, he, hq => by
    have hin : ∀ i, i ∈ rem → i < ops.size := by
      intro i hi
      refine Classical.byContradiction fun hn => (hrem i).1 hi ?_
      simp only [Listed, Array.getD_eq_getD_getElem?]
      rw [Array.getElem?_eq_none (by omega)]; rfl
    have hlf : ∀ y, y < ops.size → Listed listed y → listed.getD y false = true := by
      intro y hy hl
      simp only [Listed, Array.getD_eq_getD_getElem?, Array.getElem?_eq_getElem (show y < listed.size by omega), Option.getD_some] at hl ⊢
      exact hl
    have hfl : ∀ y, listed.getD y false = true → Listed listed y := by
      intro y hl
      simp only [Listed, Array.getD_eq_getD_getElem?] at hl ⊢
      cases hq : listed[y]? with
      | none => simp
      | some b => simpa [hq] using hl
    cases rem with
    | nil => simp at hf
    | cons r rest =>
      refine ⟨fun hr => ?_, ?_⟩
      · -- the first of the rest is ready
        exfalso
        have hri := hin r (by simp)
        have hor : ops[r]? = some ops[r] := Array.getElem?_eq_getElem hri
        have hqr : pops[r]? = some (pops[r]'(by omega)) := List.getElem?_eq_getElem (by omega)
        have : r ∈ Region.ready .any ops listed := by
          rw [ready_aft hor]
          refine ⟨(hrem r).1 (by simp), fun y hy => ?_⟩
          have hyr := (ordOk_at hord hor hqr).1 y hy
          refine hlf y (by omega) (Classical.byContradiction fun hn => ?_)
          have := (hrem y).2 hn
          rcases List.mem_cons.1 this with h | h
          · omega
          · have := (List.pairwise_cons.1 hs).1 y h; omega
        rw [hr] at this; simp at this
      · intro i hi
        have hio : i < ops.size := by
          simp only [Region.ready, List.mem_filter, List.mem_range] at hi; exact hi.1
        have ho : ops[i]? = some ops[i] := Array.getElem?_eq_getElem hio
        have hp : pops[i]? = some (pops[i]'(by omega)) := List.getElem?_eq_getElem (by omega)
        rw [ready_aft ho] at hi
        obtain ⟨hnl, hal⟩ := hi
        obtain ⟨pre, post, hsplit⟩ := List.append_of_mem ((hrem i).2 hnl)
        obtain ⟨tm1, S1, obs1, rfl, g1, g2, g3, g4, g5⟩ := hw
        rw [hsplit] at hs he hf hrem
        obtain ⟨s1, s2, s3⟩ := List.pairwise_append.1 hs
        have hpre : ∀ x, x ∈ pre → x < i ∧ ¬ Listed listed x := fun x hx => ⟨s3 x hx i (by simp), (hrem x).1 (by simp [hx])⟩
        obtain ⟨F1, he1, heq⟩ := bubble hp g1.good (fun x hx => by
          obtain ⟨hxi, hxl⟩ := hpre x hx
          rcases (ordOk_at hord ho hp).2 x hxi with ⟨hb, _⟩ | ⟨_, h⟩
          · exact absurd (bit_listed hord hlen hsz hcl i _ ho (fun y hy => hfl y (hal y hy)) x hxi hb) hxl
          · exact h) he
        simp only [evL, hp, Option.bind_eq_some_iff] at he1
        obtain ⟨ws, h1, he1⟩ := he1
        have hk := hok i _ _ ho hp
        simp only [wpOp, ho]
        refine opG_sound hσ g1 hk h1 fun a' w' haf => ?_
        refine wpAny_sound' hσ hok hlen hord fuel (pre ++ post) _ _ F1 a' w' ?_ ?_ ?_ ?_ ?_ (Went.after (_a := a') (okG_kp hk) g2 g3 g4 g5 haf) he1 (fun F' a' w' h => hq F' a' w' (heq.trans h))
        · simp only [List.length_append, List.length_cons] at hf ⊢; omega
        · exact List.pairwise_append.2 ⟨s1, (List.pairwise_cons.1 s2).2, fun x hx y hy => s3 x hx y (by simp [hy])⟩
        · simpa using hsz
        · intro j
          have hset : Listed (listed.setIfInBounds i true) j ↔ (j = i ∨ Listed listed j) := by
            by_cases hji : j = i
            · subst hji
              simp [Listed, Array.getD_eq_getD_getElem?, show j < listed.size by omega]
            · simp only [Listed, Array.getD_eq_getD_getElem?, Array.getElem?_setIfInBounds_ne (show i ≠ j by omega), hji, false_or]
          rw [hset]
          have h0 := hrem j
          simp only [List.mem_append, List.mem_cons] at h0 ⊢
          constructor
          · rintro (hj | hj)
            · rintro (rfl | hl)
              · exact absurd (s3 j hj j (by simp)) (by omega)
              · exact h0.1 (.inl hj) hl
            · rintro (rfl | hl)
              · exact absurd ((List.pairwise_cons.1 s2).1 j hj) (by omega)
              · exact h0.1 (.inr (.inr hj)) hl
          · intro hn
            rcases h0.2 (fun hl => hn (.inr hl)) with h | h | h
            · exact .inl h
            · exact absurd (.inl h) hn
            · exact .inr h
        · intro j oj hoj hlj y hy
          have hset : ∀ j, Listed listed j → Listed (listed.setIfInBounds i true) j := by
            intro j hl
            by_cases hji : j = i
            · subst hji
              simp [Listed, Array.getD_eq_getD_getElem?, show j < listed.size by omega]
            · simpa only [Listed, Array.getD_eq_getD_getElem?, Array.getElem?_setIfInBounds_ne (show i ≠ j by omega)] using hl
          by_cases hji : j = i
          · subst hji
            rw [ho] at hoj; cases hoj
            exact hset y (hfl y (hal y hy))
          · refine hset y (hcl j oj hoj ?_ y hy)
            simpa only [Listed, Array.getD_eq_getD_getElem?, Array.getElem?_setIfInBounds_ne (show i ≠ j by omega)] using hlj
end
end Go.Vs
/- Code runs as the interpreter says. -/
namespace Go.Vs
open Go

def okOps (P : Program) (ids : Nat → Nat) (N : Nat) (fix kp : List Nat) (ops : Array Oper) : List Oper → List POp → Bool
  | [], [] => true
  | o :: os, q :: qs => okG P ids N fix kp ops o q && okOps P ids N fix kp ops os qs
  | _, _ => false

def okC (P : Program) (ids : Nat → Nat) (N : Nat) (kp : List Nat) : Code → PCode → Bool
  | .skip, .skip _ => true
  | .region _ ops draw, .region ρ fix _keep d pops => d == draw && okOps P ids N fix kp ops ops.toList pops && (!draw || ordOk ρ fix ops pops)
  | .seq a b, .seq a' b' => okC P ids N kp a a' && okC P ids N kp b b'
  | .cond c a b, .cond x a' b' => opdOk ids c x && okC P ids N kp a a' && okC P ids N kp b b'
  | .block id c, .block id' c' => id == id' && okC P ids N kp c c'
  | .loop c, .loop c' => okC P ids N kp c c'
  | .exit id, .exit id' _ => id == id'
  | .ret, .ret _ => true
  | _, _ => false

def exOf : Ex → Exit
  | .nrm => .normal
  | .exit id => .exit id
  | .ret => .ret

section
variable {P : Program} {ids : Nat → Nat} {S S' A : Nat → Prop} {N : Nat} {kp : List Nat} {ρ : Roots} {fix : List Nat} {w w' : World} {tm : Array Value} {ds : List Deferred} {E F : Env} {obs : Nat → List Nat} {H : List Nat}
variable {K : Act → World → Prop} {Q : Exit → Act → World → Prop} {σ : Oracle}

theorem okOps_sound {ops : Array Oper} : ∀ {os : List Oper} {qs : List POp}, okOps P ids N fix kp ops os qs = true →
    os.length = qs.length ∧ ∀ (i : Nat) (o : Oper) (q : POp), os[i]? = some o → qs[i]? = some q → okG P ids N fix kp ops o q = true
  | [], [], _ => ⟨rfl, by simp⟩
  | o :: os, q :: qs, h => by
    simp only [okOps, Bool.and_eq_true] at h
    obtain ⟨g1, g2⟩ := okOps_sound h.2
    refine ⟨by simp [g1], ?_⟩
    intro i o' q' h1 h2
    cases i with
    | zero => simp only [List.getElem?_cons_zero, Option.some.injEq] at h1 h2; subst h1 h2; exact h.1
    | succ i => simp only [List.getElem?_cons_succ] at h1 h2; exact g2 i o' q' h1 h2
  | [], _ :: _, h => by simp [okOps] at h
  | _ :: _, [], h => by simp [okOps] at h

theorem get_keep (ks : List Nat) (E : Env) (s : Nat) : get (keepE ks E) s = if s ∈ ks then get E s else .undef := by
  induction ks with
  | nil => simp [keepE, get]
  | cons k ks ih =>
    simp only [keepE, List.map_cons, get] at ih ⊢
    by_cases hk : k = s
    · subst hk; simp
    · have : ¬ s = k := fun e => hk e.symm
      simp only [hk, if_false, ih, List.mem_cons, this, false_or]

theorem get_enter (E : Env) (s : Nat) : get (enterE ρ fix E) s = entAV ρ fix s (get E s) := by
  induction E with
  | nil => simp [enterE, get, entAV]
  | cons e E ih =>
    simp only [enterE, List.map_cons, get] at ih ⊢
    by_cases hk : e.1 = s
    · simp [hk]
    · simp only [hk, if_false, ih]

theorem Inv.keep (ks : List Nat) (h : Inv ids S A N ρ fix w tm E obs H) :
    ∃ obs', Inv ids S A N ρ fix w tm (keepE ks E) obs' H := by
  have hsub : ∀ s b, b ∈ (if s ∈ ks then obs s else []) → b ∈ obs s := by
    intro s b hb
    split at hb
    · exact hb
    · simp at hb
  have href : ∀ {s a}, get (keepE ks E) s = a → a ≠ .undef → get E s = a := by
    intro s a hg hne
    rw [get_keep] at hg
    split at hg
    · exact hg
    · exact absurd hg.symm hne
  refine ⟨fun s => if s ∈ ks then obs s else [], ⟨h.size, ?_, ?_, ?_, ?_, ?_, ?_, h.hnd, ?_, h.st, h.fresh⟩⟩
  · intro s
    have h0 := h.slot s
    simp only [SlotOk, get_keep] at h0 ⊢
    by_cases hs : s ∈ ks
    · simp only [hs, if_true]
      cases hg : get E s with
      | tree t => rw [hg] at h0; exact h0
      | bor r p =>
        rw [hg] at h0
        refine ⟨h0.1, fun T n hT hn => ?_⟩
        split at hT
        · exact h0.2 T n hT hn
        · cases hT
      | adr r p i j =>
        rw [hg] at h0
        refine ⟨h0.1, fun T n e hT hn he => ?_⟩
        split at hT
        · exact h0.2 T n e hT hn he
        · cases hT
      | clo f caps => rw [hg] at h0; exact h0
      | undef => rw [hg] at h0; exact h0
      | gone => rw [hg] at h0; exact h0
    · simp [hs]
  · intro s r p hr
    rcases hr with hr | ⟨i, j, hr⟩
    · exact h.ref s r p (.inl (href hr (by simp)))
    · exact h.ref s r p (.inr ⟨i, j, href hr (by simp)⟩)
  · exact fun s f caps hc => h.clo s f caps (href hc (by simp))
  · intro s
    split
    · exact h.nodup s
    · exact List.nodup_nil
  · exact fun s s' hne b hb hb' => h.apart s s' hne b (hsub s b hb) (hsub s' b hb')
  · exact fun s b hb => h.own s b (hsub s b hb)
  · intro b hb
    obtain ⟨g1, g2, g3, g4⟩ := h.hap b hb
    exact ⟨g1, g2, g3, fun s hs => g4 s (hsub s b hs)⟩

theorem Inv.enter {ρ0 : Roots} {fix0 : List Nat} (h : Inv ids S A N ρ0 fix0 w tm E obs H) : Inv ids S A N ρ fix w tm (enterE ρ fix E) obs H := by
  refine { h with slot := ?_, ref := ?_, clo := ?_ }
  · intro s
    have h0 := h.slot s
    have htree : ∀ r T, entAV ρ fix r (get E r) = .tree T → get E r = .tree T := by
      intro r T hr
      cases hg : get E r <;> rw [hg] at hr <;> simp only [entAV] at hr
      · exact hr
      · split at hr <;> cases hr
      · split at hr <;> cases hr
      · split at hr <;> cases hr
      · cases hr
      · cases hr
    simp only [SlotOk, get_enter] at h0 ⊢
    cases hg : get E s with
    | tree t => rw [hg] at h0; exact h0
    | bor r p =>
      rw [hg] at h0
      simp only [entAV]
      by_cases hq : okRef ρ s r p = true
      · simp only [hq, if_true]
        exact ⟨h0.1, fun T n hT hn => h0.2 T n (htree r T hT) hn⟩
      · simp only [hq, Bool.false_eq_true, if_false]; exact h0.1
    | adr r p i j =>
      rw [hg] at h0
      simp only [entAV]
      by_cases hq : okRef ρ s r p = true
      · simp only [hq, if_true]
        exact ⟨h0.1, fun T n e hT hn he => h0.2 T n e (htree r T hT) hn he⟩
      · simp only [hq, Bool.false_eq_true, if_false]; exact h0.1
    | clo f caps =>
      rw [hg] at h0
      simp only [entAV]
      by_cases hq : caps.all (fun c => fix.contains c) = true
      · simp only [hq, if_true]; exact h0
      · simp only [hq, Bool.false_eq_true, if_false]; exact h0.1
    | undef => rw [hg] at h0; exact h0
    | gone => rw [hg] at h0; exact h0.1
  · intro s r p hr
    simp only [RefAt, get_enter] at hr
    cases hg : get E s with
    | bor r' p' =>
      simp only [hg, entAV] at hr
      split at hr
      · rcases hr with hr | ⟨i, j, hr⟩ <;> cases hr; assumption
      · rcases hr with hr | ⟨i, j, hr⟩ <;> cases hr
    | adr r' p' i' j' =>
      simp only [hg, entAV] at hr
      split at hr
      · rcases hr with hr | ⟨i, j, hr⟩ <;> cases hr; assumption
      · rcases hr with hr | ⟨i, j, hr⟩ <;> cases hr
    | tree t => simp only [hg, entAV] at hr; rcases hr with hr | ⟨i, j, hr⟩ <;> cases hr
    | clo f caps =>
      simp only [hg, entAV] at hr
      split at hr
      · rcases hr with hr | ⟨i, j, hr⟩ <;> cases hr
      · rcases hr with hr | ⟨i, j, hr⟩ <;> cases hr
    | undef => simp only [hg, entAV] at hr; rcases hr with hr | ⟨i, j, hr⟩ <;> cases hr
    | gone => simp only [hg, entAV] at hr; rcases hr with hr | ⟨i, j, hr⟩ <;> cases hr
  · intro s f caps hc c hcm
    rw [get_enter] at hc
    cases hg : get E s with
    | clo f' caps' =>
      simp only [hg, entAV] at hc
      split at hc
      · rename_i hall
        cases hc
        simpa using List.all_eq_true.1 hall c hcm
      · cases hc
    | bor r' p' => simp only [hg, entAV] at hc; split at hc <;> cases hc
    | adr r' p' i' j' => simp only [hg, entAV] at hc; split at hc <;> cases hc
    | tree t => simp only [hg, entAV] at hc; cases hc
    | undef => simp only [hg, entAV] at hc; cases hc
    | gone => simp only [hg, entAV] at hc; cases hc

theorem Went.enter {ρ0 : Roots} {fix0 : List Nat} {a : Act} (h : Went ids S A N kp ρ0 fix0 w tm ds E a w') : Went ids S A N kp ρ fix w tm ds (enterE ρ fix E) a w' := by
  obtain ⟨tm', S', obs', h0, h1, h2⟩ := h
  exact ⟨tm', S', obs', h0, h1.enter, h2⟩

theorem Went.keep {a : Act} (ks : List Nat) (h : Went ids S A N kp ρ fix w tm ds E a w') : Went ids S A N kp ρ fix w tm ds (keepE ks E) a w' := by
  obtain ⟨tm', S', obs', h0, h1, h2⟩ := h
  obtain ⟨obs2, h3⟩ := h1.keep ks
  exact ⟨tm', S', obs2, h0, h3, h2⟩

/-- behind some code, whatever is borrowed -/
def Gone (ids : Nat → Nat) (S A : Nat → Prop) (N : Nat) (kp : List Nat) (w : World) (tm : Array Value) (ds : List Deferred) (E' : Env) (a' : Act) (w' : World) : Prop :=
  ∃ ρ fix, Went ids S A N kp ρ fix w tm ds E' a' w'

theorem Went.drawn {a : Act} (h : Went ids S A N kp ρ fix w tm ds E a w') : Went ids S A N kp ρ fix w tm ds E a { w' with drawn := w'.drawn + 1 } := by
  obtain ⟨tm', S', obs', h0, h1, h2, h3⟩ := h
  exact ⟨tm', S', obs', h0, h1.world (Nat.le_refl _) (fun _ _ => rfl) (fun _ _ _ => rfl), ⟨h2.os, h2.tape, h2.output, h2.size, h2.block⟩, h3⟩

theorem region_sound {id : Nat} {ops : Array Oper} {draw : Bool} {keep : List Nat} {pops : List POp} {a : Act} {w1 : World} (hσ : Sound P ids σ) (hmix : P.follows .mixedOrders = true)
    (hok : okOps P ids N fix kp ops ops.toList pops = true) (hord : draw = true → ordOk ρ fix ops pops = true) (hw : Gone ids S A N kp w tm ds E a w1)
    (he : evOps σ ρ fix pops (enterE ρ fix E) = some F) (hq : ∀ a' w', Gone ids S A N kp w tm ds (keepE keep F) a' w' → Q .normal a' w') : (Code.region id ops draw).wp P Q a w1 := by
  obtain ⟨hl, hok'⟩ := okOps_sound hok
  have hlen : ops.size = pops.length := by simpa using hl
  have hok2 : ∀ (i : Nat) (o : Oper) (q : POp), ops[i]? = some o → pops[i]? = some q → okG P ids N fix kp ops o q = true := fun i o q h1 h2 => hok' i o q (by simpa using h1) h2
  have he' : evL σ ρ fix pops (List.range ops.size) (enterE ρ fix E) = some F := by
    rw [← he, hlen, List.range_eq_range']
    exact (evL_range pops 0 [] pops _ rfl rfl).symm
  obtain ⟨ρ0, fix0, hw⟩ := hw
  cases draw with
  | false =>
    exact wp_region (wpOps_sound hσ hok2 hlen _ _ a w1 hw.enter he' (fun a' w' h => hq a' w' ⟨_, _, h.keep keep⟩))
  | true =>
    refine wp_region_any hmix ?_
    have hst : Went ids S A N kp ρ fix w tm ds (enterE ρ fix E) a { w1 with drawn := w1.drawn + 1 } := hw.enter.drawn
    refine wpAny_sound' hσ hok2 hlen (hord rfl) ops.size (List.range ops.size) _ _ F a _ (by simp) List.pairwise_lt_range (by simp) ?_ ?_ hst he' ?_
    · intro i
      simp only [List.mem_range, Listed, Array.getD_eq_getD_getElem?]
      by_cases hi : i < ops.size
      · simp [hi]
      · rw [Array.getElem?_eq_none (by simpa using hi)]; simp [hi]
    · intro i o ho hl
      have hi := (Array.getElem?_eq_some_iff.1 ho).1
      simp [Listed, Array.getD_eq_getD_getElem?, hi] at hl
    · intro F' a' w' heq hw'
      have := hw'.keep keep
      rw [← keepE_eq heq] at this
      exact hq a' w' ⟨_, _, this⟩

/-- behind a loop's round -/
def InLoop (P : Program) (c : Code) (Q : Exit → Act → World → Prop) (a : Act) (w : World) : Prop :=
  ∀ (b : Frame) (k : List Item) (cs : List Frame), ∃ e a' w', Q e a' w' ∧ Arrives P (lone (b.at a (.code c :: .inLoop c :: k)) cs w) b k cs e a' w'

theorem inLoop_of {c : Code} {a : Act} {w : World} (h : c.wp P (Exit.then (InLoop P c Q) Q) a w) : InLoop P c Q a w := by
  intro b k cs
  obtain ⟨e, a₁, w₁, hq, harr⟩ := h b (.inLoop c :: k) cs
  cases e with
  | normal =>
    obtain ⟨e₂, a₂, w₂, hq₂, harr₂⟩ := hq b k cs
    exact ⟨e₂, a₂, w₂, hq₂, .of_steps (Steps.trans harr (.one step_inLoop)) harr₂⟩
  | exit id => exact ⟨_, a₁, w₁, hq, .pass (x := .inLoop c) rfl (fun _ _ => .inl (by simp)) harr⟩
  | goto l => exact ⟨_, a₁, w₁, hq, .pass (x := .inLoop c) rfl (fun _ _ => .inl (by simp)) harr⟩
  | ret => exact ⟨_, a₁, w₁, hq, .pass (x := .inLoop c) rfl (fun _ _ => .inl (by simp)) harr⟩
  | panic ch => exact ⟨_, a₁, w₁, hq, .pass (x := .inLoop c) rfl (fun _ _ => .inl (by simp)) harr⟩
  | outgrown => exact ⟨_, a₁, w₁, hq, .pass (x := .inLoop c) rfl (fun _ _ => .inl (by simp)) harr⟩

theorem loop_of {c : Code} {a : Act} {w : World} (h : InLoop P c Q a w) : (Code.loop c).wp P Q a w := by
  intro b k cs
  obtain ⟨e, a', w', hq, harr⟩ := h b k cs
  exact ⟨e, a', w', hq, .of_steps (.one step_loop) harr⟩

theorem code_sound (hσ : Sound P ids σ) (hmix : P.follows .mixedOrders = true) : ∀ (c : Code) (pc : PCode), okC P ids N kp c pc = true → ∀ (E E' : Env) (ex : Ex) (a : Act) (w1 : World) (Q : Exit → Act → World → Prop),
    Gone ids S A N kp w tm ds E a w1 → evC σ pc E = some (ex, E') → (∀ a' w', Gone ids S A N kp w tm ds E' a' w' → Q (exOf ex) a' w') → c.wp P Q a w1 := by
  intro c
  induction c with
  | skip =>
    intro pc hok E E' ex a w1 Q hw he hq
    cases pc <;> simp only [okC, Bool.false_eq_true] at hok
    simp only [evC, Option.some.injEq, Prod.mk.injEq] at he
    obtain ⟨rfl, rfl⟩ := he
    obtain ⟨_, _, hw⟩ := hw
    exact wp_skip (hq _ _ ⟨_, _, hw.keep _⟩)
  | region id ops draw =>
    intro pc hok E E' ex a w1 Q hw he hq
    cases pc <;> simp only [okC, Bool.false_eq_true] at hok
    rename_i ρ fix keep d pops
    simp only [Bool.and_eq_true, Bool.or_eq_true, Bool.not_eq_true', beq_iff_eq] at hok
    obtain ⟨⟨rfl, h1⟩, h2⟩ := hok
    simp only [evC, Option.bind_eq_some_iff, Option.some.injEq, Prod.mk.injEq] at he
    obtain ⟨F, hF, rfl, rfl⟩ := he
    exact region_sound hσ hmix h1 (fun hd => h2.resolve_left (by simp [hd])) hw hF hq
  | seq x y ihx ihy =>
    intro pc hok E E' ex a w1 Q hw he hq
    cases pc <;> simp only [okC, Bool.false_eq_true] at hok
    rename_i x' y'
    simp only [Bool.and_eq_true] at hok
    simp only [evC, Option.bind_eq_some_iff] at he
    obtain ⟨⟨ex1, E1⟩, h1, he⟩ := he
    refine wp_seq (ihx x' hok.1 E E1 ex1 a w1 _ hw h1 fun a' w' h => ?_)
    cases ex1 with
    | nrm => exact ihy y' hok.2 E1 E' ex a' w' Q h he hq
    | exit id => simp only [Option.some.injEq, Prod.mk.injEq] at he; obtain ⟨rfl, rfl⟩ := he; exact hq a' w' h
    | ret => simp only [Option.some.injEq, Prod.mk.injEq] at he; obtain ⟨rfl, rfl⟩ := he; exact hq a' w' h
  | cond o x y ihx ihy =>
    intro pc hok E E' ex a w1 Q hw he hq
    cases pc <;> simp only [okC, Bool.false_eq_true] at hok
    rename_i p x' y'
    simp only [Bool.and_eq_true] at hok
    simp only [evC, Option.bind_eq_some_iff] at he
    obtain ⟨t, ht, he⟩ := he
    have hw0 := hw
    obtain ⟨_, _, tm', S', obs', rfl, g1, _⟩ := hw
    split at he
    · rename_i b
      have hb := g1.peekBool (ds := ds) hok.1.1 ht
      cases b with
      | true => exact wp_cond_true hb (ihx x' hok.1.2 E E' ex _ w1 Q hw0 (by simpa using he) hq)
      | false => exact wp_cond_false hb (ihy y' hok.2 E E' ex _ w1 Q hw0 (by simpa using he) hq)
    · cases he
  | block id x ih =>
    intro pc hok E E' ex a w1 Q hw he hq
    cases pc <;> simp only [okC, Bool.false_eq_true] at hok
    rename_i id' x'
    simp only [Bool.and_eq_true, beq_iff_eq] at hok
    obtain ⟨rfl, hok⟩ := hok
    simp only [evC, Option.bind_eq_some_iff] at he
    obtain ⟨⟨ex1, E1⟩, h1, he⟩ := he
    refine wp_block (ih x' hok E E1 ex1 a w1 _ hw h1 fun a' w' h => ?_)
    cases ex1 with
    | nrm => simp only [Option.some.injEq, Prod.mk.injEq] at he; obtain ⟨rfl, rfl⟩ := he; exact hq a' w' h
    | ret => simp only [Option.some.injEq, Prod.mk.injEq] at he; obtain ⟨rfl, rfl⟩ := he; exact hq a' w' h
    | exit i =>
      simp only at he
      simp only [exOf, Exit.inBlock]
      split at he
      · rename_i hi
        simp only [Option.some.injEq, Prod.mk.injEq] at he; obtain ⟨rfl, rfl⟩ := he
        rw [if_pos hi]; exact hq a' w' h
      · rename_i hi
        simp only [Option.some.injEq, Prod.mk.injEq] at he; obtain ⟨rfl, rfl⟩ := he
        rw [if_neg hi]; exact hq a' w' h
  | loop x ih =>
    intro pc hok E E' ex a w1 Q hw he hq
    cases pc <;> simp only [okC, Bool.false_eq_true] at hok
    rename_i x'
    simp only [evC] at he
    refine loop_of ?_
    generalize loopLim = n at he
    induction n generalizing E a w1 with
    | zero => simp [loopN] at he
    | succ n ihn =>
      simp only [loopN, Option.bind_eq_some_iff] at he
      obtain ⟨⟨ex1, E1⟩, h1, he⟩ := he
      refine inLoop_of (ih x' hok E E1 ex1 a w1 _ hw h1 fun a' w' h => ?_)
      cases ex1 with
      | nrm => exact ihn E1 a' w' h he
      | exit id => simp only [Option.some.injEq, Prod.mk.injEq] at he; obtain ⟨rfl, rfl⟩ := he; exact hq a' w' h
      | ret => simp only [Option.some.injEq, Prod.mk.injEq] at he; obtain ⟨rfl, rfl⟩ := he; exact hq a' w' h
  | exit id =>
    intro pc hok E E' ex a w1 Q hw he hq
    cases pc <;> simp only [okC, Bool.false_eq_true] at hok
    simp only [beq_iff_eq] at hok; subst hok
    simp only [evC, Option.some.injEq, Prod.mk.injEq] at he
    obtain ⟨rfl, rfl⟩ := he
    obtain ⟨_, _, hw⟩ := hw
    exact wp_exit (hq _ _ ⟨_, _, hw.keep _⟩)
  | ret =>
    intro pc hok E E' ex a w1 Q hw he hq
    cases pc <;> simp only [okC, Bool.false_eq_true] at hok
    simp only [evC, Option.some.injEq, Prod.mk.injEq] at he
    obtain ⟨rfl, rfl⟩ := he
    obtain ⟨_, _, hw⟩ := hw
    exact wp_ret (hq _ _ ⟨_, _, hw.keep _⟩)
  | rangeFunc f ps x y _ _ => intro pc hok; cases pc <;> simp [okC] at hok
  | scope x _ => intro pc hok; cases pc <;> simp [okC] at hok
  | label l => intro pc hok; cases pc <;> simp [okC] at hok
  | goto l => intro pc hok; cases pc <;> simp [okC] at hok
  | refuse s => intro pc hok; cases pc <;> simp [okC] at hok
end
end Go.Vs
/- A function runs as the interpreter says. -/
namespace Go.Vs
open Go

def okRes (P : Program) : List ResultVar → List PRes → Bool
  | [], [] => true
  | .tmp t :: rs, .tmp t' :: ps => t == t' && okRes P rs ps
  | .cell a t :: rs, .cell a' agg sz :: ps => a == a' && aggOk P t agg sz && okRes P rs ps
  | _, _ => false

def resSlots : List PRes → List Nat
  | [] => []
  | .tmp t :: rs => t :: resSlots rs
  | .cell t _ _ :: rs => t :: resSlots rs

def ioSlots : List Bool → Nat → List Nat
  | [], _ => []
  | b :: bs, i => if b then i :: ioSlots bs (i + 1) else ioSlots bs (i + 1)

def okF (P : Program) (ids : Nat → Nat) (fn : Func) (pf : PFunc) : Bool :=
  match fn.body with
  | some c => !(fn.name == "runtime.NumGoroutine") && decide (pf.io.length ≤ fn.ntmps) && okRes P fn.results.toList pf.res && nodupB (resSlots pf.res ++ ioSlots pf.io 0) && okC P ids fn.ntmps (ioSlots pf.io 0) c pf.body
  | none => false

section
variable {P : Program} {ids : Nat → Nat} {S S' A : Nat → Prop} {N : Nat} {kp : List Nat} {ρ : Roots} {fix : List Nat} {w w' : World} {tm tm' : Array Value} {ds : List Deferred} {E F : Env} {obs : Nat → List Nat} {H : List Nat}
variable {σ : Oracle}

theorem repL_split : ∀ (ts : List Tree) (vs : List Value) (ob : List Nat), RepL ids S w ts vs ob →
    ∃ L : List (List Nat), ob = L.flatten ∧ L.length = ts.length ∧ vs.length = ts.length ∧ ∀ (i : Nat) (t : Tree), ts[i]? = some t → ∃ v o, vs[i]? = some v ∧ L[i]? = some o ∧ Rep ids S w t v o
  | [], vs, ob, h => by
    simp only [RepL] at h
    obtain ⟨rfl, rfl⟩ := h
    exact ⟨[], rfl, rfl, rfl, by simp⟩
  | t :: ts, vs, ob, h => by
    simp only [RepL] at h
    obtain ⟨v, vs', o1, o2, rfl, h1, h2, rfl⟩ := h
    obtain ⟨L, rfl, g2, g3, g4⟩ := repL_split ts vs' o2 h2
    refine ⟨o1 :: L, by simp, by simp [g2], by simp [g3], ?_⟩
    intro i t' hi
    cases i with
    | zero => simp only [List.getElem?_cons_zero, Option.some.injEq] at hi ⊢; subst hi; exact ⟨v, o1, rfl, rfl, h1⟩
    | succ i => simp only [List.getElem?_cons_succ] at hi ⊢; exact g4 i t' hi

theorem get_argEnv : ∀ (ts : List Tree) (k s : Nat), get (argEnv ts k) s = if k ≤ s then (match ts[s - k]? with | some t => .tree t | none => .undef) else .undef
  | [], k, s => by simp [argEnv, get]
  | t :: ts, k, s => by
    simp only [argEnv, get]
    by_cases hk : k = s
    · subst hk; simp
    · simp only [hk, if_false, get_argEnv ts (k + 1) s]
      by_cases hle : k ≤ s
      · have h1 : k + 1 ≤ s := by omega
        have h2 : s - k = (s - (k + 1)) + 1 := by omega
        simp only [hle, h1, if_true, h2, List.getElem?_cons_succ]
      · have h1 : ¬ k + 1 ≤ s := by omega
        simp only [hle, h1, if_false]

theorem getD_lists (L : List (List Nat)) (hp : L.Pairwise (fun l1 l2 => ∀ x, x ∈ l1 → ∀ y, y ∈ l2 → x ≠ y)) : ∀ s s', s ≠ s' → ∀ b, b ∈ L.getD s [] → b ∉ L.getD s' [] := by
  have key : ∀ s s', s < s' → ∀ b, b ∈ L.getD s [] → b ∉ L.getD s' [] := by
    intro s s' hlt b h1 h2
    by_cases hs' : s' < L.length
    · have := List.pairwise_iff_getElem.1 hp s s' (by omega) hs' hlt b
      simp only [List.getD_eq_getElem?_getD, List.getElem?_eq_getElem hs', List.getElem?_eq_getElem (show s < L.length by omega), Option.getD_some] at h1 h2
      exact this h1 b h2 rfl
    · simp only [List.getD_eq_getElem?_getD, List.getElem?_eq_none (show L.length ≤ s' by omega), Option.getD_none] at h2
      simp at h2
  intro s s' hne b h1 h2
  rcases Nat.lt_or_gt_of_ne hne with h | h
  · exact key s s' h b h1 h2
  · exact key s' s h b h2 h1

theorem inv_args {ts : List Tree} {vs : Array Value} {ob : List Nat} {n : Nat} (h : RepL ids S w ts vs.toList ob) (hnd : ob.Nodup) (hS : ∀ b, b ∈ ob → ¬ S b) (hst : ∀ b, S b → b < w.heap.size) (hn : vs.size ≤ n) :
    ∃ obs, Inv ids S (fun b => b ∈ ob ∨ w.heap.size ≤ b) n [] [] w (vs ++ Array.replicate (n - vs.size) undef) (argEnv ts 0) obs [] := by
  have hlt := repL_lt ts vs.toList ob h
  obtain ⟨L, rfl, g2, g3, g4⟩ := repL_split ts vs.toList ob h
  have hp := List.pairwise_flatten.1 hnd
  have hmem : ∀ s b, b ∈ L.getD s [] → b ∈ L.flatten := by
    intro s b hb
    simp only [List.getD_eq_getElem?_getD] at hb
    cases hq : L[s]? with
    | none => simp [hq] at hb
    | some o => exact List.mem_flatten.2 ⟨o, List.mem_of_getElem? hq, by simpa [hq] using hb⟩
  refine ⟨fun s => L.getD s [], ⟨by simp; omega, ?_, ?_, ?_, ?_, getD_lists L hp.2, ?_, List.nodup_nil, by simp, hst, fun b hb => .inr hb⟩⟩
  · intro s
    simp only [SlotOk, get_argEnv, Nat.zero_le, if_true, Nat.sub_zero]
    cases ht : ts[s]? with
    | none =>
      have : L[s]? = none := by
        rw [List.getElem?_eq_none_iff] at ht ⊢; omega
      simp [List.getD_eq_getElem?_getD, this]
    | some t =>
      obtain ⟨v, o, h1, h2, h3⟩ := g4 s t ht
      have hsz : s < vs.size := by
        have := (List.getElem?_eq_some_iff.1 h1).1; simpa using this
      have hv : (vs ++ Array.replicate (n - vs.size) undef).getD s undef = v := by
        simp only [Array.getD_eq_getD_getElem?, Array.getElem?_append_left hsz]
        rw [← Array.getElem?_toList, h1]; rfl
      simp only [hv, List.getD_eq_getElem?_getD, h2, Option.getD_some]
      exact h3
  · intro s r p hr
    rcases hr with hr | ⟨i, j, hr⟩ <;> simp only [get_argEnv, Nat.zero_le, if_true] at hr <;> split at hr <;> cases hr
  · intro s f caps hg
    simp only [get_argEnv, Nat.zero_le, if_true] at hg
    split at hg <;> cases hg
  · intro s
    simp only [List.getD_eq_getElem?_getD]
    cases hq : L[s]? with
    | none => simp
    | some o => exact hp.1 o (List.mem_of_getElem? hq)
  · exact fun s b hb => ⟨hS b (hmem s b hb), .inl (hmem s b hb), hlt b (hmem s b hb)⟩

theorem res_sound (h : Inv ids S A N ρ fix w tm E obs []) : ∀ (rs : List ResultVar) (ps : List PRes) (ts : List Tree), okRes P rs ps = true → resAll E ps = some ts →
    ∃ vs ob, (rs.mapM (m := Sem) fun
        | .tmp t => pure (tm.getD t undef)
        | .cell a t => do loadVar t (← asAddr (tm.getD a undef))).run P w = .ok vs w ∧ RepL ids S w ts vs ob ∧ ob.Sublist ((resSlots ps).flatMap obs)
  | [], [], ts, _, hr => by
    simp only [resAll, Option.some.injEq] at hr; subst hr
    exact ⟨[], [], by simp, by simp [RepL], by simp [resSlots]⟩
  | .tmp t :: rs, .tmp t' :: ps, ts, ho, hr => by
    simp only [okRes, Bool.and_eq_true, beq_iff_eq] at ho
    obtain ⟨rfl, ho⟩ := ho
    simp only [resAll, Option.bind_eq_some_iff, Option.some.injEq] at hr
    obtain ⟨t1, h1, ts1, h2, rfl⟩ := hr
    obtain ⟨vs, ob, g1, g2, g3⟩ := res_sound h rs ps ts1 ho h2
    simp only [resOne] at h1
    split at h1
    · rename_i x hx
      simp only [Option.some.injEq] at h1; subst h1
      have h0 := h.slot t
      simp only [SlotOk, hx] at h0
      refine ⟨tm.getD t undef :: vs, obs t ++ ob, ?_, ?_, ?_⟩
      · simp only [List.mapM_cons, Sem.run_bind, Sem.run_pure, Result.andThen_ok, g1]
      · simp only [RepL]; exact ⟨_, _, _, _, rfl, h0, g2, rfl⟩
      · simp only [resSlots, List.flatMap_cons]; exact List.Sublist.append (List.Sublist.refl _) g3
    · cases h1
  | .cell a ty :: rs, .cell a' agg sz :: ps, ts, ho, hr => by
    simp only [okRes, Bool.and_eq_true, beq_iff_eq] at ho
    obtain ⟨⟨rfl, hagg⟩, ho⟩ := ho
    simp only [resAll, Option.bind_eq_some_iff, Option.some.injEq] at hr
    obtain ⟨t1, h1, ts1, h2, rfl⟩ := hr
    obtain ⟨vs, ob, g1, g2, g3⟩ := res_sound h rs ps ts1 ho h2
    simp only [resOne] at h1
    split at h1
    · rename_i cs hx
      simp only [Option.bind_eq_some_iff] at h1
      obtain ⟨cs', hcs', h1⟩ := h1
      simp only [loadCells] at hcs'
      split at hcs'
      · rename_i hle
        simp only [Option.some.injEq] at hcs'
        have h0 := h.slot a
        simp only [SlotOk, hx, Rep] at h0
        obtain ⟨b, ob', hv, hob, _, hcsr⟩ := h0
        rw [repCs_range (j := 0) (n := sz) (by omega)] at hcsr
        obtain ⟨q1, q2, q3, c1, c2, c3, rfl⟩ := hcsr
        rw [hcs'] at c2
        obtain ⟨us, k1, k2, k3, k4⟩ := repCs_load _ _ _ _ c2
        have hlen : us.length = sz := by rw [k1, ← hcs']; simp; omega
        have hld := run_loadVar (w := w) (b := b) (off := 0) (vs := us) hagg hlen (fun j u hj => by simpa using k4 j u hj)
        have hrep := rep_loaded k2 k3 h1
        refine ⟨(if agg then .agg us.toArray else us.headD undef) :: vs, q2 ++ ob, ?_, ?_, ?_⟩
        · have ha : asAddr (tm.getD a undef) = pure ⟨b, 0, none⟩ := by rw [hv]; rfl
          simp only [List.mapM_cons, Sem.run_bind, ha, Sem.run_pure, Result.andThen_ok, hld, g1]
        · simp only [RepL]; exact ⟨_, _, _, _, rfl, hrep, g2, rfl⟩
        · simp only [resSlots, List.flatMap_cons]
          refine List.Sublist.append ?_ g3
          rw [hob]
          refine List.Sublist.cons _ ?_
          exact ((List.sublist_append_right q1 q2).trans (List.sublist_append_left _ q3))
      · cases hcs'
    · cases h1
  | [], _ :: _, _, ho, _ => by simp [okRes] at ho
  | _ :: _, [], _, ho, _ => by simp [okRes] at ho
  | .tmp _ :: _, .cell _ _ _ :: _, _, ho, _ => by simp [okRes] at ho
  | .cell _ _ :: _, .tmp _ :: _, _, ho, _ => by simp [okRes] at ho

theorem outs_sound (h : Inv ids S A N ρ fix w tm E obs []) : ∀ (args : List Tree) (vs : List Value) (io : List Bool) (i : Nat) (outs : List Tree), ioOk args io = true → vs.length = args.length →
    (∀ j v, vs[j]? = some v → io[j]? = some true → tm.getD (i + j) undef = v) → outAll E io i = some outs → RepIO ids S w args vs outs ((ioSlots io i).flatMap obs)
  | [], vs, [], i, outs, _, _, _, ho => by
    simp only [outAll, Option.some.injEq] at ho; subst ho
    simp [RepIO, ioSlots]
  | [], _, _ :: _, _, _, hi, _, _, _ => by simp [ioOk] at hi
  | _ :: _, _, [], _, _, hi, _, _, _ => by simp [ioOk] at hi
  | a :: as, [], b :: bs, i, outs, _, hl, _, _ => by simp at hl
  | a :: as, v :: vs, b :: bs, i, outs, hi, hl, hv, ho => by
    simp only [ioOk, Bool.and_eq_true, beq_iff_eq] at hi
    have hv' : ∀ j u, vs[j]? = some u → bs[j]? = some true → tm.getD (i + 1 + j) undef = u := by
      intro j u h1 h2
      have := hv (j + 1) u (by simpa using h1) (by simpa using h2)
      rw [← this]; congr 1; omega
    have hl' : vs.length = as.length := by simpa using hl
    cases b with
    | false =>
      simp only [outAll] at ho
      simp only [RepIO, hi.1, Bool.not_false, if_true, ioSlots, Bool.false_eq_true, if_false]
      exact outs_sound h as vs bs (i + 1) outs hi.2 hl' hv' ho
    | true =>
      simp only [outAll] at ho
      split at ho
      · rename_i t ht
        simp only [Option.bind_eq_some_iff, Option.some.injEq] at ho
        obtain ⟨ts, h1, rfl⟩ := ho
        have h0 := h.slot i
        simp only [SlotOk, ht] at h0
        have hvi : tm.getD i undef = v := by simpa using hv 0 v (by simp) (by simp)
        rw [hvi] at h0
        simp only [RepIO, hi.1, Bool.not_true, Bool.false_eq_true, if_false, ioSlots, if_true, List.flatMap_cons]
        exact ⟨t, ts, obs i, _, rfl, h0, outs_sound h as vs bs (i + 1) ts hi.2 hl' hv' h1, rfl⟩
      · rename_i ht
        simp only [Option.bind_eq_some_iff, Option.some.injEq] at ho
        obtain ⟨ts, h1, rfl⟩ := ho
        have h0 := h.slot i
        simp only [SlotOk, ht] at h0
        simp only [RepIO, hi.1, Bool.not_true, Bool.false_eq_true, if_false, ioSlots, if_true, List.flatMap_cons, h0]
        exact ⟨.dead, ts, [], _, rfl, by simp [Rep], outs_sound h as vs bs (i + 1) ts hi.2 hl' hv' h1, rfl⟩
      · cases ho

theorem slots_nodup (h : Inv ids S A N ρ fix w tm E obs H) : ∀ {L : List Nat}, L.Nodup → (L.flatMap obs).Nodup
  | [], _ => List.nodup_nil
  | s :: L, hn => by
    rw [List.nodup_cons] at hn
    rw [List.flatMap_cons]
    refine List.nodup_append.2 ⟨h.nodup s, slots_nodup h hn.2, ?_⟩
    rintro a ha b hb rfl
    obtain ⟨s', hs', hb⟩ := List.mem_flatMap.1 hb
    exact h.apart s s' (fun e => hn.1 (e ▸ hs')) a ha hb

theorem ioSlots_mem : ∀ {io : List Bool} {i s : Nat}, s ∈ ioSlots io i → i ≤ s ∧ s < i + io.length
  | [], i, s, h => by simp [ioSlots] at h
  | b :: bs, i, s, h => by
    have key : s ∈ ioSlots bs (i + 1) → i ≤ s ∧ s < i + (b :: bs).length := by
      intro h
      obtain ⟨h1, h2⟩ := ioSlots_mem h
      simp only [List.length_cons]; omega
    simp only [ioSlots] at h
    split at h
    · rcases List.mem_cons.1 h with rfl | h
      · simp
      · exact key h
    · exact key h

theorem ioSlots_get : ∀ {io : List Bool} {i j : Nat}, io[j]? = some true → i + j ∈ ioSlots io i
  | [], i, j, h => by simp at h
  | b :: bs, i, 0, h => by
    simp only [List.getElem?_cons_zero, Option.some.injEq] at h; subst h
    simp [ioSlots]
  | b :: bs, i, j + 1, h => by
    simp only [List.getElem?_cons_succ] at h
    have := ioSlots_get (i := i + 1) h
    have e : i + (j + 1) = i + 1 + j := by omega
    rw [e]
    simp only [ioSlots]
    split
    · exact List.mem_cons_of_mem _ this
    · exact this

theorem ioOk_length : ∀ {ts : List Tree} {io : List Bool}, ioOk ts io = true → ts.length = io.length
  | [], [], _ => rfl
  | [], _ :: _, h => by simp [ioOk] at h
  | _ :: _, [], h => by simp [ioOk] at h
  | t :: ts, b :: bs, h => by
    simp only [ioOk, Bool.and_eq_true] at h
    simp [ioOk_length h.2]

theorem func_sound {g : FuncId} {fn : Func} {pf : PFunc} {args : List Tree} {r : Tree} {outs : List Tree} (hσ : Sound P ids σ) (hmix : P.follows .mixedOrders = true) (hf : P.funcs[g]? = some fn) (hok : okF P ids fn pf = true)
    (hr : runF σ pf args = some (r, outs)) : callable P g = true ∧ Contract P ids g args r outs := by
  unfold okF at hok
  split at hok
  · rename_i c hb
    simp only [Bool.and_eq_true, decide_eq_true_eq, Bool.not_eq_true'] at hok
    obtain ⟨⟨⟨⟨k0, k1⟩, k2⟩, k3⟩, k4⟩ := hok
    refine ⟨by simp [callable, hf, hb, k0], ?_⟩
    intro S w vs ob hL hnd hdis hst
    simp only [runF] at hr
    split at hr
    · rename_i hio
      simp only [Option.bind_eq_some_iff] at hr
      obtain ⟨⟨ex, E'⟩, he, hr⟩ := hr
      have hlen := ioOk_length hio
      have hvl : vs.toList.length = args.length := repL_length _ _ _ hL
      have hvs : vs.size = pf.io.length := by rw [← hlen, ← hvl]; simp
      obtain ⟨obs, hI⟩ := inv_args (n := fn.ntmps) hL hnd hdis hst (by omega)
      refine calls_of_wp hf hb ?_
      have hw0 := Went.refl (kp := ioSlots pf.io 0) (ds := []) hI
      have fin : ∀ a' w', Gone ids S (fun b => b ∈ ob ∨ w.heap.size ≤ b) fn.ntmps (ioSlots pf.io 0) w (vs ++ Array.replicate (fn.ntmps - vs.size) undef) [] E' a' w' →
          (resAll E' pf.res).bind (fun ts => (outAll E' pf.io 0).bind fun os => some (resTree ts, os)) = some (r, outs) →
          a'.defers = [] ∧ ∃ v, (results fn a'.tmps).run P w' = .ok v w' ∧ Post ids S w args vs.toList ob r outs (.returned v) w' := by
        rintro a' w' ⟨_, _, tm', S', obs', rfl, g1, g2, g3, g4, g5⟩ hres
        simp only [Option.bind_eq_some_iff, Option.some.injEq, Prod.mk.injEq] at hres
        obtain ⟨ts, hts, os, hos, rfl, rfl⟩ := hres
        obtain ⟨vals, obr, r1, r2, r3⟩ := res_sound g1 fn.results.toList pf.res ts k2 hts
        have o1 := outs_sound g1 args vs.toList pf.io 0 os hio hvl (by
          intro j v h1 h2
          have hm := ioSlots_get (i := 0) h2
          rw [g5 _ hm]
          have hj : j < vs.size := by have := (List.getElem?_eq_some_iff.1 h1).1; simpa using this
          simp only [Nat.zero_add, Array.getD_eq_getD_getElem?, Array.getElem?_append_left hj]
          rw [← Array.getElem?_toList, h1]; rfl) hos
        refine ⟨rfl, if h : vals.toArray.size = 1 then vals.toArray[0] else .tuple vals.toArray, ?_, ?_⟩
        · unfold results
          rw [Array.mapM_eq_mapM_toList]
          simp only [Sem.run_bind, map_eq_pure_bind]
          erw [r1]
          rfl
        · have hsub : (obr ++ (ioSlots pf.io 0).flatMap obs').Sublist ((resSlots pf.res ++ ioSlots pf.io 0).flatMap obs') := by
            rw [List.flatMap_append]; exact List.Sublist.append r3 (List.Sublist.refl _)
          have hall : ∀ b, b ∈ obr ++ (ioSlots pf.io 0).flatMap obs' → ∃ s, b ∈ obs' s := by
            intro b hb
            obtain ⟨s, _, hs⟩ := List.mem_flatMap.1 (hsub.subset hb)
            exact ⟨s, hs⟩
          refine ⟨_, S', obr, _, rfl, ?_, o1, hsub.nodup (slots_nodup g1 (nodupB_sound k3)), ?_, g3, ?_, g1.st, g2⟩
          · -- the result's tree
            cases ts with
            | nil =>
              simp only [RepL] at r2
              obtain ⟨rfl, rfl⟩ := r2
              simp [resTree, Rep, RepL]
            | cons t ts =>
              cases ts with
              | nil =>
                simp only [RepL] at r2
                obtain ⟨v, vs', q1, q2, rfl, h1, ⟨rfl, rfl⟩, rfl⟩ := r2
                simpa [resTree] using h1
              | cons t2 ts =>
                have hl := repL_length _ _ _ r2
                have : ¬ vals.toArray.size = 1 := by simp [hl]
                simp only [this, dite_false, resTree, Rep]
                exact ⟨_, rfl, by simpa using r2⟩
          · intro b hb
            obtain ⟨s, hs⟩ := hall b hb
            obtain ⟨q1, q2, _⟩ := g1.own s b hs
            exact ⟨q1, q2⟩
          · intro b hb
            rcases g4 b hb with h | h
            · exact .inl h
            · exact .inr h
      refine code_sound hσ hmix c pf.body k4 _ E' ex _ w _ ⟨_, _, hw0⟩ he fun a' w' hw' => ?_
      cases ex with
      | exit id => cases hr
      | nrm => exact fin a' w' hw' hr
      | ret => exact fin a' w' hw' hr
    · cases hr
  · cases hok
end
end Go.Vs
/- A program's functions answer as the interpreter says. -/
namespace Go.Vs
open Go

def okAt (P : Program) (ids : Nat → Nat) (g : FuncId) (pf : PFunc) : Bool :=
  match P.funcs[g]? with
  | some fn => okF P ids fn pf
  | none => false

def idsOf : List (Nat × Nat) → Nat → Nat
  | [], _ => 0
  | (k, u) :: L, g => if k = g then u else idsOf L g

def tabOf : List (Nat × PFunc) → Nat → Option PFunc
  | [], _ => none
  | (k, pf) :: L, u => if k = u then some pf else tabOf L u

def noExt : Oracle := fun _ _ => none

theorem sound_noExt {P : Program} {ids : Nat → Nat} : Sound P ids noExt := by intro g args r outs h; cases h

theorem sound_ev {P : Program} {ids : Nat → Nat} {T : Nat → Option PFunc} {ext : Oracle} (hmix : P.follows .mixedOrders = true) (hext : Sound P ids ext)
    (hc : ∀ g pf, T (ids g) = some pf → okAt P ids g pf = true) : ∀ d, Sound P ids (ev T ext d)
  | 0 => by intro g args r outs h; exact hext g args r outs h
  | d + 1 => by
    intro g args r outs h
    simp only [ev] at h
    cases hT : T (ids g) with
    | none => rw [hT] at h; exact hext g args r outs h
    | some pf =>
      rw [hT] at h
      have hk := hc g pf hT
      unfold okAt at hk
      split at hk
      · rename_i fn hf
        exact func_sound (sound_ev hmix hext hc d) hmix hf hk h
      · cases hk

/-- the functions of a list are as the table says, and no others have a place in it -/
theorem conf_of {P : Program} {L : List (Nat × Nat)} {T : Nat → Option PFunc} (h0 : T 0 = none)
    (h : ∀ e, e ∈ L → ∀ pf, T (idsOf L e.1) = some pf → okAt P (idsOf L) e.1 pf = true) : ∀ g pf, T (idsOf L g) = some pf → okAt P (idsOf L) g pf = true := by
  intro g pf hT
  have key : ∀ (M : List (Nat × Nat)), idsOf M g = 0 ∨ ∃ e, e ∈ M ∧ e.1 = g := by
    intro M
    induction M with
    | nil => exact .inl rfl
    | cons e M ih =>
      obtain ⟨k, u⟩ := e
      simp only [idsOf]
      by_cases hk : k = g
      · exact .inr ⟨(k, u), by simp, hk⟩
      · simp only [hk, if_false]
        rcases ih with h | ⟨e, he, hg⟩
        · exact .inl h
        · exact .inr ⟨e, by simp [he], hg⟩
  rcases key L with h1 | ⟨e, he, rfl⟩
  · rw [h1, h0] at hT; cases hT
  · exact h e he pf hT

/-- a law that the interpreter sees return true -/
theorem law_of_ev {P : Program} {ids : Nat → Nat} {σ : Oracle} {g : FuncId} {vs : Array Value} {w : World} {args : List Tree} (hs : Sound P ids σ) (h : σ (ids g) args = some (.bool true, []))
    (hr : RepL ids (fun b => b < w.heap.size) w args vs.toList []) : Calls P g vs w fun e w' => e = .returned (.bool true) ∧ RowKit.Below w.heap.size w w' := by
  refine Calls.mono ((hs g args _ _ h).2 _ w vs [] hr List.nodup_nil (by simp) (fun b hb => hb)) ?_
  rintro e w' ⟨v, S', obr, obo, rfl, p1, p2, p3, p4, p5, p6, p7, p8⟩
  simp only [Rep] at p1
  exact ⟨by rw [p1.1], p8.os, p8.tape, p8.output, p8.size, fun b hb => p8.block b hb (by simp; omega)⟩
end Go.Vs
