/- The Go law laws.FnExactMostBurning returns true for every input and leaves its arguments as they were. Conditions: none beyond the row's own. -/
import Derived.Test.YtklbdahpecflmaaRows
import Derived.Test.YtklbdahpecflmaaSXMostBurning1
import Derived.Test.YtklbdahpecflmaaV6
import Derived.Test.YtklbdahpecflmaaHLampC
set_option maxRecDepth 100000
namespace Go.Proofs.Ytklbdahpecflmaa
open Go.ChangeShapes Go.WideShapes Go.ChangeAt Go.RowKit Go.Vs

theorem ownXMostBurning : ownKnob Try.prog.godebug = none := by kernel_rfl
theorem laidXMostBurning : laidOutB Try.prog = true := by kernel_rfl
def idlXMostBurning : List (Nat × Nat) := [(3, 891), (5, 893), (6, 420), (7, 145), (10, 895), (11, 894), (12, 284), (13, 249), (14, 762), (15, 763), (16, 605), (17, 606), (18, 217), (19, 326), (20, 18)]
theorem allXMostBurning : allOk Try.prog idlXMostBurning Vs.G.T = true := by kernel_rfl
theorem rd23 {n : Nat} : Reads Try.prog (n + 2) 23 (fun x : Vs.G.GLamp => [(.int .i64 x.Heats), (.int .i64 x.Cools), (.int .i64 x.Limit)]) Vs.G.GLamp.ok := by
  intro cs h
  obtain ⟨css, rfl, hz⟩ := shaped_struct Try.underlying23 h
  replace h : Shaped.ShapedL _ [2, 2, 2] css := hz
  simp only [shapedL_cons, shapedL_nil] at h
  obtain ⟨c0, _, rfl, h0, c1, _, rfl, h1, c2, _, rfl, h2, rfl⟩ := h
  obtain ⟨x0, rfl, k0⟩ := (rd_int Try.underlying2) c0 h0
  obtain ⟨x1, rfl, k1⟩ := (rd_int Try.underlying2) c1 h1
  obtain ⟨x2, rfl, k2⟩ := (rd_int Try.underlying2) c2 h2
  exact ⟨⟨x0, x1, x2⟩, rfl, k0, k1, k2⟩
theorem lawXMostBurning : ∀ trees, ShapedAll Try.prog 3 Try.f3.params.toList trees → ev Vs.G.T noExt 5 (idsOf idlXMostBurning 3) trees = some (.bool true, []) := by
  intro trees h
  rw [Try.params3] at h
  obtain ⟨x0, _, rfl, k0, h⟩ := sh_cons (enc := (fun x : Vs.G.GLamp => .agg [(.int .i64 x.Heats), (.int .i64 x.Cools), (.int .i64 x.Limit)])) h (rd23) (fun _ => mkT_agg Try.underlying23)
  obtain ⟨x1, _, rfl, k1, h⟩ := sh_cons (enc := (Tree.int .i64)) h (rd_int Try.underlying2) (fun _ => mkT_one (by simp [Try.underlying2]))
  obtain rfl := sh_nil h
  exact Vs.G.S891 0 _ (Vs.G.laws_FnExactMostBurning_true k0 k1)
theorem liftedXMostBurning (os : Os) (started : os.Started) (H : Type) (enc : TypeId × Value → H) :
    ReturnsInHanded {} Try.checked os 3 .any (Rows.fnExactMostBurningSpec.pre6 enc Try.prog Try.f3 Rows.fnExactMostBurningRow.domain false) (Rows.fnExactMostBurningSpec.post enc Try.prog Try.f3 false true false false) := by
  refine law_lifted (C := Try.checked) (L := idlXMostBurning) (T := Vs.G.T) (d := 5) (n := 3) (tb := 4) ownXMostBurning laidXMostBurning started (by kernel_rfl) Try.func3
    (ChangeSpec.witness6 (enc := enc) (C := Try.checked) false ⟨#[], #[.agg #[.int .i64 0, .int .i64 0, .int .i64 0], .int .i64 0], []⟩ 8 (by kernel_rfl) (by kernel_rfl) (by kernel_rfl) (by kernel_rfl))
    (by kernel_rfl) rfl allXMostBurning (by kernel_rfl) (by kernel_rfl) rfl Try.underlying4 rfl ?_ lawXMostBurning
  intro ds hd
  match ds, hd with
  | [a0, a1], _ => exact ⟨rfl, rfl, rfl⟩
theorem fnExactMostBurning_holds : Rows.FnExactMostBurningSaid :=
  OpenClaim.holds_of_wide 3 Try.f3 rfl rfl rfl rfl rfl rfl rfl ⟨rfl, rfl, rfl, rfl, rfl⟩ rfl rfl rfl rfl rfl (by kernel_rfl) Try.func3 (by kernel_rfl)
    (of_decide_eq_true (by kernel_rfl)) (by unfold Func.isWrapper; first | (rw [if_pos (by decide +kernel)]; kernel_rfl) | (rw [if_neg (by decide +kernel)]; exact ⟨rfl, rfl⟩))
    (fun os started H enc _ => liftedXMostBurning os started H enc)
#print axioms fnExactMostBurning_holds
end Go.Proofs.Ytklbdahpecflmaa
