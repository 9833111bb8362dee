/- The Go law laws.FnExactBestBurning returns true for every input and leaves its arguments as they were. Conditions: none beyond the row's own. -/
import Derived.Test.YtklbdahpecflmaaRows
import Derived.Test.YtklbdahpecflmaaSXBestBurning1
import Derived.Test.YtklbdahpecflmaaV6
import Derived.Test.YtklbdahpecflmaaHLampC
set_option maxRecDepth 100000
namespace Go.Proofs.Ytklbdahpecflmaa
open Go.ChangeShapes Go.WideShapes Go.ChangeAt Go.RowKit Go.Vs

theorem ownXBestBurning : ownKnob Try.prog.godebug = none := by kernel_rfl
theorem laidXBestBurning : laidOutB Try.prog = true := by kernel_rfl
def idlXBestBurning : List (Nat × Nat) := [(4, 890), (6, 420), (8, 892), (9, 49), (10, 895), (11, 894), (12, 284), (13, 249), (14, 762), (15, 763), (16, 605), (17, 606), (18, 217), (19, 326), (20, 18)]
theorem allXBestBurning : allOk Try.prog idlXBestBurning Vs.G.T = true := by kernel_rfl
theorem rd23 {n : Nat} : Reads Try.prog (n + 2) 23 (fun x : Vs.G.GLamp => [(.int .i64 x.Heats), (.int .i64 x.Cools), (.int .i64 x.Limit)]) Vs.G.GLamp.ok := by
  intro cs h
  obtain ⟨css, rfl, hz⟩ := shaped_struct Try.underlying23 h
  replace h : Shaped.ShapedL _ [2, 2, 2] css := hz
  simp only [shapedL_cons, shapedL_nil] at h
  obtain ⟨c0, _, rfl, h0, c1, _, rfl, h1, c2, _, rfl, h2, rfl⟩ := h
  obtain ⟨x0, rfl, k0⟩ := (rd_int Try.underlying2) c0 h0
  obtain ⟨x1, rfl, k1⟩ := (rd_int Try.underlying2) c1 h1
  obtain ⟨x2, rfl, k2⟩ := (rd_int Try.underlying2) c2 h2
  exact ⟨⟨x0, x1, x2⟩, rfl, k0, k1, k2⟩
theorem lawXBestBurning : ∀ trees, ShapedAll Try.prog 3 Try.f4.params.toList trees → ev Vs.G.T noExt 5 (idsOf idlXBestBurning 4) trees = some (.bool true, []) := by
  intro trees h
  rw [Try.params4] at h
  obtain ⟨x0, _, rfl, k0, h⟩ := sh_cons (enc := (fun x : Vs.G.GLamp => .agg [(.int .i64 x.Heats), (.int .i64 x.Cools), (.int .i64 x.Limit)])) h (rd23) (fun _ => mkT_agg Try.underlying23)
  obtain ⟨x1, _, rfl, k1, h⟩ := sh_cons (enc := (Tree.int .i64)) h (rd_int Try.underlying2) (fun _ => mkT_one (by simp [Try.underlying2]))
  obtain rfl := sh_nil h
  exact Vs.G.S890 0 _ (Vs.G.laws_FnExactBestBurning_true k0 k1)
theorem liftedXBestBurning (os : Os) (started : os.Started) (H : Type) (enc : TypeId × Value → H) :
    ReturnsInHanded {} Try.checked os 4 .any (Rows.fnExactBestBurningSpec.pre6 enc Try.prog Try.f4 Rows.fnExactBestBurningRow.domain false) (Rows.fnExactBestBurningSpec.post enc Try.prog Try.f4 false true false false) := by
  refine law_lifted (C := Try.checked) (L := idlXBestBurning) (T := Vs.G.T) (d := 5) (n := 3) (tb := 4) ownXBestBurning laidXBestBurning started (by kernel_rfl) Try.func4
    (ChangeSpec.witness6 (enc := enc) (C := Try.checked) false ⟨#[], #[.agg #[.int .i64 0, .int .i64 0, .int .i64 0], .int .i64 0], []⟩ 8 (by kernel_rfl) (by kernel_rfl) (by kernel_rfl) (by kernel_rfl))
    (by kernel_rfl) rfl allXBestBurning (by kernel_rfl) (by kernel_rfl) rfl Try.underlying4 rfl ?_ lawXBestBurning
  intro ds hd
  match ds, hd with
  | [a0, a1], _ => exact ⟨rfl, rfl, rfl⟩
theorem fnExactBestBurning_holds : Rows.FnExactBestBurningSaid :=
  OpenClaim.holds_of_wide 4 Try.f4 rfl rfl rfl rfl rfl rfl rfl ⟨rfl, rfl, rfl, rfl, rfl⟩ rfl rfl rfl rfl rfl (by kernel_rfl) Try.func4 (by kernel_rfl)
    (of_decide_eq_true (by kernel_rfl)) (by unfold Func.isWrapper; first | (rw [if_pos (by decide +kernel)]; kernel_rfl) | (rw [if_neg (by decide +kernel)]; exact ⟨rfl, rfl⟩))
    (fun os started H enc _ => liftedXBestBurning os started H enc)
#print axioms fnExactBestBurning_holds
end Go.Proofs.Ytklbdahpecflmaa
