/- The Go law laws.FnSteady returns true for every input and leaves its arguments as they were. Conditions: none beyond the row's own. -/
import Derived.Test.YtoeekebkinljpaaRows
import Derived.Test.YtoeekebkinljpaaSLSteady1
import Derived.Test.YtoeekebkinljpaaV6
import Derived.Test.YtoeekebkinljpaaHSteady
set_option maxRecDepth 100000
namespace Go.Proofs.Ytoeekebkinljpaa
open Go.ChangeShapes Go.WideShapes Go.ChangeAt Go.RowKit Go.Vs

theorem ownLSteady : ownKnob Try.prog.godebug = none := by kernel_rfl
theorem laidLSteady : laidOutB Try.prog = true := by kernel_rfl
def idlLSteady : List (Nat × Nat) := [(5, 377), (8, 398), (22, 117), (24, 158), (25, 478), (26, 118), (27, 535), (28, 468), (29, 84), (30, 516), (31, 498), (32, 188), (33, 574), (34, 486), (35, 552), (36, 100), (37, 523), (38, 206), (39, 588), (63, 603), (64, 660), (66, 664), (68, 326), (69, 666), (70, 605), (71, 292), (72, 616), (74, 298), (75, 659), (76, 17), (77, 665), (78, 662), (79, 661), (80, 312), (81, 663), (82, 617), (83, 667), (84, 6), (85, 607), (86, 7), (89, 4), (95, 604), (104, 614), (105, 213), (108, 611), (109, 269), (110, 278), (111, 5), (113, 615)]
theorem allLSteady : allOk Try.prog idlLSteady Vs.G.T = true := by kernel_rfl
theorem lawLSteady : ∀ trees, ShapedAll Try.prog 3 Try.f5.params.toList trees → ev Vs.G.T noExt 7 (idsOf idlLSteady 5) trees = some (.bool true, []) := by
  intro trees h
  rw [Try.params5] at h
  obtain ⟨x0, _, rfl, k0, h⟩ := sh_cons (enc := (eSl false 1 (Tree.int .u8))) h (rd_slice (sz := 1) (enc := (Tree.int .u8)) Try.underlying22 (by kernel_rfl) (rd_int Try.underlying5) (fun _ => mkT_one (by simp [Try.underlying5]))) (fun _ => mkT_one (by simp [Try.underlying22]))
  obtain rfl := sh_nil h
  exact Vs.G.S377 0 _ (Vs.G.laws_FnSteady_true k0)
theorem liftedLSteady (os : Os) (started : os.Started) (H : Type) (enc : TypeId × Value → H) :
    ReturnsInHanded {} Try.checked os 5 .any (Rows.fnSteadySpec.pre6 enc Try.prog Try.f5 Rows.fnSteadyRow.domain false) (Rows.fnSteadySpec.post enc Try.prog Try.f5 false true false false) := by
  refine law_lifted (C := Try.checked) (L := idlLSteady) (T := Vs.G.T) (d := 7) (n := 3) (tb := 4) ownLSteady laidLSteady started (by kernel_rfl) Try.func5
    (ChangeSpec.witness6 (enc := enc) (C := Try.checked) false ⟨#[], #[.slice none 0 0], []⟩ 8 (by kernel_rfl) (by kernel_rfl) (by kernel_rfl) (by kernel_rfl))
    (by kernel_rfl) rfl allLSteady (by kernel_rfl) (by kernel_rfl) rfl Try.underlying4 rfl ?_ lawLSteady
  intro ds hd
  match ds, hd with
  | [a0], _ => exact ⟨rfl, rfl, rfl⟩
theorem fnSteady_holds : Rows.FnSteadySaid :=
  OpenClaim.holds_of_wide 5 Try.f5 rfl rfl rfl rfl rfl rfl rfl ⟨rfl, rfl, rfl, rfl, rfl⟩ rfl rfl rfl rfl rfl (by kernel_rfl) Try.func5 (by kernel_rfl)
    (of_decide_eq_true (by kernel_rfl)) (by unfold Func.isWrapper; first | (rw [if_pos (by decide +kernel)]; kernel_rfl) | (rw [if_neg (by decide +kernel)]; exact ⟨rfl, rfl⟩))
    (fun os started H enc _ => liftedLSteady os started H enc)
#print axioms fnSteady_holds
end Go.Proofs.Ytoeekebkinljpaa
