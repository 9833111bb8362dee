/- The Go law laws.FnWheelsOfLight returns true for every input and leaves its arguments as they were. Conditions: none beyond the row's own. -/
import Derived.Test.YtoeekebkinljpaaRows
import Derived.Test.YtoeekebkinljpaaSLWheelsOfLight1
import Derived.Test.YtoeekebkinljpaaV6
import Derived.Test.YtoeekebkinljpaaHLight
set_option maxRecDepth 100000
namespace Go.Proofs.Ytoeekebkinljpaa
open Go.ChangeShapes Go.WideShapes Go.ChangeAt Go.RowKit Go.Vs

theorem ownLWheelsOfLight : ownKnob Try.prog.godebug = none := by kernel_rfl
theorem laidLWheelsOfLight : laidOutB Try.prog = true := by kernel_rfl
def idlLWheelsOfLight : List (Nat × Nat) := [(4, 383), (8, 398), (12, 204), (13, 509), (14, 587), (15, 482), (16, 134), (17, 543), (18, 483), (19, 140), (20, 545), (21, 477), (22, 117), (23, 534), (24, 158), (38, 206), (63, 603), (64, 660), (65, 253), (66, 664), (67, 658), (68, 326), (69, 666), (70, 605), (71, 292), (72, 616), (73, 668), (74, 298), (75, 659), (76, 17), (77, 665), (78, 662), (82, 617), (83, 667), (84, 6), (86, 7), (89, 4), (95, 604), (104, 614), (105, 213), (108, 611), (109, 269), (110, 278), (111, 5), (113, 615)]
theorem allLWheelsOfLight : allOk Try.prog idlLWheelsOfLight Vs.G.T = true := by kernel_rfl
theorem lawLWheelsOfLight : ∀ trees, ShapedAll Try.prog 3 Try.f4.params.toList trees → ev Vs.G.T noExt 8 (idsOf idlLWheelsOfLight 4) trees = some (.bool true, []) := by
  intro trees h
  rw [Try.params4] at h
  obtain ⟨x0, _, rfl, k0, h⟩ := sh_cons (enc := (eSl false 1 (Tree.int .u8))) h (rd_slice (sz := 1) (enc := (Tree.int .u8)) Try.underlying22 (by kernel_rfl) (rd_int Try.underlying5) (fun _ => mkT_one (by simp [Try.underlying5]))) (fun _ => mkT_one (by simp [Try.underlying22]))
  obtain rfl := sh_nil h
  exact Vs.G.S383 0 _ (Vs.G.laws_FnWheelsOfLight_true k0)
theorem liftedLWheelsOfLight (os : Os) (started : os.Started) (H : Type) (enc : TypeId × Value → H) :
    ReturnsInHanded {} Try.checked os 4 .any (Rows.fnWheelsOfLightSpec.pre6 enc Try.prog Try.f4 Rows.fnWheelsOfLightRow.domain false) (Rows.fnWheelsOfLightSpec.post enc Try.prog Try.f4 false true false false) := by
  refine law_lifted (C := Try.checked) (L := idlLWheelsOfLight) (T := Vs.G.T) (d := 8) (n := 3) (tb := 4) ownLWheelsOfLight laidLWheelsOfLight started (by kernel_rfl) Try.func4
    (ChangeSpec.witness6 (enc := enc) (C := Try.checked) false ⟨#[], #[.slice none 0 0], []⟩ 8 (by kernel_rfl) (by kernel_rfl) (by kernel_rfl) (by kernel_rfl))
    (by kernel_rfl) rfl allLWheelsOfLight (by kernel_rfl) (by kernel_rfl) rfl Try.underlying4 rfl ?_ lawLWheelsOfLight
  intro ds hd
  match ds, hd with
  | [a0], _ => exact ⟨rfl, rfl, rfl⟩
theorem fnWheelsOfLight_holds : Rows.FnWheelsOfLightSaid :=
  OpenClaim.holds_of_wide 4 Try.f4 rfl rfl rfl rfl rfl rfl rfl ⟨rfl, rfl, rfl, rfl, rfl⟩ rfl rfl rfl rfl rfl (by kernel_rfl) Try.func4 (by kernel_rfl)
    (of_decide_eq_true (by kernel_rfl)) (by unfold Func.isWrapper; first | (rw [if_pos (by decide +kernel)]; kernel_rfl) | (rw [if_neg (by decide +kernel)]; exact ⟨rfl, rfl⟩))
    (fun os started H enc _ => liftedLWheelsOfLight os started H enc)
#print axioms fnWheelsOfLight_holds
end Go.Proofs.Ytoeekebkinljpaa
