/- The Go law laws.FnWheels returns true for every input and leaves its arguments as they were. Conditions: none beyond the row's own. -/
import Derived.Test.YtoeekebkinljpaaRows
import Derived.Test.YtoeekebkinljpaaSLWheels1
import Derived.Test.YtoeekebkinljpaaV6
import Derived.Test.YtoeekebkinljpaaHWheelsB
set_option maxRecDepth 100000
namespace Go.Proofs.Ytoeekebkinljpaa
open Go.ChangeShapes Go.WideShapes Go.ChangeAt Go.RowKit Go.Vs

theorem ownLWheels : ownKnob Try.prog.godebug = none := by kernel_rfl
theorem laidLWheels : laidOutB Try.prog = true := by kernel_rfl
def idlLWheels : List (Nat × Nat) := [(7, 382), (8, 398), (51, 236), (53, 508), (54, 203), (55, 586), (56, 510), (57, 238), (58, 599), (59, 497), (60, 185), (61, 572), (62, 397), (63, 603), (68, 326), (70, 605), (71, 292), (72, 616), (82, 617), (84, 6), (85, 607), (86, 7), (87, 707), (88, 714), (89, 4), (91, 26), (93, 711), (95, 604), (96, 708), (97, 710), (98, 807), (99, 237), (100, 713), (101, 325), (102, 712), (103, 709), (104, 614), (105, 213), (106, 245), (107, 716), (108, 611), (109, 269), (111, 5), (112, 829), (113, 615)]
theorem allLWheels : allOk Try.prog idlLWheels Vs.G.T = true := by kernel_rfl
theorem lawLWheels : ∀ trees, ShapedAll Try.prog 3 Try.f7.params.toList trees → ev Vs.G.T noExt 8 (idsOf idlLWheels 7) trees = some (.bool true, []) := by
  intro trees h
  rw [Try.params7] at h
  obtain ⟨x0, _, rfl, k0, h⟩ := sh_cons (enc := (eSl false 1 (Tree.int .u8))) h (rd_slice (sz := 1) (enc := (Tree.int .u8)) Try.underlying22 (by kernel_rfl) (rd_int Try.underlying5) (fun _ => mkT_one (by simp [Try.underlying5]))) (fun _ => mkT_one (by simp [Try.underlying22]))
  obtain rfl := sh_nil h
  exact Vs.G.S382 0 _ (Vs.G.laws_FnWheels_true k0)
theorem liftedLWheels (os : Os) (started : os.Started) (H : Type) (enc : TypeId × Value → H) :
    ReturnsInHanded {} Try.checked os 7 .any (Rows.fnWheelsSpec.pre6 enc Try.prog Try.f7 Rows.fnWheelsRow.domain false) (Rows.fnWheelsSpec.post enc Try.prog Try.f7 false true false false) := by
  refine law_lifted (C := Try.checked) (L := idlLWheels) (T := Vs.G.T) (d := 8) (n := 3) (tb := 4) ownLWheels laidLWheels started (by kernel_rfl) Try.func7
    (ChangeSpec.witness6 (enc := enc) (C := Try.checked) false ⟨#[], #[.slice none 0 0], []⟩ 8 (by kernel_rfl) (by kernel_rfl) (by kernel_rfl) (by kernel_rfl))
    (by kernel_rfl) rfl allLWheels (by kernel_rfl) (by kernel_rfl) rfl Try.underlying4 rfl ?_ lawLWheels
  intro ds hd
  match ds, hd with
  | [a0], _ => exact ⟨rfl, rfl, rfl⟩
theorem fnWheels_holds : Rows.FnWheelsSaid :=
  OpenClaim.holds_of_wide 7 Try.f7 rfl rfl rfl rfl rfl rfl rfl ⟨rfl, rfl, rfl, rfl, rfl⟩ rfl rfl rfl rfl rfl (by kernel_rfl) Try.func7 (by kernel_rfl)
    (of_decide_eq_true (by kernel_rfl)) (by unfold Func.isWrapper; first | (rw [if_pos (by decide +kernel)]; kernel_rfl) | (rw [if_neg (by decide +kernel)]; exact ⟨rfl, rfl⟩))
    (fun os started H enc _ => liftedLWheels os started H enc)
#print axioms fnWheels_holds
end Go.Proofs.Ytoeekebkinljpaa
