/- The Go law laws.FnShutters returns true for every input and leaves its arguments as they were. Conditions: none beyond the row's own. -/
import Derived.Test.YtcbacahinmncaaaRows
import Derived.Test.YtcbacahinmncaaaSLShutters1
import Derived.Test.YtcbacahinmncaaaV6
import Derived.Test.YtcbacahinmncaaaHFramesC
set_option maxRecDepth 100000
namespace Go.Proofs.Ytcbacahinmncaaa
open Go.ChangeShapes Go.WideShapes Go.ChangeAt Go.RowKit Go.Vs

theorem ownLShutters : ownKnob Try.prog.godebug = none := by kernel_rfl
theorem laidLShutters : laidOutB Try.prog = true := by kernel_rfl
def idlLShutters : List (Nat × Nat) := [(8, 376), (36, 398), (38, 105), (44, 201), (46, 177), (47, 493), (48, 566), (49, 102), (50, 525), (51, 121), (52, 537), (53, 465), (54, 79), (55, 513), (56, 490), (57, 400), (58, 559), (59, 170), (60, 214), (61, 591), (62, 399), (63, 603), (65, 7), (78, 605), (86, 326), (97, 267), (98, 268), (99, 725), (100, 726), (101, 606), (102, 247), (103, 303), (104, 727), (106, 318), (108, 728), (109, 723), (110, 724), (111, 6), (112, 4), (113, 812), (114, 801), (115, 215), (116, 5), (138, 823)]
theorem allLShutters : allOk Try.prog idlLShutters Vs.G.T = true := by kernel_rfl
theorem lawLShutters : ∀ trees, ShapedAll Try.prog 3 Try.f8.params.toList trees → ev Vs.G.T noExt 8 (idsOf idlLShutters 8) trees = some (.bool true, []) := by
  intro trees h
  rw [Try.params8] at h
  obtain ⟨x0, _, rfl, k0, h⟩ := sh_cons (enc := (eSl false 1 (Tree.int .u8))) h (rd_slice (sz := 1) (enc := (Tree.int .u8)) Try.underlying22 (by kernel_rfl) (rd_int Try.underlying5) (fun _ => mkT_one (by simp [Try.underlying5]))) (fun _ => mkT_one (by simp [Try.underlying22]))
  obtain rfl := sh_nil h
  exact Vs.G.S376 0 _ (Vs.G.laws_FnShutters_true k0)
theorem liftedLShutters (os : Os) (started : os.Started) (H : Type) (enc : TypeId × Value → H) :
    ReturnsInHanded {} Try.checked os 8 .any (Rows.fnShuttersSpec.pre6 enc Try.prog Try.f8 Rows.fnShuttersRow.domain false) (Rows.fnShuttersSpec.post enc Try.prog Try.f8 false true false false) := by
  refine law_lifted (C := Try.checked) (L := idlLShutters) (T := Vs.G.T) (d := 8) (n := 3) (tb := 4) ownLShutters laidLShutters started (by kernel_rfl) Try.func8
    (ChangeSpec.witness6 (enc := enc) (C := Try.checked) false ⟨#[], #[.slice none 0 0], []⟩ 8 (by kernel_rfl) (by kernel_rfl) (by kernel_rfl) (by kernel_rfl))
    (by kernel_rfl) rfl allLShutters (by kernel_rfl) (by kernel_rfl) rfl Try.underlying4 rfl ?_ lawLShutters
  intro ds hd
  match ds, hd with
  | [a0], _ => exact ⟨rfl, rfl, rfl⟩
theorem fnShutters_holds : Rows.FnShuttersSaid :=
  OpenClaim.holds_of_wide 8 Try.f8 rfl rfl rfl rfl rfl rfl rfl ⟨rfl, rfl, rfl, rfl, rfl⟩ rfl rfl rfl rfl rfl (by kernel_rfl) Try.func8 (by kernel_rfl)
    (of_decide_eq_true (by kernel_rfl)) (by unfold Func.isWrapper; first | (rw [if_pos (by decide +kernel)]; kernel_rfl) | (rw [if_neg (by decide +kernel)]; exact ⟨rfl, rfl⟩))
    (fun os started H enc _ => liftedLShutters os started H enc)
#print axioms fnShutters_holds
end Go.Proofs.Ytcbacahinmncaaa
