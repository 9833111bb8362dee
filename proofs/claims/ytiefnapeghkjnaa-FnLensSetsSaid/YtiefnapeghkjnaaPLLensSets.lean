/- The Go law laws.FnLensSets returns true for every input and leaves its arguments as they were. Conditions: none beyond the row's own. -/
import Derived.Test.YtiefnapeghkjnaaRows
import Derived.Test.YtiefnapeghkjnaaSLLensSets2
import Derived.Test.YtiefnapeghkjnaaV6
import Derived.Test.YtiefnapeghkjnaaHLLensSets1
set_option maxRecDepth 100000
namespace Go.Proofs.Ytiefnapeghkjnaa
open Go.ChangeShapes Go.WideShapes Go.ChangeAt Go.RowKit Go.Vs

theorem ownLLensSets : ownKnob Try.prog.godebug = none := by kernel_rfl
theorem laidLLensSets : laidOutB Try.prog = true := by kernel_rfl
def idlLLensSets : List (Nat × Nat) := [(9, 362), (11, 398), (23, 400), (67, 399), (68, 471), (69, 88), (70, 519), (71, 110), (72, 531), (73, 50), (74, 439), (75, 218), (76, 593), (91, 603), (95, 6), (97, 7), (102, 4), (103, 326), (105, 605), (107, 796), (131, 818), (139, 674), (140, 673), (141, 270), (142, 322), (143, 314), (144, 681), (145, 682), (146, 676), (147, 685), (148, 675), (149, 684), (150, 672), (151, 680), (152, 669), (153, 273), (154, 802), (155, 89), (156, 243), (157, 792), (158, 671), (159, 678), (160, 677), (161, 271), (162, 219), (183, 5), (207, 679), (208, 683), (209, 275), (210, 287), (211, 281), (212, 824), (213, 244), (214, 27), (230, 288), (231, 31)]
theorem allLLensSets : allOk Try.prog idlLLensSets Vs.G.T = true := by kernel_rfl
theorem soundXLLensSets : Sound Try.prog (idsOf idlLLensSets) ext := sound_extT [] rfl trivial
theorem lawLLensSets : ∀ trees, ShapedAll Try.prog 3 Try.f9.params.toList trees → ev Vs.G.T ext 17 (idsOf idlLLensSets 9) trees = some (.bool true, []) := by
  intro trees h
  rw [Try.params9] at h
  obtain ⟨x0, _, rfl, k0, h⟩ := sh_cons (enc := (eSl false 1 (Tree.int .u8))) h (rd_slice (sz := 1) (enc := (Tree.int .u8)) Try.underlying22 (by kernel_rfl) (rd_int Try.underlying5) (fun _ => mkT_one (by simp [Try.underlying5]))) (fun _ => mkT_one (by simp [Try.underlying22]))
  obtain rfl := sh_nil h
  exact Vs.G.S362 0 _ (Vs.G.laws_FnLensSets_true k0)
theorem liftedLLensSets (os : Os) (started : os.Started) (H : Type) (enc : TypeId × Value → H) :
    ReturnsInHanded {} Try.checked os 9 .any (Rows.fnLensSetsSpec.pre6 enc Try.prog Try.f9 Rows.fnLensSetsRow.domain false) (Rows.fnLensSetsSpec.post enc Try.prog Try.f9 false true false false) := by
  refine law_lifted (C := Try.checked) (L := idlLLensSets) (T := Vs.G.T) (d := 17) (n := 3) (tb := 4) ownLLensSets laidLLensSets started (by kernel_rfl) Try.func9
    (ChangeSpec.witness6 (enc := enc) (C := Try.checked) false ⟨#[], #[.slice none 0 0], []⟩ 8 (by kernel_rfl) (by kernel_rfl) (by kernel_rfl) (by kernel_rfl))
    (by kernel_rfl) rfl allLLensSets soundXLLensSets (by kernel_rfl) (by kernel_rfl) rfl Try.underlying4 rfl ?_ lawLLensSets
  intro ds hd
  match ds, hd with
  | [a0], _ => exact ⟨rfl, rfl, rfl⟩
theorem fnLensSets_holds : Rows.FnLensSetsSaid :=
  OpenClaim.holds_of_wide 9 Try.f9 rfl rfl rfl rfl rfl rfl rfl ⟨rfl, rfl, rfl, rfl, rfl⟩ rfl rfl rfl rfl rfl (by kernel_rfl) Try.func9 (by kernel_rfl)
    (of_decide_eq_true (by kernel_rfl)) (by unfold Func.isWrapper; first | (rw [if_pos (by decide +kernel)]; kernel_rfl) | (rw [if_neg (by decide +kernel)]; exact ⟨rfl, rfl⟩))
    (fun os started H enc _ => liftedLLensSets os started H enc)
#print axioms fnLensSets_holds
end Go.Proofs.Ytiefnapeghkjnaa
