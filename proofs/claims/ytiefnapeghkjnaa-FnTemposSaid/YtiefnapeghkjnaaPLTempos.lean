/- The Go law laws.FnTempos returns true for every input and leaves its arguments as they were. Conditions: none beyond the row's own. -/
import Derived.Test.YtiefnapeghkjnaaRows
import Derived.Test.YtiefnapeghkjnaaSLTempos2
import Derived.Test.YtiefnapeghkjnaaV6
import Derived.Test.YtiefnapeghkjnaaHLTempos1
set_option maxRecDepth 100000
namespace Go.Proofs.Ytiefnapeghkjnaa
open Go.ChangeShapes Go.WideShapes Go.ChangeAt Go.RowKit Go.Vs

theorem ownLTempos : ownKnob Try.prog.godebug = none := by kernel_rfl
theorem laidLTempos : laidOutB Try.prog = true := by kernel_rfl
def idlLTempos : List (Nat × Nat) := [(10, 379), (11, 398), (23, 400), (77, 455), (78, 46), (79, 438), (80, 125), (81, 538), (82, 504), (83, 196), (84, 581), (85, 473), (86, 97), (87, 522), (88, 199), (89, 48), (91, 603), (95, 6), (97, 7), (100, 245), (101, 611), (102, 4), (103, 326), (104, 259), (105, 605), (107, 796), (131, 818), (163, 744), (164, 749), (165, 317), (166, 47), (167, 746), (168, 748), (169, 743), (170, 751), (171, 126), (172, 292), (173, 616), (174, 745), (175, 750), (176, 323), (177, 747), (178, 98), (179, 99), (180, 200), (181, 246), (182, 223), (183, 5), (186, 269), (187, 604), (215, 321), (216, 248), (217, 607), (218, 803), (219, 224), (232, 825)]
theorem allLTempos : allOk Try.prog idlLTempos Vs.G.T = true := by kernel_rfl
theorem soundXLTempos : Sound Try.prog (idsOf idlLTempos) ext := sound_extT [] rfl trivial
theorem lawLTempos : ∀ trees, ShapedAll Try.prog 3 Try.f10.params.toList trees → ev Vs.G.T ext 15 (idsOf idlLTempos 10) trees = some (.bool true, []) := by
  intro trees h
  rw [Try.params10] at h
  obtain ⟨x0, _, rfl, k0, h⟩ := sh_cons (enc := (eSl false 1 (Tree.int .u8))) h (rd_slice (sz := 1) (enc := (Tree.int .u8)) Try.underlying22 (by kernel_rfl) (rd_int Try.underlying5) (fun _ => mkT_one (by simp [Try.underlying5]))) (fun _ => mkT_one (by simp [Try.underlying22]))
  obtain rfl := sh_nil h
  exact Vs.G.S379 0 _ (Vs.G.laws_FnTempos_true k0)
theorem liftedLTempos (os : Os) (started : os.Started) (H : Type) (enc : TypeId × Value → H) :
    ReturnsInHanded {} Try.checked os 10 .any (Rows.fnTemposSpec.pre6 enc Try.prog Try.f10 Rows.fnTemposRow.domain false) (Rows.fnTemposSpec.post enc Try.prog Try.f10 false true false false) := by
  refine law_lifted (C := Try.checked) (L := idlLTempos) (T := Vs.G.T) (d := 15) (n := 3) (tb := 4) ownLTempos laidLTempos started (by kernel_rfl) Try.func10
    (ChangeSpec.witness6 (enc := enc) (C := Try.checked) false ⟨#[], #[.slice none 0 0], []⟩ 8 (by kernel_rfl) (by kernel_rfl) (by kernel_rfl) (by kernel_rfl))
    (by kernel_rfl) rfl allLTempos soundXLTempos (by kernel_rfl) (by kernel_rfl) rfl Try.underlying4 rfl ?_ lawLTempos
  intro ds hd
  match ds, hd with
  | [a0], _ => exact ⟨rfl, rfl, rfl⟩
theorem fnTempos_holds : Rows.FnTemposSaid :=
  OpenClaim.holds_of_wide 10 Try.f10 rfl rfl rfl rfl rfl rfl rfl ⟨rfl, rfl, rfl, rfl, rfl⟩ rfl rfl rfl rfl rfl (by kernel_rfl) Try.func10 (by kernel_rfl)
    (of_decide_eq_true (by kernel_rfl)) (by unfold Func.isWrapper; first | (rw [if_pos (by decide +kernel)]; kernel_rfl) | (rw [if_neg (by decide +kernel)]; exact ⟨rfl, rfl⟩))
    (fun os started H enc _ => liftedLTempos os started H enc)
#print axioms fnTempos_holds
end Go.Proofs.Ytiefnapeghkjnaa
