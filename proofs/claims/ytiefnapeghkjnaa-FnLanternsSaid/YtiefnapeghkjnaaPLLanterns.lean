/- The Go law laws.FnLanterns returns true for every input and leaves its arguments as they were. Conditions: none beyond the row's own. -/
import Derived.Test.YtiefnapeghkjnaaRows
import Derived.Test.YtiefnapeghkjnaaSLLanterns1
import Derived.Test.YtiefnapeghkjnaaV6
import Derived.Test.YtiefnapeghkjnaaHLLanterns1
set_option maxRecDepth 100000
namespace Go.Proofs.Ytiefnapeghkjnaa
open Go.ChangeShapes Go.WideShapes Go.ChangeAt Go.RowKit Go.Vs

theorem ownLLanterns : ownKnob Try.prog.godebug = none := by kernel_rfl
theorem laidLLanterns : laidOutB Try.prog = true := by kernel_rfl
def idlLLanterns : List (Nat × Nat) := [(7, 359), (29, 386), (37, 384), (48, 434), (49, 87), (50, 42), (51, 58), (52, 540), (53, 78), (54, 72), (55, 596), (91, 603), (97, 7), (103, 326), (105, 605), (126, 717), (127, 230), (128, 19), (129, 834), (130, 43), (131, 818), (132, 44), (133, 289), (134, 720), (135, 722), (136, 719), (137, 316), (183, 5), (184, 606), (201, 806), (202, 231), (203, 866), (204, 20), (205, 721), (206, 718), (217, 607), (227, 828), (228, 843)]
theorem allLLanterns : allOk Try.prog idlLLanterns Vs.G.T = true := by kernel_rfl
theorem soundXLLanterns : Sound Try.prog (idsOf idlLLanterns) ext := sound_extT [] rfl trivial
theorem lawLLanterns : ∀ trees, ShapedAll Try.prog 3 Try.f7.params.toList trees → ev Vs.G.T ext 8 (idsOf idlLLanterns 7) trees = some (.bool true, []) := by
  intro trees h
  rw [Try.params7] at h
  obtain ⟨x0, _, rfl, k0, h⟩ := sh_cons (enc := (eSl false 1 (Tree.int .u8))) h (rd_slice (sz := 1) (enc := (Tree.int .u8)) Try.underlying22 (by kernel_rfl) (rd_int Try.underlying5) (fun _ => mkT_one (by simp [Try.underlying5]))) (fun _ => mkT_one (by simp [Try.underlying22]))
  obtain ⟨x1, _, rfl, k1, h⟩ := sh_cons (enc := (eSl false 1 (Tree.int .u8))) h (rd_slice (sz := 1) (enc := (Tree.int .u8)) Try.underlying22 (by kernel_rfl) (rd_int Try.underlying5) (fun _ => mkT_one (by simp [Try.underlying5]))) (fun _ => mkT_one (by simp [Try.underlying22]))
  obtain rfl := sh_nil h
  exact Vs.G.S359 0 _ (Vs.G.laws_FnLanterns_true k0 k1)
theorem liftedLLanterns (os : Os) (started : os.Started) (H : Type) (enc : TypeId × Value → H) :
    ReturnsInHanded {} Try.checked os 7 .any (Rows.fnLanternsSpec.pre6 enc Try.prog Try.f7 Rows.fnLanternsRow.domain false) (Rows.fnLanternsSpec.post enc Try.prog Try.f7 false true false false) := by
  refine law_lifted (C := Try.checked) (L := idlLLanterns) (T := Vs.G.T) (d := 8) (n := 3) (tb := 4) ownLLanterns laidLLanterns started (by kernel_rfl) Try.func7
    (ChangeSpec.witness6 (enc := enc) (C := Try.checked) false ⟨#[], #[.slice none 0 0, .slice none 0 0], []⟩ 8 (by kernel_rfl) (by kernel_rfl) (by kernel_rfl) (by kernel_rfl))
    (by kernel_rfl) rfl allLLanterns soundXLLanterns (by kernel_rfl) (by kernel_rfl) rfl Try.underlying4 rfl ?_ lawLLanterns
  intro ds hd
  match ds, hd with
  | [a0, a1], _ => exact ⟨rfl, rfl, rfl⟩
theorem fnLanterns_holds : Rows.FnLanternsSaid :=
  OpenClaim.holds_of_wide 7 Try.f7 rfl rfl rfl rfl rfl rfl rfl ⟨rfl, rfl, rfl, rfl, rfl⟩ rfl rfl rfl rfl rfl (by kernel_rfl) Try.func7 (by kernel_rfl)
    (of_decide_eq_true (by kernel_rfl)) (by unfold Func.isWrapper; first | (rw [if_pos (by decide +kernel)]; kernel_rfl) | (rw [if_neg (by decide +kernel)]; exact ⟨rfl, rfl⟩))
    (fun os started H enc _ => liftedLLanterns os started H enc)
#print axioms fnLanterns_holds
end Go.Proofs.Ytiefnapeghkjnaa
