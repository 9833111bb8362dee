/- The Go law laws.FnStrips returns true for every input and leaves its arguments as they were. Conditions: none beyond the row's own. -/
import Derived.Test.YtnpifcoeioincaaRows
import Derived.Test.YtnpifcoeioincaaSLStrips1
import Derived.Test.YtnpifcoeioincaaV6
import Derived.Test.YtnpifcoeioincaaHStrips
set_option maxRecDepth 100000
namespace Go.Proofs.Ytnpifcoeioincaa
open Go.ChangeShapes Go.WideShapes Go.ChangeAt Go.RowKit Go.Vs

theorem ownLStrips : ownKnob Try.prog.godebug = none := by kernel_rfl
theorem laidLStrips : laidOutB Try.prog = true := by kernel_rfl
def idlLStrips : List (Nat × Nat) := [(9, 378), (10, 398), (78, 501), (79, 192), (80, 577), (81, 502), (82, 193), (83, 578), (84, 511), (85, 241), (86, 601), (87, 603), (89, 6), (90, 7), (91, 4), (92, 326), (95, 605), (102, 606), (136, 648), (137, 649), (138, 212), (139, 650), (140, 652), (141, 651), (142, 656), (143, 653), (145, 5), (161, 654), (162, 655), (163, 620)]
theorem allLStrips : allOk Try.prog idlLStrips Vs.G.T = true := by kernel_rfl
theorem lawLStrips : ∀ trees, ShapedAll Try.prog 3 Try.f9.params.toList trees → ev Vs.G.T noExt 7 (idsOf idlLStrips 9) trees = some (.bool true, []) := by
  intro trees h
  rw [Try.params9] at h
  obtain ⟨x0, _, rfl, k0, h⟩ := sh_cons (enc := (eSl false 1 (Tree.int .u8))) h (rd_slice (sz := 1) (enc := (Tree.int .u8)) Try.underlying22 (by kernel_rfl) (rd_int Try.underlying5) (fun _ => mkT_one (by simp [Try.underlying5]))) (fun _ => mkT_one (by simp [Try.underlying22]))
  obtain rfl := sh_nil h
  exact Vs.G.S378 0 _ (Vs.G.laws_FnStrips_true k0)
theorem liftedLStrips (os : Os) (started : os.Started) (H : Type) (enc : TypeId × Value → H) :
    ReturnsInHanded {} Try.checked os 9 .any (Rows.fnStripsSpec.pre6 enc Try.prog Try.f9 Rows.fnStripsRow.domain false) (Rows.fnStripsSpec.post enc Try.prog Try.f9 false true false false) := by
  refine law_lifted (C := Try.checked) (L := idlLStrips) (T := Vs.G.T) (d := 7) (n := 3) (tb := 4) ownLStrips laidLStrips started (by kernel_rfl) Try.func9
    (ChangeSpec.witness6 (enc := enc) (C := Try.checked) false ⟨#[], #[.slice none 0 0], []⟩ 8 (by kernel_rfl) (by kernel_rfl) (by kernel_rfl) (by kernel_rfl))
    (by kernel_rfl) rfl allLStrips (by kernel_rfl) (by kernel_rfl) rfl Try.underlying4 rfl ?_ lawLStrips
  intro ds hd
  match ds, hd with
  | [a0], _ => exact ⟨rfl, rfl, rfl⟩
theorem fnStrips_holds : Rows.FnStripsSaid :=
  OpenClaim.holds_of_wide 9 Try.f9 rfl rfl rfl rfl rfl rfl rfl ⟨rfl, rfl, rfl, rfl, rfl⟩ rfl rfl rfl rfl rfl (by kernel_rfl) Try.func9 (by kernel_rfl)
    (of_decide_eq_true (by kernel_rfl)) (by unfold Func.isWrapper; first | (rw [if_pos (by decide +kernel)]; kernel_rfl) | (rw [if_neg (by decide +kernel)]; exact ⟨rfl, rfl⟩))
    (fun os started H enc _ => liftedLStrips os started H enc)
#print axioms fnStrips_holds
end Go.Proofs.Ytnpifcoeioincaa
