/- The Go law laws.FnOffsets returns true for every input and leaves its arguments as they were. Conditions: none beyond the row's own. -/
import Derived.Test.YtoeekebkinljpaaRows
import Derived.Test.YtoeekebkinljpaaSLOffsets1
import Derived.Test.YtoeekebkinljpaaV6
import Derived.Test.YtoeekebkinljpaaHBlades
set_option maxRecDepth 100000
namespace Go.Proofs.Ytoeekebkinljpaa
open Go.ChangeShapes Go.WideShapes Go.ChangeAt Go.RowKit Go.Vs

theorem ownLOffsets : ownKnob Try.prog.godebug = none := by kernel_rfl
theorem laidLOffsets : laidOutB Try.prog = true := by kernel_rfl
def idlLOffsets : List (Nat × Nat) := [(3, 368), (8, 398), (9, 456), (10, 52), (11, 440), (12, 204), (38, 206), (63, 603), (64, 660), (65, 253), (66, 664), (67, 658), (68, 326), (70, 605), (76, 17), (77, 665), (86, 7), (89, 4), (111, 5)]
theorem allLOffsets : allOk Try.prog idlLOffsets Vs.G.T = true := by kernel_rfl
theorem lawLOffsets : ∀ trees, ShapedAll Try.prog 3 Try.f3.params.toList trees → ev Vs.G.T noExt 6 (idsOf idlLOffsets 3) trees = some (.bool true, []) := by
  intro trees h
  rw [Try.params3] at h
  obtain ⟨x0, _, rfl, k0, h⟩ := sh_cons (enc := (eSl false 1 (Tree.int .u8))) h (rd_slice (sz := 1) (enc := (Tree.int .u8)) Try.underlying22 (by kernel_rfl) (rd_int Try.underlying5) (fun _ => mkT_one (by simp [Try.underlying5]))) (fun _ => mkT_one (by simp [Try.underlying22]))
  obtain rfl := sh_nil h
  exact Vs.G.S368 0 _ (Vs.G.laws_FnOffsets_true k0)
theorem liftedLOffsets (os : Os) (started : os.Started) (H : Type) (enc : TypeId × Value → H) :
    ReturnsInHanded {} Try.checked os 3 .any (Rows.fnOffsetsSpec.pre6 enc Try.prog Try.f3 Rows.fnOffsetsRow.domain false) (Rows.fnOffsetsSpec.post enc Try.prog Try.f3 false true false false) := by
  refine law_lifted (C := Try.checked) (L := idlLOffsets) (T := Vs.G.T) (d := 6) (n := 3) (tb := 4) ownLOffsets laidLOffsets started (by kernel_rfl) Try.func3
    (ChangeSpec.witness6 (enc := enc) (C := Try.checked) false ⟨#[], #[.slice none 0 0], []⟩ 8 (by kernel_rfl) (by kernel_rfl) (by kernel_rfl) (by kernel_rfl))
    (by kernel_rfl) rfl allLOffsets (by kernel_rfl) (by kernel_rfl) rfl Try.underlying4 rfl ?_ lawLOffsets
  intro ds hd
  match ds, hd with
  | [a0], _ => exact ⟨rfl, rfl, rfl⟩
theorem fnOffsets_holds : Rows.FnOffsetsSaid :=
  OpenClaim.holds_of_wide 3 Try.f3 rfl rfl rfl rfl rfl rfl rfl ⟨rfl, rfl, rfl, rfl, rfl⟩ rfl rfl rfl rfl rfl (by kernel_rfl) Try.func3 (by kernel_rfl)
    (of_decide_eq_true (by kernel_rfl)) (by unfold Func.isWrapper; first | (rw [if_pos (by decide +kernel)]; kernel_rfl) | (rw [if_neg (by decide +kernel)]; exact ⟨rfl, rfl⟩))
    (fun os started H enc _ => liftedLOffsets os started H enc)
#print axioms fnOffsets_holds
end Go.Proofs.Ytoeekebkinljpaa
