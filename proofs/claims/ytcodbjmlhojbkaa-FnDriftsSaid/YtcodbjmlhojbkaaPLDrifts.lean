/- The Go law laws.FnDrifts returns true for every input and leaves its arguments as they were. Conditions: none beyond the row's own. -/
import Derived.Test.YtcodbjmlhojbkaaRows
import Derived.Test.YtcodbjmlhojbkaaSLDrifts1
import Derived.Test.YtcodbjmlhojbkaaV6
import Derived.Test.YtcodbjmlhojbkaaHDrift
set_option maxRecDepth 100000
namespace Go.Proofs.Ytcodbjmlhojbkaa
open Go.ChangeShapes Go.WideShapes Go.ChangeAt Go.RowKit Go.Vs

theorem ownLDrifts : ownKnob Try.prog.godebug = none := by kernel_rfl
theorem laidLDrifts : laidOutB Try.prog = true := by kernel_rfl
def idlLDrifts : List (Nat × Nat) := [(5, 334), (8, 386), (9, 426), (14, 425), (19, 385), (20, 74), (21, 189), (22, 107), (23, 187), (24, 512), (25, 161), (26, 75), (39, 615), (40, 603), (41, 213), (42, 326), (43, 257), (44, 292), (45, 269), (46, 7), (47, 606), (48, 262), (51, 263), (52, 618), (53, 619), (63, 616), (64, 5), (65, 620), (70, 605), (72, 604), (73, 611)]
theorem allLDrifts : allOk Try.prog idlLDrifts Vs.G.T = true := by kernel_rfl
theorem lawLDrifts : ∀ trees, ShapedAll Try.prog 3 Try.f5.params.toList trees → ev Vs.G.T noExt 5 (idsOf idlLDrifts 5) trees = some (.bool true, []) := by
  intro trees h
  rw [Try.params5] at h
  obtain ⟨x0, _, rfl, k0, h⟩ := sh_cons (enc := (eSl false 1 (Tree.int .u8))) h (rd_slice (sz := 1) (enc := (Tree.int .u8)) Try.underlying22 (by kernel_rfl) (rd_int Try.underlying5) (fun _ => mkT_one (by simp [Try.underlying5]))) (fun _ => mkT_one (by simp [Try.underlying22]))
  obtain ⟨x1, _, rfl, k1, h⟩ := sh_cons (enc := (eSl false 1 (Tree.int .u8))) h (rd_slice (sz := 1) (enc := (Tree.int .u8)) Try.underlying22 (by kernel_rfl) (rd_int Try.underlying5) (fun _ => mkT_one (by simp [Try.underlying5]))) (fun _ => mkT_one (by simp [Try.underlying22]))
  obtain rfl := sh_nil h
  exact Vs.G.S334 0 _ (Vs.G.laws_FnDrifts_true k0 k1)
theorem liftedLDrifts (os : Os) (started : os.Started) (H : Type) (enc : TypeId × Value → H) :
    ReturnsInHanded {} Try.checked os 5 .any (Rows.fnDriftsSpec.pre6 enc Try.prog Try.f5 Rows.fnDriftsRow.domain false) (Rows.fnDriftsSpec.post enc Try.prog Try.f5 false true false false) := by
  refine law_lifted (C := Try.checked) (L := idlLDrifts) (T := Vs.G.T) (d := 5) (n := 3) (tb := 4) ownLDrifts laidLDrifts started (by kernel_rfl) Try.func5
    (ChangeSpec.witness6 (enc := enc) (C := Try.checked) false ⟨#[], #[.slice none 0 0, .slice none 0 0], []⟩ 8 (by kernel_rfl) (by kernel_rfl) (by kernel_rfl) (by kernel_rfl))
    (by kernel_rfl) rfl allLDrifts (by kernel_rfl) (by kernel_rfl) rfl Try.underlying4 rfl ?_ lawLDrifts
  intro ds hd
  match ds, hd with
  | [a0, a1], _ => exact ⟨rfl, rfl, rfl⟩
theorem fnDrifts_holds : Rows.FnDriftsSaid :=
  OpenClaim.holds_of_wide 5 Try.f5 rfl rfl rfl rfl rfl rfl rfl ⟨rfl, rfl, rfl, rfl, rfl⟩ rfl rfl rfl rfl rfl (by kernel_rfl) Try.func5 (by kernel_rfl)
    (of_decide_eq_true (by kernel_rfl)) (by unfold Func.isWrapper; first | (rw [if_pos (by decide +kernel)]; kernel_rfl) | (rw [if_neg (by decide +kernel)]; exact ⟨rfl, rfl⟩))
    (fun os started H enc _ => liftedLDrifts os started H enc)
#print axioms fnDrifts_holds
end Go.Proofs.Ytcodbjmlhojbkaa
