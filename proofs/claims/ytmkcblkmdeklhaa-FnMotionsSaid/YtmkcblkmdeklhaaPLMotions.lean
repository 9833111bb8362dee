/- The Go law laws.FnMotions returns true for every input and leaves its arguments as they were. Conditions: none beyond the row's own. -/
import Derived.Test.YtmkcblkmdeklhaaRows
import Derived.Test.YtmkcblkmdeklhaaSLMotions1
import Derived.Test.YtmkcblkmdeklhaaV6
import Derived.Test.YtmkcblkmdeklhaaHLMotions1
set_option maxRecDepth 100000
namespace Go.Proofs.Ytmkcblkmdeklhaa
open Go.ChangeShapes Go.WideShapes Go.ChangeAt Go.RowKit Go.Vs

theorem ownLMotions : ownKnob Try.prog.godebug = none := by kernel_rfl
theorem laidLMotions : laidOutB Try.prog = true := by kernel_rfl
def idlLMotions : List (Nat × Nat) := [(3, 367), (4, 386), (5, 429), (6, 384), (7, 160), (8, 171), (9, 96), (10, 45), (11, 141), (12, 560), (13, 62), (14, 642), (15, 603), (16, 222), (17, 320), (18, 302), (19, 300), (20, 645), (21, 646), (22, 7), (23, 644), (24, 277), (25, 833), (26, 605), (27, 647), (28, 5), (29, 623), (30, 621), (31, 610), (32, 602)]
theorem allLMotions : allOk Try.prog idlLMotions Vs.G.T = true := by kernel_rfl
theorem soundXLMotions : Sound Try.prog (idsOf idlLMotions) ext := sound_extT [] rfl trivial
theorem lawLMotions : ∀ trees, ShapedAll Try.prog 3 Try.f3.params.toList trees → ev Vs.G.T ext 8 (idsOf idlLMotions 3) trees = some (.bool true, []) := by
  intro trees h
  rw [Try.params3] at h
  obtain ⟨x0, _, rfl, k0, h⟩ := sh_cons (enc := (eSl false 1 (Tree.int .u8))) h (rd_slice (sz := 1) (enc := (Tree.int .u8)) Try.underlying22 (by kernel_rfl) (rd_int Try.underlying5) (fun _ => mkT_one (by simp [Try.underlying5]))) (fun _ => mkT_one (by simp [Try.underlying22]))
  obtain ⟨x1, _, rfl, k1, h⟩ := sh_cons (enc := (eSl false 1 (Tree.int .u8))) h (rd_slice (sz := 1) (enc := (Tree.int .u8)) Try.underlying22 (by kernel_rfl) (rd_int Try.underlying5) (fun _ => mkT_one (by simp [Try.underlying5]))) (fun _ => mkT_one (by simp [Try.underlying22]))
  obtain rfl := sh_nil h
  exact Vs.G.S367 0 _ (Vs.G.laws_FnMotions_true k0 k1)
theorem liftedLMotions (os : Os) (started : os.Started) (H : Type) (enc : TypeId × Value → H) :
    ReturnsInHanded {} Try.checked os 3 .any (Rows.fnMotionsSpec.pre6 enc Try.prog Try.f3 Rows.fnMotionsRow.domain false) (Rows.fnMotionsSpec.post enc Try.prog Try.f3 false true false false) := by
  refine law_lifted (C := Try.checked) (L := idlLMotions) (T := Vs.G.T) (d := 8) (n := 3) (tb := 4) ownLMotions laidLMotions started (by kernel_rfl) Try.func3
    (ChangeSpec.witness6 (enc := enc) (C := Try.checked) false ⟨#[], #[.slice none 0 0, .slice none 0 0], []⟩ 8 (by kernel_rfl) (by kernel_rfl) (by kernel_rfl) (by kernel_rfl))
    (by kernel_rfl) rfl allLMotions soundXLMotions (by kernel_rfl) (by kernel_rfl) rfl Try.underlying4 rfl ?_ lawLMotions
  intro ds hd
  match ds, hd with
  | [a0, a1], _ => exact ⟨rfl, rfl, rfl⟩
theorem fnMotions_holds : Rows.FnMotionsSaid :=
  OpenClaim.holds_of_wide 3 Try.f3 rfl rfl rfl rfl rfl rfl rfl ⟨rfl, rfl, rfl, rfl, rfl⟩ rfl rfl rfl rfl rfl (by kernel_rfl) Try.func3 (by kernel_rfl)
    (of_decide_eq_true (by kernel_rfl)) (by unfold Func.isWrapper; first | (rw [if_pos (by decide +kernel)]; kernel_rfl) | (rw [if_neg (by decide +kernel)]; exact ⟨rfl, rfl⟩))
    (fun os started H enc _ => liftedLMotions os started H enc)
#print axioms fnMotions_holds
end Go.Proofs.Ytmkcblkmdeklhaa
