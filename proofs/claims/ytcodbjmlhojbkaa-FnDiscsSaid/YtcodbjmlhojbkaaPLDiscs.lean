/- The Go law laws.FnDiscs returns true for every input and leaves its arguments as they were. Conditions: none beyond the row's own. -/
import Derived.Test.YtcodbjmlhojbkaaRows
import Derived.Test.YtcodbjmlhojbkaaSLDiscs1
import Derived.Test.YtcodbjmlhojbkaaV6
import Derived.Test.YtcodbjmlhojbkaaHDiscs
set_option maxRecDepth 100000
namespace Go.Proofs.Ytcodbjmlhojbkaa
open Go.ChangeShapes Go.WideShapes Go.ChangeAt Go.RowKit Go.Vs

theorem ownLDiscs : ownKnob Try.prog.godebug = none := by kernel_rfl
theorem laidLDiscs : laidOutB Try.prog = true := by kernel_rfl
def idlLDiscs : List (Nat × Nat) := [(6, 332), (8, 386), (10, 384), (27, 429), (28, 147), (29, 73), (30, 91), (31, 567), (40, 603), (42, 326), (46, 7), (49, 304), (50, 294), (52, 618), (54, 642), (55, 222), (56, 261), (57, 622), (64, 5), (65, 620), (66, 644), (67, 277), (68, 623), (70, 605), (74, 621), (75, 610), (76, 602)]
theorem allLDiscs : allOk Try.prog idlLDiscs Vs.G.T = true := by kernel_rfl
theorem lawLDiscs : ∀ trees, ShapedAll Try.prog 3 Try.f6.params.toList trees → ev Vs.G.T noExt 8 (idsOf idlLDiscs 6) trees = some (.bool true, []) := by
  intro trees h
  rw [Try.params6] at h
  obtain ⟨x0, _, rfl, k0, h⟩ := sh_cons (enc := (eSl false 1 (Tree.int .u8))) h (rd_slice (sz := 1) (enc := (Tree.int .u8)) Try.underlying22 (by kernel_rfl) (rd_int Try.underlying5) (fun _ => mkT_one (by simp [Try.underlying5]))) (fun _ => mkT_one (by simp [Try.underlying22]))
  obtain ⟨x1, _, rfl, k1, h⟩ := sh_cons (enc := (eSl false 1 (Tree.int .u8))) h (rd_slice (sz := 1) (enc := (Tree.int .u8)) Try.underlying22 (by kernel_rfl) (rd_int Try.underlying5) (fun _ => mkT_one (by simp [Try.underlying5]))) (fun _ => mkT_one (by simp [Try.underlying22]))
  obtain rfl := sh_nil h
  exact Vs.G.S332 0 _ (Vs.G.laws_FnDiscs_true k0 k1)
theorem liftedLDiscs (os : Os) (started : os.Started) (H : Type) (enc : TypeId × Value → H) :
    ReturnsInHanded {} Try.checked os 6 .any (Rows.fnDiscsSpec.pre6 enc Try.prog Try.f6 Rows.fnDiscsRow.domain false) (Rows.fnDiscsSpec.post enc Try.prog Try.f6 false true false false) := by
  refine law_lifted (C := Try.checked) (L := idlLDiscs) (T := Vs.G.T) (d := 8) (n := 3) (tb := 4) ownLDiscs laidLDiscs started (by kernel_rfl) Try.func6
    (ChangeSpec.witness6 (enc := enc) (C := Try.checked) false ⟨#[], #[.slice none 0 0, .slice none 0 0], []⟩ 8 (by kernel_rfl) (by kernel_rfl) (by kernel_rfl) (by kernel_rfl))
    (by kernel_rfl) rfl allLDiscs (by kernel_rfl) (by kernel_rfl) rfl Try.underlying4 rfl ?_ lawLDiscs
  intro ds hd
  match ds, hd with
  | [a0, a1], _ => exact ⟨rfl, rfl, rfl⟩
theorem fnDiscs_holds : Rows.FnDiscsSaid :=
  OpenClaim.holds_of_wide 6 Try.f6 rfl rfl rfl rfl rfl rfl rfl ⟨rfl, rfl, rfl, rfl, rfl⟩ rfl rfl rfl rfl rfl (by kernel_rfl) Try.func6 (by kernel_rfl)
    (of_decide_eq_true (by kernel_rfl)) (by unfold Func.isWrapper; first | (rw [if_pos (by decide +kernel)]; kernel_rfl) | (rw [if_neg (by decide +kernel)]; exact ⟨rfl, rfl⟩))
    (fun os started H enc _ => liftedLDiscs os started H enc)
#print axioms fnDiscs_holds
end Go.Proofs.Ytcodbjmlhojbkaa
