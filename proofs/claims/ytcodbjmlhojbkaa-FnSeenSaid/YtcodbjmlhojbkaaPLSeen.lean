/- The Go law laws.FnSeen returns true for every input and leaves its arguments as they were. Conditions: none beyond the row's own. -/
import Derived.Test.YtcodbjmlhojbkaaRows
import Derived.Test.YtcodbjmlhojbkaaSLSeen1
import Derived.Test.YtcodbjmlhojbkaaV6
import Derived.Test.YtcodbjmlhojbkaaHDisc
set_option maxRecDepth 100000
namespace Go.Proofs.Ytcodbjmlhojbkaa
open Go.ChangeShapes Go.WideShapes Go.ChangeAt Go.RowKit Go.Vs

theorem ownLSeen : ownKnob Try.prog.godebug = none := by kernel_rfl
theorem laidLSeen : laidOutB Try.prog = true := by kernel_rfl
def idlLSeen : List (Nat × Nat) := [(4, 373), (8, 386), (10, 384), (14, 425), (15, 178), (16, 144), (17, 388), (18, 176), (19, 385), (40, 603), (41, 213), (42, 326), (43, 257), (44, 292), (45, 269), (46, 7), (47, 606), (48, 262), (49, 304), (50, 294), (64, 5)]
theorem allLSeen : allOk Try.prog idlLSeen Vs.G.T = true := by kernel_rfl
theorem lawLSeen : ∀ trees, ShapedAll Try.prog 3 Try.f4.params.toList trees → ev Vs.G.T noExt 5 (idsOf idlLSeen 4) trees = some (.bool true, []) := by
  intro trees h
  rw [Try.params4] at h
  obtain ⟨x0, _, rfl, k0, h⟩ := sh_cons (enc := (eSl false 1 (Tree.int .u8))) h (rd_slice (sz := 1) (enc := (Tree.int .u8)) Try.underlying22 (by kernel_rfl) (rd_int Try.underlying5) (fun _ => mkT_one (by simp [Try.underlying5]))) (fun _ => mkT_one (by simp [Try.underlying22]))
  obtain ⟨x1, _, rfl, k1, h⟩ := sh_cons (enc := (eSl false 1 (Tree.int .u8))) h (rd_slice (sz := 1) (enc := (Tree.int .u8)) Try.underlying22 (by kernel_rfl) (rd_int Try.underlying5) (fun _ => mkT_one (by simp [Try.underlying5]))) (fun _ => mkT_one (by simp [Try.underlying22]))
  obtain rfl := sh_nil h
  exact Vs.G.S373 0 _ (Vs.G.laws_FnSeen_true k0 k1)
theorem liftedLSeen (os : Os) (started : os.Started) (H : Type) (enc : TypeId × Value → H) :
    ReturnsInHanded {} Try.checked os 4 .any (Rows.fnSeenSpec.pre6 enc Try.prog Try.f4 Rows.fnSeenRow.domain false) (Rows.fnSeenSpec.post enc Try.prog Try.f4 false true false false) := by
  refine law_lifted (C := Try.checked) (L := idlLSeen) (T := Vs.G.T) (d := 5) (n := 3) (tb := 4) ownLSeen laidLSeen started (by kernel_rfl) Try.func4
    (ChangeSpec.witness6 (enc := enc) (C := Try.checked) false ⟨#[], #[.slice none 0 0, .slice none 0 0], []⟩ 8 (by kernel_rfl) (by kernel_rfl) (by kernel_rfl) (by kernel_rfl))
    (by kernel_rfl) rfl allLSeen (by kernel_rfl) (by kernel_rfl) rfl Try.underlying4 rfl ?_ lawLSeen
  intro ds hd
  match ds, hd with
  | [a0, a1], _ => exact ⟨rfl, rfl, rfl⟩
theorem fnSeen_holds : Rows.FnSeenSaid :=
  OpenClaim.holds_of_wide 4 Try.f4 rfl rfl rfl rfl rfl rfl rfl ⟨rfl, rfl, rfl, rfl, rfl⟩ rfl rfl rfl rfl rfl (by kernel_rfl) Try.func4 (by kernel_rfl)
    (of_decide_eq_true (by kernel_rfl)) (by unfold Func.isWrapper; first | (rw [if_pos (by decide +kernel)]; kernel_rfl) | (rw [if_neg (by decide +kernel)]; exact ⟨rfl, rfl⟩))
    (fun os started H enc _ => liftedLSeen os started H enc)
#print axioms fnSeen_holds
end Go.Proofs.Ytcodbjmlhojbkaa
