/- The Go law laws.FnSeenAtOnce returns true for every input and leaves its arguments as they were. Conditions: none beyond the row's own. -/
import Derived.Test.YtcbacahinmncaaaRows
import Derived.Test.YtcbacahinmncaaaSLSeenAtOnce1
import Derived.Test.YtcbacahinmncaaaV6
import Derived.Test.YtcbacahinmncaaaHFramesB
set_option maxRecDepth 100000
namespace Go.Proofs.Ytcbacahinmncaaa
open Go.ChangeShapes Go.WideShapes Go.ChangeAt Go.RowKit Go.Vs

theorem ownLSeenAtOnce : ownKnob Try.prog.godebug = none := by kernel_rfl
theorem laidLSeenAtOnce : laidOutB Try.prog = true := by kernel_rfl
def idlLSeenAtOnce : List (Nat × Nat) := [(7, 374), (36, 398), (37, 474), (38, 105), (39, 528), (40, 56), (41, 443), (42, 131), (43, 541), (44, 201), (45, 584), (46, 177), (60, 214), (63, 603), (65, 7), (78, 605), (86, 326), (96, 729), (97, 267), (98, 268), (99, 725), (100, 726), (101, 606), (102, 247), (103, 303), (104, 727), (105, 292), (106, 318), (107, 616), (108, 728), (109, 723), (110, 724), (111, 6), (112, 4), (114, 801), (115, 215), (116, 5), (135, 269), (136, 604), (137, 611), (138, 823)]
theorem allLSeenAtOnce : allOk Try.prog idlLSeenAtOnce Vs.G.T = true := by kernel_rfl
theorem lawLSeenAtOnce : ∀ trees, ShapedAll Try.prog 3 Try.f7.params.toList trees → ev Vs.G.T noExt 8 (idsOf idlLSeenAtOnce 7) trees = some (.bool true, []) := by
  intro trees h
  rw [Try.params7] at h
  obtain ⟨x0, _, rfl, k0, h⟩ := sh_cons (enc := (eSl false 1 (Tree.int .u8))) h (rd_slice (sz := 1) (enc := (Tree.int .u8)) Try.underlying22 (by kernel_rfl) (rd_int Try.underlying5) (fun _ => mkT_one (by simp [Try.underlying5]))) (fun _ => mkT_one (by simp [Try.underlying22]))
  obtain rfl := sh_nil h
  exact Vs.G.S374 0 _ (Vs.G.laws_FnSeenAtOnce_true k0)
theorem liftedLSeenAtOnce (os : Os) (started : os.Started) (H : Type) (enc : TypeId × Value → H) :
    ReturnsInHanded {} Try.checked os 7 .any (Rows.fnSeenAtOnceSpec.pre6 enc Try.prog Try.f7 Rows.fnSeenAtOnceRow.domain false) (Rows.fnSeenAtOnceSpec.post enc Try.prog Try.f7 false true false false) := by
  refine law_lifted (C := Try.checked) (L := idlLSeenAtOnce) (T := Vs.G.T) (d := 8) (n := 3) (tb := 4) ownLSeenAtOnce laidLSeenAtOnce started (by kernel_rfl) Try.func7
    (ChangeSpec.witness6 (enc := enc) (C := Try.checked) false ⟨#[], #[.slice none 0 0], []⟩ 8 (by kernel_rfl) (by kernel_rfl) (by kernel_rfl) (by kernel_rfl))
    (by kernel_rfl) rfl allLSeenAtOnce (by kernel_rfl) (by kernel_rfl) rfl Try.underlying4 rfl ?_ lawLSeenAtOnce
  intro ds hd
  match ds, hd with
  | [a0], _ => exact ⟨rfl, rfl, rfl⟩
theorem fnSeenAtOnce_holds : Rows.FnSeenAtOnceSaid :=
  OpenClaim.holds_of_wide 7 Try.f7 rfl rfl rfl rfl rfl rfl rfl ⟨rfl, rfl, rfl, rfl, rfl⟩ rfl rfl rfl rfl rfl (by kernel_rfl) Try.func7 (by kernel_rfl)
    (of_decide_eq_true (by kernel_rfl)) (by unfold Func.isWrapper; first | (rw [if_pos (by decide +kernel)]; kernel_rfl) | (rw [if_neg (by decide +kernel)]; exact ⟨rfl, rfl⟩))
    (fun os started H enc _ => liftedLSeenAtOnce os started H enc)
#print axioms fnSeenAtOnce_holds
end Go.Proofs.Ytcbacahinmncaaa
