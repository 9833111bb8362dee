/- The Go law laws.FnLensFits returns true for every input and leaves its arguments as they were. Conditions: none beyond the row's own. -/
import Derived.Test.YtiefnapeghkjnaaRows
import Derived.Test.YtiefnapeghkjnaaSLLensFits2
import Derived.Test.YtiefnapeghkjnaaV6
import Derived.Test.YtiefnapeghkjnaaHLLensFits1
set_option maxRecDepth 100000
namespace Go.Proofs.Ytiefnapeghkjnaa
open Go.ChangeShapes Go.WideShapes Go.ChangeAt Go.RowKit Go.Vs

theorem ownLLensFits : ownKnob Try.prog.godebug = none := by kernel_rfl
theorem laidLLensFits : laidOutB Try.prog = true := by kernel_rfl
def idlLLensFits : List (Nat × Nat) := [(8, 360), (11, 398), (23, 400), (56, 503), (57, 194), (58, 579), (59, 101), (60, 524), (61, 480), (62, 128), (63, 539), (64, 476), (65, 109), (66, 530), (67, 399), (75, 218), (91, 603), (95, 6), (97, 7), (102, 4), (103, 326), (105, 605), (107, 796), (131, 818), (138, 670), (139, 674), (140, 673), (141, 270), (142, 322), (143, 314), (144, 681), (145, 682), (146, 676), (147, 685), (148, 675), (149, 684), (150, 672), (151, 680), (154, 802), (162, 219), (183, 5), (207, 679), (208, 683), (209, 275), (210, 287), (211, 281), (212, 824), (230, 288)]
theorem allLLensFits : allOk Try.prog idlLLensFits Vs.G.T = true := by kernel_rfl
theorem soundXLLensFits : Sound Try.prog (idsOf idlLLensFits) ext := sound_extT [] rfl trivial
theorem lawLLensFits : ∀ trees, ShapedAll Try.prog 3 Try.f8.params.toList trees → ev Vs.G.T ext 11 (idsOf idlLLensFits 8) trees = some (.bool true, []) := by
  intro trees h
  rw [Try.params8] at h
  obtain ⟨x0, _, rfl, k0, h⟩ := sh_cons (enc := (eSl false 1 (Tree.int .u8))) h (rd_slice (sz := 1) (enc := (Tree.int .u8)) Try.underlying22 (by kernel_rfl) (rd_int Try.underlying5) (fun _ => mkT_one (by simp [Try.underlying5]))) (fun _ => mkT_one (by simp [Try.underlying22]))
  obtain rfl := sh_nil h
  exact Vs.G.S360 0 _ (Vs.G.laws_FnLensFits_true k0)
theorem liftedLLensFits (os : Os) (started : os.Started) (H : Type) (enc : TypeId × Value → H) :
    ReturnsInHanded {} Try.checked os 8 .any (Rows.fnLensFitsSpec.pre6 enc Try.prog Try.f8 Rows.fnLensFitsRow.domain false) (Rows.fnLensFitsSpec.post enc Try.prog Try.f8 false true false false) := by
  refine law_lifted (C := Try.checked) (L := idlLLensFits) (T := Vs.G.T) (d := 11) (n := 3) (tb := 4) ownLLensFits laidLLensFits started (by kernel_rfl) Try.func8
    (ChangeSpec.witness6 (enc := enc) (C := Try.checked) false ⟨#[], #[.slice none 0 0], []⟩ 8 (by kernel_rfl) (by kernel_rfl) (by kernel_rfl) (by kernel_rfl))
    (by kernel_rfl) rfl allLLensFits soundXLLensFits (by kernel_rfl) (by kernel_rfl) rfl Try.underlying4 rfl ?_ lawLLensFits
  intro ds hd
  match ds, hd with
  | [a0], _ => exact ⟨rfl, rfl, rfl⟩
theorem fnLensFits_holds : Rows.FnLensFitsSaid :=
  OpenClaim.holds_of_wide 8 Try.f8 rfl rfl rfl rfl rfl rfl rfl ⟨rfl, rfl, rfl, rfl, rfl⟩ rfl rfl rfl rfl rfl (by kernel_rfl) Try.func8 (by kernel_rfl)
    (of_decide_eq_true (by kernel_rfl)) (by unfold Func.isWrapper; first | (rw [if_pos (by decide +kernel)]; kernel_rfl) | (rw [if_neg (by decide +kernel)]; exact ⟨rfl, rfl⟩))
    (fun os started H enc _ => liftedLLensFits os started H enc)
#print axioms fnLensFits_holds
end Go.Proofs.Ytiefnapeghkjnaa
