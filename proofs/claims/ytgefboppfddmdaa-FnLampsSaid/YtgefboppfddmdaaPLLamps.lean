/- The Go law laws.FnLamps returns true for every input and leaves its arguments as they were. Conditions: none beyond the row's own. -/
import Derived.Test.YtgefboppfddmdaaRows
import Derived.Test.YtgefboppfddmdaaSLLamps1
import Derived.Test.YtgefboppfddmdaaV6
import Derived.Test.YtgefboppfddmdaaHLampsB
set_option maxRecDepth 100000
namespace Go.Proofs.Ytgefboppfddmdaa
open Go.ChangeShapes Go.WideShapes Go.ChangeAt Go.RowKit Go.Vs

theorem ownLLamps : ownKnob Try.prog.godebug = none := by kernel_rfl
theorem laidLLamps : laidOutB Try.prog = true := by kernel_rfl
def idlLLamps : List (Nat × Nat) := [(7, 358), (14, 398), (26, 400), (55, 470), (56, 86), (57, 518), (58, 461), (59, 63), (60, 447), (61, 401), (62, 603), (63, 7), (84, 273), (88, 792), (90, 678), (95, 6), (96, 4), (97, 326), (98, 796), (101, 605), (117, 689), (118, 691), (119, 285), (120, 258), (121, 696), (122, 698), (123, 699), (124, 64), (125, 5), (132, 27), (133, 818), (137, 286), (138, 695), (139, 31)]
theorem allLLamps : allOk Try.prog idlLLamps Vs.G.T = true := by kernel_rfl
theorem lawLLamps : ∀ trees, ShapedAll Try.prog 3 Try.f7.params.toList trees → ev Vs.G.T noExt 9 (idsOf idlLLamps 7) trees = some (.bool true, []) := by
  intro trees h
  rw [Try.params7] at h
  obtain ⟨x0, _, rfl, k0, h⟩ := sh_cons (enc := (eSl false 1 (Tree.int .u8))) h (rd_slice (sz := 1) (enc := (Tree.int .u8)) Try.underlying22 (by kernel_rfl) (rd_int Try.underlying5) (fun _ => mkT_one (by simp [Try.underlying5]))) (fun _ => mkT_one (by simp [Try.underlying22]))
  obtain rfl := sh_nil h
  exact Vs.G.S358 0 _ (Vs.G.laws_FnLamps_true k0)
theorem liftedLLamps (os : Os) (started : os.Started) (H : Type) (enc : TypeId × Value → H) :
    ReturnsInHanded {} Try.checked os 7 .any (Rows.fnLampsSpec.pre6 enc Try.prog Try.f7 Rows.fnLampsRow.domain false) (Rows.fnLampsSpec.post enc Try.prog Try.f7 false true false false) := by
  refine law_lifted (C := Try.checked) (L := idlLLamps) (T := Vs.G.T) (d := 9) (n := 3) (tb := 4) ownLLamps laidLLamps started (by kernel_rfl) Try.func7
    (ChangeSpec.witness6 (enc := enc) (C := Try.checked) false ⟨#[], #[.slice none 0 0], []⟩ 8 (by kernel_rfl) (by kernel_rfl) (by kernel_rfl) (by kernel_rfl))
    (by kernel_rfl) rfl allLLamps (by kernel_rfl) (by kernel_rfl) rfl Try.underlying4 rfl ?_ lawLLamps
  intro ds hd
  match ds, hd with
  | [a0], _ => exact ⟨rfl, rfl, rfl⟩
theorem fnLamps_holds : Rows.FnLampsSaid :=
  OpenClaim.holds_of_wide 7 Try.f7 rfl rfl rfl rfl rfl rfl rfl ⟨rfl, rfl, rfl, rfl, rfl⟩ rfl rfl rfl rfl rfl (by kernel_rfl) Try.func7 (by kernel_rfl)
    (of_decide_eq_true (by kernel_rfl)) (by unfold Func.isWrapper; first | (rw [if_pos (by decide +kernel)]; kernel_rfl) | (rw [if_neg (by decide +kernel)]; exact ⟨rfl, rfl⟩))
    (fun os started H enc _ => liftedLLamps os started H enc)
#print axioms fnLamps_holds
end Go.Proofs.Ytgefboppfddmdaa
