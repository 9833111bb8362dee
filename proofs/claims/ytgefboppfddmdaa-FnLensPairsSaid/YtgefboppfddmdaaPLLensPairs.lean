/- The Go law laws.FnLensPairs returns true for every input and leaves its arguments as they were. Conditions: none beyond the row's own. -/
import Derived.Test.YtgefboppfddmdaaRows
import Derived.Test.YtgefboppfddmdaaSLLensPairs1
import Derived.Test.YtgefboppfddmdaaV6
import Derived.Test.YtgefboppfddmdaaHLensB
set_option maxRecDepth 100000
namespace Go.Proofs.Ytgefboppfddmdaa
open Go.ChangeShapes Go.WideShapes Go.ChangeAt Go.RowKit Go.Vs

theorem ownLLensPairs : ownKnob Try.prog.godebug = none := by kernel_rfl
theorem laidLLensPairs : laidOutB Try.prog = true := by kernel_rfl
def idlLLensPairs : List (Nat × Nat) := [(3, 361), (8, 386), (9, 428), (10, 384), (11, 152), (12, 153), (13, 119), (62, 603), (63, 7), (64, 287), (65, 275), (66, 245), (67, 282), (68, 257), (97, 326), (98, 796), (100, 292), (105, 213), (125, 5), (126, 288), (133, 818), (134, 269)]
theorem allLLensPairs : allOk Try.prog idlLLensPairs Vs.G.T = true := by kernel_rfl
theorem lawLLensPairs : ∀ trees, ShapedAll Try.prog 3 Try.f3.params.toList trees → ev Vs.G.T noExt 9 (idsOf idlLLensPairs 3) trees = some (.bool true, []) := by
  intro trees h
  rw [Try.params3] at h
  obtain ⟨x0, _, rfl, k0, h⟩ := sh_cons (enc := (eSl false 1 (Tree.int .u8))) h (rd_slice (sz := 1) (enc := (Tree.int .u8)) Try.underlying22 (by kernel_rfl) (rd_int Try.underlying5) (fun _ => mkT_one (by simp [Try.underlying5]))) (fun _ => mkT_one (by simp [Try.underlying22]))
  obtain ⟨x1, _, rfl, k1, h⟩ := sh_cons (enc := (eSl false 1 (Tree.int .u8))) h (rd_slice (sz := 1) (enc := (Tree.int .u8)) Try.underlying22 (by kernel_rfl) (rd_int Try.underlying5) (fun _ => mkT_one (by simp [Try.underlying5]))) (fun _ => mkT_one (by simp [Try.underlying22]))
  obtain rfl := sh_nil h
  exact Vs.G.S361 0 _ (Vs.G.laws_FnLensPairs_true k0 k1)
theorem liftedLLensPairs (os : Os) (started : os.Started) (H : Type) (enc : TypeId × Value → H) :
    ReturnsInHanded {} Try.checked os 3 .any (Rows.fnLensPairsSpec.pre6 enc Try.prog Try.f3 Rows.fnLensPairsRow.domain false) (Rows.fnLensPairsSpec.post enc Try.prog Try.f3 false true false false) := by
  refine law_lifted (C := Try.checked) (L := idlLLensPairs) (T := Vs.G.T) (d := 9) (n := 3) (tb := 4) ownLLensPairs laidLLensPairs started (by kernel_rfl) Try.func3
    (ChangeSpec.witness6 (enc := enc) (C := Try.checked) false ⟨#[], #[.slice none 0 0, .slice none 0 0], []⟩ 8 (by kernel_rfl) (by kernel_rfl) (by kernel_rfl) (by kernel_rfl))
    (by kernel_rfl) rfl allLLensPairs (by kernel_rfl) (by kernel_rfl) rfl Try.underlying4 rfl ?_ lawLLensPairs
  intro ds hd
  match ds, hd with
  | [a0, a1], _ => exact ⟨rfl, rfl, rfl⟩
theorem fnLensPairs_holds : Rows.FnLensPairsSaid :=
  OpenClaim.holds_of_wide 3 Try.f3 rfl rfl rfl rfl rfl rfl rfl ⟨rfl, rfl, rfl, rfl, rfl⟩ rfl rfl rfl rfl rfl (by kernel_rfl) Try.func3 (by kernel_rfl)
    (of_decide_eq_true (by kernel_rfl)) (by unfold Func.isWrapper; first | (rw [if_pos (by decide +kernel)]; kernel_rfl) | (rw [if_neg (by decide +kernel)]; exact ⟨rfl, rfl⟩))
    (fun os started H enc _ => liftedLLensPairs os started H enc)
#print axioms fnLensPairs_holds
end Go.Proofs.Ytgefboppfddmdaa
