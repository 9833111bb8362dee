/- The Go law laws.FnRates returns true for every input and leaves its arguments as they were. Conditions: none beyond the row's own. -/
import Derived.Test.YtcodbjmlhojbkaaRows
import Derived.Test.YtcodbjmlhojbkaaSLRates1
import Derived.Test.YtcodbjmlhojbkaaV6
import Derived.Test.YtcodbjmlhojbkaaHRates
set_option maxRecDepth 100000
namespace Go.Proofs.Ytcodbjmlhojbkaa
open Go.ChangeShapes Go.WideShapes Go.ChangeAt Go.RowKit Go.Vs

theorem ownLRates : ownKnob Try.prog.godebug = none := by kernel_rfl
theorem laidLRates : laidOutB Try.prog = true := by kernel_rfl
def idlLRates : List (Nat × Nat) := [(3, 372), (8, 386), (9, 426), (10, 384), (11, 240), (12, 106), (13, 67), (39, 615), (40, 603), (41, 213), (42, 326), (43, 257), (44, 292), (45, 269), (46, 7), (63, 616), (64, 5), (72, 604), (73, 611)]
theorem allLRates : allOk Try.prog idlLRates Vs.G.T = true := by kernel_rfl
theorem lawLRates : ∀ trees, ShapedAll Try.prog 3 Try.f3.params.toList trees → ev Vs.G.T noExt 5 (idsOf idlLRates 3) trees = some (.bool true, []) := by
  intro trees h
  rw [Try.params3] at h
  obtain ⟨x0, _, rfl, k0, h⟩ := sh_cons (enc := (eSl false 1 (Tree.int .u8))) h (rd_slice (sz := 1) (enc := (Tree.int .u8)) Try.underlying22 (by kernel_rfl) (rd_int Try.underlying5) (fun _ => mkT_one (by simp [Try.underlying5]))) (fun _ => mkT_one (by simp [Try.underlying22]))
  obtain ⟨x1, _, rfl, k1, h⟩ := sh_cons (enc := (eSl false 1 (Tree.int .u8))) h (rd_slice (sz := 1) (enc := (Tree.int .u8)) Try.underlying22 (by kernel_rfl) (rd_int Try.underlying5) (fun _ => mkT_one (by simp [Try.underlying5]))) (fun _ => mkT_one (by simp [Try.underlying22]))
  obtain rfl := sh_nil h
  exact Vs.G.S372 0 _ (Vs.G.laws_FnRates_true k0 k1)
theorem liftedLRates (os : Os) (started : os.Started) (H : Type) (enc : TypeId × Value → H) :
    ReturnsInHanded {} Try.checked os 3 .any (Rows.fnRatesSpec.pre6 enc Try.prog Try.f3 Rows.fnRatesRow.domain false) (Rows.fnRatesSpec.post enc Try.prog Try.f3 false true false false) := by
  refine law_lifted (C := Try.checked) (L := idlLRates) (T := Vs.G.T) (d := 5) (n := 3) (tb := 4) ownLRates laidLRates started (by kernel_rfl) Try.func3
    (ChangeSpec.witness6 (enc := enc) (C := Try.checked) false ⟨#[], #[.slice none 0 0, .slice none 0 0], []⟩ 8 (by kernel_rfl) (by kernel_rfl) (by kernel_rfl) (by kernel_rfl))
    (by kernel_rfl) rfl allLRates (by kernel_rfl) (by kernel_rfl) rfl Try.underlying4 rfl ?_ lawLRates
  intro ds hd
  match ds, hd with
  | [a0, a1], _ => exact ⟨rfl, rfl, rfl⟩
theorem fnRates_holds : Rows.FnRatesSaid :=
  OpenClaim.holds_of_wide 3 Try.f3 rfl rfl rfl rfl rfl rfl rfl ⟨rfl, rfl, rfl, rfl, rfl⟩ rfl rfl rfl rfl rfl (by kernel_rfl) Try.func3 (by kernel_rfl)
    (of_decide_eq_true (by kernel_rfl)) (by unfold Func.isWrapper; first | (rw [if_pos (by decide +kernel)]; kernel_rfl) | (rw [if_neg (by decide +kernel)]; exact ⟨rfl, rfl⟩))
    (fun os started H enc _ => liftedLRates os started H enc)
#print axioms fnRates_holds
end Go.Proofs.Ytcodbjmlhojbkaa
