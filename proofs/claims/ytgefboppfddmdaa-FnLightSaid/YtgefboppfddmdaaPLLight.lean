/- The Go law laws.FnLight returns true for every input and leaves its arguments as they were. Conditions: none beyond the row's own. -/
import Derived.Test.YtgefboppfddmdaaRows
import Derived.Test.YtgefboppfddmdaaSLLight2
import Derived.Test.YtgefboppfddmdaaV6
import Derived.Test.YtgefboppfddmdaaHBright
set_option maxRecDepth 100000
namespace Go.Proofs.Ytgefboppfddmdaa
open Go.ChangeShapes Go.WideShapes Go.ChangeAt Go.RowKit Go.Vs

theorem ownLLight : ownKnob Try.prog.godebug = none := by kernel_rfl
theorem laidLLight : laidOutB Try.prog = true := by kernel_rfl
def idlLLight : List (Nat × Nat) := [(6, 363), (14, 398), (37, 481), (38, 132), (39, 542), (40, 459), (41, 59), (42, 444), (43, 467), (44, 83), (45, 515), (46, 460), (47, 60), (48, 445), (49, 464), (50, 68), (51, 450), (52, 492), (53, 175), (54, 565), (62, 603), (63, 7), (94, 690), (95, 6), (96, 4), (97, 326), (98, 796), (99, 133), (100, 292), (101, 605), (102, 616), (103, 687), (104, 688), (105, 213), (106, 274), (107, 280), (108, 254), (109, 617), (110, 686), (111, 694), (112, 606), (113, 604), (114, 693), (115, 692), (116, 697), (125, 5), (133, 818), (134, 269), (135, 611), (136, 614), (140, 615)]
theorem allLLight : allOk Try.prog idlLLight Vs.G.T = true := by kernel_rfl
theorem lawLLight : ∀ trees, ShapedAll Try.prog 3 Try.f6.params.toList trees → ev Vs.G.T noExt 7 (idsOf idlLLight 6) trees = some (.bool true, []) := by
  intro trees h
  rw [Try.params6] at h
  obtain ⟨x0, _, rfl, k0, h⟩ := sh_cons (enc := (eSl false 1 (Tree.int .u8))) h (rd_slice (sz := 1) (enc := (Tree.int .u8)) Try.underlying22 (by kernel_rfl) (rd_int Try.underlying5) (fun _ => mkT_one (by simp [Try.underlying5]))) (fun _ => mkT_one (by simp [Try.underlying22]))
  obtain rfl := sh_nil h
  exact Vs.G.S363 0 _ (Vs.G.laws_FnLight_true k0)
theorem liftedLLight (os : Os) (started : os.Started) (H : Type) (enc : TypeId × Value → H) :
    ReturnsInHanded {} Try.checked os 6 .any (Rows.fnLightSpec.pre6 enc Try.prog Try.f6 Rows.fnLightRow.domain false) (Rows.fnLightSpec.post enc Try.prog Try.f6 false true false false) := by
  refine law_lifted (C := Try.checked) (L := idlLLight) (T := Vs.G.T) (d := 7) (n := 3) (tb := 4) ownLLight laidLLight started (by kernel_rfl) Try.func6
    (ChangeSpec.witness6 (enc := enc) (C := Try.checked) false ⟨#[], #[.slice none 0 0], []⟩ 8 (by kernel_rfl) (by kernel_rfl) (by kernel_rfl) (by kernel_rfl))
    (by kernel_rfl) rfl allLLight (by kernel_rfl) (by kernel_rfl) rfl Try.underlying4 rfl ?_ lawLLight
  intro ds hd
  match ds, hd with
  | [a0], _ => exact ⟨rfl, rfl, rfl⟩
theorem fnLight_holds : Rows.FnLightSaid :=
  OpenClaim.holds_of_wide 6 Try.f6 rfl rfl rfl rfl rfl rfl rfl ⟨rfl, rfl, rfl, rfl, rfl⟩ rfl rfl rfl rfl rfl (by kernel_rfl) Try.func6 (by kernel_rfl)
    (of_decide_eq_true (by kernel_rfl)) (by unfold Func.isWrapper; first | (rw [if_pos (by decide +kernel)]; kernel_rfl) | (rw [if_neg (by decide +kernel)]; exact ⟨rfl, rfl⟩))
    (fun os started H enc _ => liftedLLight os started H enc)
#print axioms fnLight_holds
end Go.Proofs.Ytgefboppfddmdaa
