/- The Go law laws.FnRacks returns true for every input and leaves its arguments as they were. Conditions: none beyond the row's own. -/
import Derived.Test.YtoeekebkinljpaaRows
import Derived.Test.YtoeekebkinljpaaSLRacks1
import Derived.Test.YtoeekebkinljpaaV6
import Derived.Test.YtoeekebkinljpaaHRacksC
set_option maxRecDepth 100000
namespace Go.Proofs.Ytoeekebkinljpaa
open Go.ChangeShapes Go.WideShapes Go.ChangeAt Go.RowKit Go.Vs

theorem ownLRacks : ownKnob Try.prog.godebug = none := by kernel_rfl
theorem laidLRacks : laidOutB Try.prog = true := by kernel_rfl
def idlLRacks : List (Nat × Nat) := [(6, 371), (8, 398), (40, 472), (41, 94), (42, 520), (43, 168), (44, 557), (45, 71), (46, 452), (47, 487), (48, 162), (49, 553), (50, 400), (51, 236), (52, 598), (63, 603), (68, 326), (70, 605), (84, 6), (86, 7), (87, 707), (88, 714), (89, 4), (90, 299), (91, 26), (92, 259), (93, 711), (94, 715), (95, 604), (96, 708), (97, 710), (98, 807), (99, 237), (103, 709), (107, 716), (109, 269), (111, 5), (112, 829)]
theorem allLRacks : allOk Try.prog idlLRacks Vs.G.T = true := by kernel_rfl
theorem lawLRacks : ∀ trees, ShapedAll Try.prog 3 Try.f6.params.toList trees → ev Vs.G.T noExt 8 (idsOf idlLRacks 6) trees = some (.bool true, []) := by
  intro trees h
  rw [Try.params6] at h
  obtain ⟨x0, _, rfl, k0, h⟩ := sh_cons (enc := (eSl false 1 (Tree.int .u8))) h (rd_slice (sz := 1) (enc := (Tree.int .u8)) Try.underlying22 (by kernel_rfl) (rd_int Try.underlying5) (fun _ => mkT_one (by simp [Try.underlying5]))) (fun _ => mkT_one (by simp [Try.underlying22]))
  obtain rfl := sh_nil h
  exact Vs.G.S371 0 _ (Vs.G.laws_FnRacks_true k0)
theorem liftedLRacks (os : Os) (started : os.Started) (H : Type) (enc : TypeId × Value → H) :
    ReturnsInHanded {} Try.checked os 6 .any (Rows.fnRacksSpec.pre6 enc Try.prog Try.f6 Rows.fnRacksRow.domain false) (Rows.fnRacksSpec.post enc Try.prog Try.f6 false true false false) := by
  refine law_lifted (C := Try.checked) (L := idlLRacks) (T := Vs.G.T) (d := 8) (n := 3) (tb := 4) ownLRacks laidLRacks started (by kernel_rfl) Try.func6
    (ChangeSpec.witness6 (enc := enc) (C := Try.checked) false ⟨#[], #[.slice none 0 0], []⟩ 8 (by kernel_rfl) (by kernel_rfl) (by kernel_rfl) (by kernel_rfl))
    (by kernel_rfl) rfl allLRacks (by kernel_rfl) (by kernel_rfl) rfl Try.underlying4 rfl ?_ lawLRacks
  intro ds hd
  match ds, hd with
  | [a0], _ => exact ⟨rfl, rfl, rfl⟩
theorem fnRacks_holds : Rows.FnRacksSaid :=
  OpenClaim.holds_of_wide 6 Try.f6 rfl rfl rfl rfl rfl rfl rfl ⟨rfl, rfl, rfl, rfl, rfl⟩ rfl rfl rfl rfl rfl (by kernel_rfl) Try.func6 (by kernel_rfl)
    (of_decide_eq_true (by kernel_rfl)) (by unfold Func.isWrapper; first | (rw [if_pos (by decide +kernel)]; kernel_rfl) | (rw [if_neg (by decide +kernel)]; exact ⟨rfl, rfl⟩))
    (fun os started H enc _ => liftedLRacks os started H enc)
#print axioms fnRacks_holds
end Go.Proofs.Ytoeekebkinljpaa
