/- The Go law laws.FnPoses returns true for every input and leaves its arguments as they were. Conditions: none beyond the row's own. -/
import Derived.Test.YtolinhiimdajhaaRows
import Derived.Test.YtolinhiimdajhaaSLPoses2
import Derived.Test.YtolinhiimdajhaaV6
import Derived.Test.YtolinhiimdajhaaHLPoses1
import Derived.Shelf.SlGeneric
import Derived.Shelf.SlicesE.Clone
import Derived.Ground.SlgnProg
import Derived.Test.YtolinhiimdajhaaC
import Derived.Test.YtolinhiimdajhaaLLPoses
set_option maxRecDepth 100000
namespace Go.Proofs.Ytolinhiimdajhaa
open Go.ChangeShapes Go.WideShapes Go.ChangeAt Go.RowKit Go.Vs

theorem ownLPoses : ownKnob Try.prog.godebug = none := by kernel_rfl
theorem laidLPoses : laidOutB Try.prog = true := by kernel_rfl
def idlLPoses : List (Nat × Nat) := [(5, 369), (25, 398), (26, 489), (27, 164), (28, 555), (29, 488), (30, 163), (31, 554), (32, 484), (33, 143), (34, 546), (35, 475), (36, 108), (37, 529), (38, 491), (39, 561), (40, 172), (41, 225), (42, 595), (43, 216), (44, 592), (83, 603), (87, 326), (95, 7), (97, 631), (98, 6), (99, 4), (100, 606), (101, 251), (102, 632), (103, 605), (104, 626), (105, 627), (106, 297), (107, 628), (108, 624), (109, 625), (110, 630), (111, 813), (112, 804), (113, 226), (114, 787), (123, 301), (125, 610), (145, 5), (147, 629), (148, 826), (153, 602)]
theorem allLPoses : allOk Try.prog idlLPoses Vs.G.T = true := by kernel_rfl
theorem soundXLPoses : Sound Try.prog (idsOf idlLPoses) ext := sound_extT [(114, 787)] rfl ⟨extOk_clone (u := 787) (sz := 2) (fun _ => rfl) (by kernel_rfl) (fun es h1 h2 => contract_clone (ety := 67) (fun ad n c news w hl hn hc h1 => (clone_any Try.lclone787 ((Try.prog.info? 67).get (by kernel_rfl)) (.agg #[.int .i64 0, .int .i64 0]) 2 16 (by kernel_rfl) (by kernel_rfl) (by kernel_rfl) (by kernel_rfl) rfl (by decide) Try.sizeOf67 ad n c news w hl (by simp only [maxLen]; omega) (by omega) hc h1)) (fun n c w => AnyE.slices_Clone_nil Try.lclone787 n c w) es h1 h2), trivial⟩
theorem lawLPoses : ∀ trees, ShapedAll Try.prog 3 Try.f5.params.toList trees → ev Vs.G.T ext 8 (idsOf idlLPoses 5) trees = some (.bool true, []) := by
  intro trees h
  rw [Try.params5] at h
  obtain ⟨x0, _, rfl, k0, h⟩ := sh_cons (enc := (eSl false 1 (Tree.int .u8))) h (rd_slice (sz := 1) (enc := (Tree.int .u8)) Try.underlying22 (by kernel_rfl) (rd_int Try.underlying5) (fun _ => mkT_one (by simp [Try.underlying5]))) (fun _ => mkT_one (by simp [Try.underlying22]))
  obtain rfl := sh_nil h
  exact Vs.G.S369 0 _ (Vs.G.laws_FnPoses_true k0)
theorem liftedLPoses (os : Os) (started : os.Started) (H : Type) (enc : TypeId × Value → H) :
    ReturnsInHanded {} Try.checked os 5 .any (Rows.fnPosesSpec.pre6 enc Try.prog Try.f5 Rows.fnPosesRow.domain false) (Rows.fnPosesSpec.post enc Try.prog Try.f5 false true false false) := by
  refine law_lifted (C := Try.checked) (L := idlLPoses) (T := Vs.G.T) (d := 8) (n := 3) (tb := 4) ownLPoses laidLPoses started (by kernel_rfl) Try.func5
    (ChangeSpec.witness6 (enc := enc) (C := Try.checked) false ⟨#[], #[.slice none 0 0], []⟩ 8 (by kernel_rfl) (by kernel_rfl) (by kernel_rfl) (by kernel_rfl))
    (by kernel_rfl) rfl allLPoses soundXLPoses (by kernel_rfl) (by kernel_rfl) rfl Try.underlying4 rfl ?_ lawLPoses
  intro ds hd
  match ds, hd with
  | [a0], _ => exact ⟨rfl, rfl, rfl⟩
theorem fnPoses_holds : Rows.FnPosesSaid :=
  OpenClaim.holds_of_wide 5 Try.f5 rfl rfl rfl rfl rfl rfl rfl ⟨rfl, rfl, rfl, rfl, rfl⟩ rfl rfl rfl rfl rfl (by kernel_rfl) Try.func5 (by kernel_rfl)
    (of_decide_eq_true (by kernel_rfl)) (by unfold Func.isWrapper; first | (rw [if_pos (by decide +kernel)]; kernel_rfl) | (rw [if_neg (by decide +kernel)]; exact ⟨rfl, rfl⟩))
    (fun os started H enc _ => liftedLPoses os started H enc)
#print axioms fnPoses_holds
end Go.Proofs.Ytolinhiimdajhaa
