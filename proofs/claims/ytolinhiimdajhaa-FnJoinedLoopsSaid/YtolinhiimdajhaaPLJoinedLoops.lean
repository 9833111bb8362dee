/- The Go law laws.FnJoinedLoops returns true for every input and leaves its arguments as they were. Conditions: none beyond the row's own. -/
import Derived.Test.YtolinhiimdajhaaRows
import Derived.Test.YtolinhiimdajhaaSLJoinedLoops1
import Derived.Test.YtolinhiimdajhaaV6
import Derived.Test.YtolinhiimdajhaaHLJoinedLoops1
import Derived.Shelf.SlGeneric
import Derived.Shelf.SlicesE.Clone
import Derived.Ground.Names8Prog
import Derived.Shelf.Lay
import Derived.Shelf.Spec.SlicesGrow
import Derived.Ground.SlgnProg
import Derived.Test.YtolinhiimdajhaaC
import Derived.Test.YtolinhiimdajhaaLLJoinedLoops
set_option maxRecDepth 100000
namespace Go.Proofs.Ytolinhiimdajhaa
open Go.ChangeShapes Go.WideShapes Go.ChangeAt Go.RowKit Go.Vs

theorem ownLJoinedLoops : ownKnob Try.prog.godebug = none := by kernel_rfl
theorem laidLJoinedLoops : laidOutB Try.prog = true := by kernel_rfl
def idlLJoinedLoops : List (Nat × Nat) := [(7, 355), (25, 398), (54, 400), (55, 479), (56, 120), (57, 536), (58, 462), (59, 65), (60, 448), (61, 505), (62, 197), (63, 582), (64, 507), (65, 202), (66, 585), (67, 402), (83, 603), (87, 326), (95, 7), (98, 6), (99, 4), (100, 606), (103, 605), (115, 635), (116, 636), (117, 220), (118, 259), (119, 637), (120, 634), (121, 633), (122, 784), (123, 301), (124, 607), (125, 610), (126, 319), (127, 639), (145, 5), (149, 796), (150, 221), (151, 269), (152, 604), (153, 602), (154, 793), (166, 818), (167, 815)]
theorem allLJoinedLoops : allOk Try.prog idlLJoinedLoops Vs.G.T = true := by kernel_rfl
theorem soundXLJoinedLoops : Sound Try.prog (idsOf idlLJoinedLoops) ext := sound_extT [(122, 784), (167, 815)] rfl ⟨extOk_clone (u := 784) (sz := 1) (fun _ => rfl) (by kernel_rfl) (fun es h1 h2 => contract_clone (ety := 2) (fun ad n c news w hl hn hc h1 => (clone_any Try.lclone784 ((Try.prog.info? 2).get (by kernel_rfl)) (.int .i64 0) 1 8 (by kernel_rfl) (by kernel_rfl) (by kernel_rfl) (by kernel_rfl) rfl (by decide) Try.sizeOf2 ad n c news w hl (by simp only [maxLen]; omega) (by omega) hc h1)) (fun n c w => AnyE.slices_Clone_nil Try.lclone784 n c w) es h1 h2), extOk_grow (by kernel_rfl) (fun sz n h1 h2 => contract_grow (fun base n w h0 h1 => Calls.mono (Any8.slices_Grow_grow Try.lgrow ((Try.prog.info? 2).get (by kernel_rfl)) (.int .i64 0) (by kernel_rfl) (by kernel_rfl) (pos_one (by kernel_rfl)) base 0 0 n [] w (Nat.le_refl 0) (by omega) (grow_big h1 (by kernel_rfl)) (by omega) rfl (fun _ => rfl) (fun a _ j v hj => by simp at hj)) (fun e w' h => ⟨_, _, _, h.1, grow_size rfl (grownCap_ge _ _ _ _), h.2⟩)) sz n h1 h2), trivial⟩
theorem lawLJoinedLoops : ∀ trees, ShapedAll Try.prog 3 Try.f7.params.toList trees → ev Vs.G.T ext 7 (idsOf idlLJoinedLoops 7) trees = some (.bool true, []) := by
  intro trees h
  rw [Try.params7] at h
  obtain ⟨x0, _, rfl, k0, h⟩ := sh_cons (enc := (eSl false 1 (Tree.int .u8))) h (rd_slice (sz := 1) (enc := (Tree.int .u8)) Try.underlying22 (by kernel_rfl) (rd_int Try.underlying5) (fun _ => mkT_one (by simp [Try.underlying5]))) (fun _ => mkT_one (by simp [Try.underlying22]))
  obtain rfl := sh_nil h
  exact Vs.G.S355 0 _ (Vs.G.laws_FnJoinedLoops_true k0)
theorem liftedLJoinedLoops (os : Os) (started : os.Started) (H : Type) (enc : TypeId × Value → H) :
    ReturnsInHanded {} Try.checked os 7 .any (Rows.fnJoinedLoopsSpec.pre6 enc Try.prog Try.f7 Rows.fnJoinedLoopsRow.domain false) (Rows.fnJoinedLoopsSpec.post enc Try.prog Try.f7 false true false false) := by
  refine law_lifted (C := Try.checked) (L := idlLJoinedLoops) (T := Vs.G.T) (d := 7) (n := 3) (tb := 4) ownLJoinedLoops laidLJoinedLoops started (by kernel_rfl) Try.func7
    (ChangeSpec.witness6 (enc := enc) (C := Try.checked) false ⟨#[], #[.slice none 0 0], []⟩ 8 (by kernel_rfl) (by kernel_rfl) (by kernel_rfl) (by kernel_rfl))
    (by kernel_rfl) rfl allLJoinedLoops soundXLJoinedLoops (by kernel_rfl) (by kernel_rfl) rfl Try.underlying4 rfl ?_ lawLJoinedLoops
  intro ds hd
  match ds, hd with
  | [a0], _ => exact ⟨rfl, rfl, rfl⟩
theorem fnJoinedLoops_holds : Rows.FnJoinedLoopsSaid :=
  OpenClaim.holds_of_wide 7 Try.f7 rfl rfl rfl rfl rfl rfl rfl ⟨rfl, rfl, rfl, rfl, rfl⟩ rfl rfl rfl rfl rfl (by kernel_rfl) Try.func7 (by kernel_rfl)
    (of_decide_eq_true (by kernel_rfl)) (by unfold Func.isWrapper; first | (rw [if_pos (by decide +kernel)]; kernel_rfl) | (rw [if_neg (by decide +kernel)]; exact ⟨rfl, rfl⟩))
    (fun os started H enc _ => liftedLJoinedLoops os started H enc)
#print axioms fnJoinedLoops_holds
end Go.Proofs.Ytolinhiimdajhaa
