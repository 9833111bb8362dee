/- The Go law laws.FnActs returns true for every input and leaves its arguments as they were. Conditions: none beyond the row's own. -/
import Derived.Test.YtolinhiimdajhaaRows
import Derived.Test.YtolinhiimdajhaaSLActs2
import Derived.Test.YtolinhiimdajhaaV6
import Derived.Test.YtolinhiimdajhaaHLActs1
import Derived.Shelf.SlGeneric
import Derived.Shelf.SlicesE.Clone
import Derived.Ground.SlgnProg
import Derived.Test.YtolinhiimdajhaaC
import Derived.Test.YtolinhiimdajhaaLLActs
set_option maxRecDepth 100000
namespace Go.Proofs.Ytolinhiimdajhaa
open Go.ChangeShapes Go.WideShapes Go.ChangeAt Go.RowKit Go.Vs

theorem ownLActs : ownKnob Try.prog.godebug = none := by kernel_rfl
theorem laidLActs : laidOutB Try.prog = true := by kernel_rfl
def idlLActs : List (Nat × Nat) := [(8, 327), (25, 398), (68, 495), (69, 183), (70, 570), (71, 155), (72, 551), (73, 494), (74, 180), (75, 569), (76, 506), (77, 198), (78, 583), (79, 403), (80, 563), (81, 404), (83, 603), (87, 326), (95, 7), (98, 6), (99, 4), (103, 605), (128, 736), (129, 228), (130, 279), (131, 741), (132, 740), (133, 797), (134, 156), (135, 789), (136, 785), (137, 8), (138, 3), (139, 739), (145, 5), (155, 737), (156, 2), (157, 1), (158, 738), (159, 742), (160, 735), (161, 819), (162, 809), (168, 116), (169, 533), (170, 832), (171, 613), (172, 612)]
theorem allLActs : allOk Try.prog idlLActs Vs.G.T = true := by kernel_rfl
theorem soundXLActs : Sound Try.prog (idsOf idlLActs) ext := sound_extT [(135, 789), (136, 785)] rfl ⟨extOk_clone (u := 789) (sz := 1) (fun _ => rfl) (by kernel_rfl) (fun es h1 h2 => contract_clone (ety := 9) (fun ad n c news w hl hn hc h1 => (clone_any Try.lclone789 ((Try.prog.info? 9).get (by kernel_rfl)) (.string ⟨#[]⟩) 1 16 (by kernel_rfl) (by kernel_rfl) (by kernel_rfl) (by kernel_rfl) rfl (by decide) Try.sizeOf9 ad n c news w hl (by simp only [maxLen]; omega) (by omega) hc h1)) (fun n c w => AnyE.slices_Clone_nil Try.lclone789 n c w) es h1 h2), extOk_clone (u := 785) (sz := 4) (fun _ => rfl) (by kernel_rfl) (fun es h1 h2 => contract_clone (ety := 134) (fun ad n c news w hl hn hc h1 => (clone_any Try.lclone785 ((Try.prog.info? 134).get (by kernel_rfl)) (.agg #[.int .i64 0, .string ⟨#[]⟩, .string ⟨#[]⟩, .int .i64 0]) 4 48 (by kernel_rfl) (by kernel_rfl) (by kernel_rfl) (by kernel_rfl) rfl (by decide) Try.sizeOf134 ad n c news w hl (by simp only [maxLen]; omega) (by omega) hc h1)) (fun n c w => AnyE.slices_Clone_nil Try.lclone785 n c w) es h1 h2), trivial⟩
theorem lawLActs : ∀ trees, ShapedAll Try.prog 3 Try.f8.params.toList trees → ev Vs.G.T ext 8 (idsOf idlLActs 8) trees = some (.bool true, []) := by
  intro trees h
  rw [Try.params8] at h
  obtain ⟨x0, _, rfl, k0, h⟩ := sh_cons (enc := (eSl false 1 (Tree.int .u8))) h (rd_slice (sz := 1) (enc := (Tree.int .u8)) Try.underlying22 (by kernel_rfl) (rd_int Try.underlying5) (fun _ => mkT_one (by simp [Try.underlying5]))) (fun _ => mkT_one (by simp [Try.underlying22]))
  obtain rfl := sh_nil h
  exact Vs.G.S327 0 _ (Vs.G.laws_FnActs_true k0)
theorem liftedLActs (os : Os) (started : os.Started) (H : Type) (enc : TypeId × Value → H) :
    ReturnsInHanded {} Try.checked os 8 .any (Rows.fnActsSpec.pre6 enc Try.prog Try.f8 Rows.fnActsRow.domain false) (Rows.fnActsSpec.post enc Try.prog Try.f8 false true false false) := by
  refine law_lifted (C := Try.checked) (L := idlLActs) (T := Vs.G.T) (d := 8) (n := 3) (tb := 4) ownLActs laidLActs started (by kernel_rfl) Try.func8
    (ChangeSpec.witness6 (enc := enc) (C := Try.checked) false ⟨#[], #[.slice none 0 0], []⟩ 8 (by kernel_rfl) (by kernel_rfl) (by kernel_rfl) (by kernel_rfl))
    (by kernel_rfl) rfl allLActs soundXLActs (by kernel_rfl) (by kernel_rfl) rfl Try.underlying4 rfl ?_ lawLActs
  intro ds hd
  match ds, hd with
  | [a0], _ => exact ⟨rfl, rfl, rfl⟩
theorem fnActs_holds : Rows.FnActsSaid :=
  OpenClaim.holds_of_wide 8 Try.f8 rfl rfl rfl rfl rfl rfl rfl ⟨rfl, rfl, rfl, rfl, rfl⟩ rfl rfl rfl rfl rfl (by kernel_rfl) Try.func8 (by kernel_rfl)
    (of_decide_eq_true (by kernel_rfl)) (by unfold Func.isWrapper; first | (rw [if_pos (by decide +kernel)]; kernel_rfl) | (rw [if_neg (by decide +kernel)]; exact ⟨rfl, rfl⟩))
    (fun os started H enc _ => liftedLActs os started H enc)
#print axioms fnActs_holds
end Go.Proofs.Ytolinhiimdajhaa
