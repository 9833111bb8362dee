/- The Go law laws.FnCauses returns true for every input and leaves its arguments as they were. Conditions: none beyond the row's own. -/
import Derived.Test.YtmbjedkkombmjaaRows
import Derived.Test.YtmbjedkkombmjaaSLCauses2
import Derived.Test.YtmbjedkkombmjaaV6
import Derived.Test.YtmbjedkkombmjaaHLCauses2
import Derived.Shelf.SlGeneric
import Derived.Shelf.SortG.Plain
import Derived.Shelf.SortG.SortNone
import Derived.Shelf.SlicesG.CompactI
import Derived.Ground.SlgnProg
import Derived.Test.YtmbjedkkombmjaaLLCauses
set_option maxRecDepth 100000
namespace Go.Proofs.Ytmbjedkkombmjaa
open Go.ChangeShapes Go.WideShapes Go.ChangeAt Go.RowKit Go.Vs

theorem ownLCauses : ownKnob Try.prog.godebug = none := by kernel_rfl
theorem laidLCauses : laidOutB Try.prog = true := by kernel_rfl
def idlLCauses : List (Nat × Nat) := [(13, 330), (15, 590), (17, 208), (19, 556), (21, 165), (32, 82), (35, 451), (36, 69), (39, 580), (40, 195), (41, 517), (42, 85), (43, 398), (47, 400), (48, 399), (49, 469), (51, 772), (53, 326), (54, 116), (55, 276), (56, 799), (57, 209), (59, 767), (60, 766), (61, 256), (62, 796), (63, 166), (64, 808), (66, 811), (67, 609), (68, 774), (69, 308), (70, 771), (71, 764), (72, 266), (73, 775), (75, 305), (76, 678), (77, 792), (78, 765), (79, 603), (80, 768), (82, 6), (83, 769), (85, 605), (86, 533), (87, 821), (88, 818), (89, 831), (90, 836), (91, 791), (92, 273), (93, 27), (94, 7), (95, 773), (96, 4), (97, 8), (98, 607), (99, 613), (100, 612), (103, 31), (104, 5)]
theorem allLCauses : allOk Try.prog idlLCauses Vs.G.T = true := by kernel_rfl
theorem soundXLCauses : Sound Try.prog (idsOf idlLCauses) ext := sound_extT [(90, 836), (91, 791)] rfl ⟨extOk_sort (by kernel_rfl) (fun zs hz => contract_sort (fun blk off cap zs w hH hb hz => AnyG.slices_Sort_int Try.lsort blk off cap zs w hH hb hz) (fun p cap w => AnyG.slices_Sort_int_none Try.lsort p cap w) zs hz), extOk_compact (by kernel_rfl) (fun zs hz => contract_compact (fun blk off cap zs w hH hz hc => AnyG.slices_Compact_int Try.lcomp blk off cap zs w hH hz hc) (fun p cap w => AnyG.slices_Compact_int_empty Try.lcomp p cap w) compact_len zs hz), trivial⟩
theorem lawLCauses : ∀ trees, ShapedAll Try.prog 3 Try.f13.params.toList trees → ev Vs.G.T ext 10 (idsOf idlLCauses 13) trees = some (.bool true, []) := by
  intro trees h
  rw [Try.params13] at h
  obtain ⟨x0, _, rfl, k0, h⟩ := sh_cons (enc := (eSl false 1 (Tree.int .u8))) h (rd_slice (sz := 1) (enc := (Tree.int .u8)) Try.underlying47 (by kernel_rfl) (rd_int Try.underlying5) (fun _ => mkT_one (by simp [Try.underlying5]))) (fun _ => mkT_one (by simp [Try.underlying47]))
  obtain rfl := sh_nil h
  exact Vs.G.S330 0 _ (Vs.G.laws_FnCauses_true k0)
theorem liftedLCauses (os : Os) (started : os.Started) (H : Type) (enc : TypeId × Value → H) :
    ReturnsInHanded {} Try.checked os 13 .any (Rows.fnCausesSpec.pre6 enc Try.prog Try.f13 Rows.fnCausesRow.domain false) (Rows.fnCausesSpec.post enc Try.prog Try.f13 false true false false) := by
  refine law_lifted (C := Try.checked) (L := idlLCauses) (T := Vs.G.T) (d := 10) (n := 3) (tb := 4) ownLCauses laidLCauses started (by kernel_rfl) Try.func13
    (ChangeSpec.witness6 (enc := enc) (C := Try.checked) false ⟨#[], #[.slice none 0 0], []⟩ 8 (by kernel_rfl) (by kernel_rfl) (by kernel_rfl) (by kernel_rfl))
    (by kernel_rfl) rfl allLCauses soundXLCauses (by kernel_rfl) (by kernel_rfl) rfl Try.underlying4 rfl ?_ lawLCauses
  intro ds hd
  match ds, hd with
  | [a0], _ => exact ⟨rfl, rfl, rfl⟩
theorem fnCauses_holds : Rows.FnCausesSaid :=
  OpenClaim.holds_of_wide 13 Try.f13 rfl rfl rfl rfl rfl rfl rfl ⟨rfl, rfl, rfl, rfl, rfl⟩ rfl rfl rfl rfl rfl (by kernel_rfl) Try.func13 (by kernel_rfl)
    (of_decide_eq_true (by kernel_rfl)) (by unfold Func.isWrapper; first | (rw [if_pos (by decide +kernel)]; kernel_rfl) | (rw [if_neg (by decide +kernel)]; exact ⟨rfl, rfl⟩))
    (fun os started H enc _ => liftedLCauses os started H enc)
#print axioms fnCauses_holds
end Go.Proofs.Ytmbjedkkombmjaa
