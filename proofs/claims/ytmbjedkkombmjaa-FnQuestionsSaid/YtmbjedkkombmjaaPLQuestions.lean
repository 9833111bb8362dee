/- The Go law laws.FnQuestions returns true for every input and leaves its arguments as they were. Conditions: none beyond the row's own. -/
import Derived.Test.YtmbjedkkombmjaaRows
import Derived.Test.YtmbjedkkombmjaaSLQuestions2
import Derived.Test.YtmbjedkkombmjaaV6
import Derived.Test.YtmbjedkkombmjaaHLQuestions2
import Derived.Shelf.SlGeneric
import Derived.Shelf.SortG.Plain
import Derived.Shelf.SortG.SortNone
import Derived.Shelf.SlicesG.CompactI
import Derived.Ground.SlgnProg
import Derived.Test.YtmbjedkkombmjaaLLQuestions
set_option maxRecDepth 100000
namespace Go.Proofs.Ytmbjedkkombmjaa
open Go.ChangeShapes Go.WideShapes Go.ChangeAt Go.RowKit Go.Vs

theorem ownLQuestions : ownKnob Try.prog.godebug = none := by kernel_rfl
theorem laidLQuestions : laidOutB Try.prog = true := by kernel_rfl
def idlLQuestions : List (Nat × Nat) := [(12, 370), (17, 208), (26, 436), (27, 40), (31, 514), (32, 82), (33, 571), (34, 184), (37, 441), (38, 53), (40, 195), (43, 398), (44, 457), (45, 496), (46, 466), (47, 400), (48, 399), (51, 772), (53, 326), (54, 116), (55, 276), (56, 799), (57, 209), (59, 767), (60, 766), (61, 256), (66, 811), (67, 609), (68, 774), (69, 308), (70, 771), (71, 764), (72, 266), (73, 775), (74, 606), (75, 305), (78, 765), (79, 603), (80, 768), (81, 770), (82, 6), (83, 769), (85, 605), (86, 533), (87, 821), (90, 836), (91, 791), (92, 273), (94, 7), (95, 773), (96, 4), (97, 8), (98, 607), (99, 613), (100, 612), (104, 5)]
theorem allLQuestions : allOk Try.prog idlLQuestions Vs.G.T = true := by kernel_rfl
theorem soundXLQuestions : Sound Try.prog (idsOf idlLQuestions) ext := sound_extT [(90, 836), (91, 791)] rfl ⟨extOk_sort (by kernel_rfl) (fun zs hz => contract_sort (fun blk off cap zs w hH hb hz => AnyG.slices_Sort_int Try.lsort blk off cap zs w hH hb hz) (fun p cap w => AnyG.slices_Sort_int_none Try.lsort p cap w) zs hz), extOk_compact (by kernel_rfl) (fun zs hz => contract_compact (fun blk off cap zs w hH hz hc => AnyG.slices_Compact_int Try.lcomp blk off cap zs w hH hz hc) (fun p cap w => AnyG.slices_Compact_int_empty Try.lcomp p cap w) compact_len zs hz), trivial⟩
theorem lawLQuestions : ∀ trees, ShapedAll Try.prog 3 Try.f12.params.toList trees → ev Vs.G.T ext 8 (idsOf idlLQuestions 12) trees = some (.bool true, []) := by
  intro trees h
  rw [Try.params12] at h
  obtain ⟨x0, _, rfl, k0, h⟩ := sh_cons (enc := (eSl false 1 (Tree.int .u8))) h (rd_slice (sz := 1) (enc := (Tree.int .u8)) Try.underlying47 (by kernel_rfl) (rd_int Try.underlying5) (fun _ => mkT_one (by simp [Try.underlying5]))) (fun _ => mkT_one (by simp [Try.underlying47]))
  obtain rfl := sh_nil h
  exact Vs.G.S370 0 _ (Vs.G.laws_FnQuestions_true k0)
theorem liftedLQuestions (os : Os) (started : os.Started) (H : Type) (enc : TypeId × Value → H) :
    ReturnsInHanded {} Try.checked os 12 .any (Rows.fnQuestionsSpec.pre6 enc Try.prog Try.f12 Rows.fnQuestionsRow.domain false) (Rows.fnQuestionsSpec.post enc Try.prog Try.f12 false true false false) := by
  refine law_lifted (C := Try.checked) (L := idlLQuestions) (T := Vs.G.T) (d := 8) (n := 3) (tb := 4) ownLQuestions laidLQuestions started (by kernel_rfl) Try.func12
    (ChangeSpec.witness6 (enc := enc) (C := Try.checked) false ⟨#[], #[.slice none 0 0], []⟩ 8 (by kernel_rfl) (by kernel_rfl) (by kernel_rfl) (by kernel_rfl))
    (by kernel_rfl) rfl allLQuestions soundXLQuestions (by kernel_rfl) (by kernel_rfl) rfl Try.underlying4 rfl ?_ lawLQuestions
  intro ds hd
  match ds, hd with
  | [a0], _ => exact ⟨rfl, rfl, rfl⟩
theorem fnQuestions_holds : Rows.FnQuestionsSaid :=
  OpenClaim.holds_of_wide 12 Try.f12 rfl rfl rfl rfl rfl rfl rfl ⟨rfl, rfl, rfl, rfl, rfl⟩ rfl rfl rfl rfl rfl (by kernel_rfl) Try.func12 (by kernel_rfl)
    (of_decide_eq_true (by kernel_rfl)) (by unfold Func.isWrapper; first | (rw [if_pos (by decide +kernel)]; kernel_rfl) | (rw [if_neg (by decide +kernel)]; exact ⟨rfl, rfl⟩))
    (fun os started H enc _ => liftedLQuestions os started H enc)
#print axioms fnQuestions_holds
end Go.Proofs.Ytmbjedkkombmjaa
