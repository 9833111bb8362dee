/- The Go law laws.FnExactFewestCauses returns true for every input and leaves its arguments as they were. Conditions: none beyond the row's own. -/
import Derived.Test.YtmbjedkkombmjaaRows
import Derived.Test.YtmbjedkkombmjaaSXFewestCauses1
import Derived.Test.YtmbjedkkombmjaaV6
import Derived.Test.YtmbjedkkombmjaaHXFewestCauses1
import Derived.Shelf.SlGeneric
import Derived.Shelf.SortG.Plain
import Derived.Shelf.SortG.SortNone
import Derived.Shelf.SlicesG.CompactI
import Derived.Ground.SlgnProg
import Derived.Test.YtmbjedkkombmjaaLXFewestCauses
set_option maxRecDepth 100000
namespace Go.Proofs.Ytmbjedkkombmjaa
open Go.ChangeShapes Go.WideShapes Go.ChangeAt Go.RowKit Go.Vs

theorem ownXFewestCauses : ownKnob Try.prog.godebug = none := by kernel_rfl
theorem laidXFewestCauses : laidOutB Try.prog = true := by kernel_rfl
def idlXFewestCauses : List (Nat × Nat) := [(11, 340), (14, 413), (16, 418), (17, 208), (18, 392), (20, 419), (22, 393), (23, 407), (24, 408), (25, 405), (41, 517), (42, 85), (50, 412), (51, 772), (52, 417), (53, 326), (54, 116), (55, 276), (56, 799), (57, 209), (58, 391), (59, 767), (60, 766), (61, 256), (65, 410), (66, 811), (67, 609), (68, 774), (69, 308), (70, 771), (71, 764), (72, 266), (73, 775), (76, 678), (77, 792), (84, 414), (85, 605), (86, 533), (87, 821), (90, 836), (91, 791), (92, 273), (93, 27), (99, 613), (100, 612), (103, 31)]
theorem allXFewestCauses : allOk Try.prog idlXFewestCauses Vs.G.T = true := by kernel_rfl
theorem soundXXFewestCauses : Sound Try.prog (idsOf idlXFewestCauses) ext := sound_extT [(90, 836), (91, 791)] rfl ⟨extOk_sort (by kernel_rfl) (fun zs hz => contract_sort (fun blk off cap zs w hH hb hz => AnyG.slices_Sort_int Try.lsort blk off cap zs w hH hb hz) (fun p cap w => AnyG.slices_Sort_int_none Try.lsort p cap w) zs hz), extOk_compact (by kernel_rfl) (fun zs hz => contract_compact (fun blk off cap zs w hH hz hc => AnyG.slices_Compact_int Try.lcomp blk off cap zs w hH hz hc) (fun p cap w => AnyG.slices_Compact_int_empty Try.lcomp p cap w) compact_len zs hz), trivial⟩
theorem rd57 {n : Nat} : Reads Try.prog (n + 3) 57 (fun x : Vs.G.GCause => [(.str x.Name), (.sl false 1 (x.Signs.map (Tree.int .i64)))]) Vs.G.GCause.ok := by
  intro cs h
  obtain ⟨css, rfl, hz⟩ := shaped_struct Try.underlying57 h
  replace h : Shaped.ShapedL _ [9, 29] css := hz
  simp only [shapedL_cons, shapedL_nil] at h
  obtain ⟨c0, _, rfl, h0, c1, _, rfl, h1, rfl⟩ := h
  obtain ⟨x0, rfl, k0⟩ := (rd_str Try.underlying9) c0 h0
  obtain ⟨x1, rfl, k1⟩ := (rd_slice (sz := 1) (enc := (Tree.int .i64)) Try.underlying29 (by kernel_rfl) (rd_int Try.underlying2) (fun _ => mkT_one (by simp [Try.underlying2]))) c1 h1
  exact ⟨⟨x0, x1⟩, rfl, k0, k1⟩
theorem lawXFewestCauses : ∀ trees, ShapedAll Try.prog 5 Try.f11.params.toList trees → ev Vs.G.T ext 7 (idsOf idlXFewestCauses 11) trees = some (.bool true, []) := by
  intro trees h
  rw [Try.params11] at h
  obtain ⟨x0, _, rfl, k0, h⟩ := sh_cons (enc := (Tree.int .i64)) h (rd_int Try.underlying2) (fun _ => mkT_one (by simp [Try.underlying2]))
  obtain ⟨x1, _, rfl, k1, h⟩ := sh_cons (enc := (eSl false 2 Vs.G.GCause.encs)) h (rd_slice (sz := 2) (enc := Vs.G.GCause.encs) Try.underlying22 (by kernel_rfl) (rd57) (fun _ => mkT_agg Try.underlying57)) (fun _ => mkT_one (by simp [Try.underlying22]))
  obtain ⟨x2, _, rfl, k2, h⟩ := sh_cons (enc := (eSl false 1 (Tree.int .i64))) h (rd_slice (sz := 1) (enc := (Tree.int .i64)) Try.underlying29 (by kernel_rfl) (rd_int Try.underlying2) (fun _ => mkT_one (by simp [Try.underlying2]))) (fun _ => mkT_one (by simp [Try.underlying29]))
  obtain rfl := sh_nil h
  exact Vs.G.S340 0 _ (Vs.G.laws_FnExactFewestCauses_true k0 k1 k2)
theorem liftedXFewestCauses (os : Os) (started : os.Started) (H : Type) (enc : TypeId × Value → H) :
    ReturnsInHanded {} Try.checked os 11 .any (Rows.fnExactFewestCausesSpec.pre6 enc Try.prog Try.f11 Rows.fnExactFewestCausesRow.domain false) (Rows.fnExactFewestCausesSpec.post enc Try.prog Try.f11 false true false false) := by
  refine law_lifted (C := Try.checked) (L := idlXFewestCauses) (T := Vs.G.T) (d := 7) (n := 5) (tb := 4) ownXFewestCauses laidXFewestCauses started (by kernel_rfl) Try.func11
    (ChangeSpec.witness6 (enc := enc) (C := Try.checked) false ⟨#[], #[.int .i64 0, .slice none 0 0, .slice none 0 0], []⟩ 8 (by kernel_rfl) (by kernel_rfl) (by kernel_rfl) (by kernel_rfl))
    (by kernel_rfl) rfl allXFewestCauses soundXXFewestCauses (by kernel_rfl) (by kernel_rfl) rfl Try.underlying4 rfl ?_ lawXFewestCauses
  intro ds hd
  match ds, hd with
  | [a0, a1, a2], _ => exact ⟨rfl, rfl, rfl⟩
theorem fnExactFewestCauses_holds : Rows.FnExactFewestCausesSaid :=
  OpenClaim.holds_of_wide 11 Try.f11 rfl rfl rfl rfl rfl rfl rfl ⟨rfl, rfl, rfl, rfl, rfl⟩ rfl rfl rfl rfl rfl (by kernel_rfl) Try.func11 (by kernel_rfl)
    (of_decide_eq_true (by kernel_rfl)) (by unfold Func.isWrapper; first | (rw [if_pos (by decide +kernel)]; kernel_rfl) | (rw [if_neg (by decide +kernel)]; exact ⟨rfl, rfl⟩))
    (fun os started H enc _ => liftedXFewestCauses os started H enc)
#print axioms fnExactFewestCauses_holds
end Go.Proofs.Ytmbjedkkombmjaa
