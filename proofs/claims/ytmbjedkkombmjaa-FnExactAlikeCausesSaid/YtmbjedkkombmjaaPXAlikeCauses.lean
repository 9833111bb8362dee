/- The Go law laws.FnExactAlikeCauses returns true for every input and leaves its arguments as they were. Conditions: none beyond the row's own. -/
import Derived.Test.YtmbjedkkombmjaaRows
import Derived.Test.YtmbjedkkombmjaaSXAlikeCauses1
import Derived.Test.YtmbjedkkombmjaaV6
import Derived.Test.YtmbjedkkombmjaaHSignsF
set_option maxRecDepth 100000
namespace Go.Proofs.Ytmbjedkkombmjaa
open Go.ChangeShapes Go.WideShapes Go.ChangeAt Go.RowKit Go.Vs

theorem ownXAlikeCauses : ownKnob Try.prog.godebug = none := by kernel_rfl
theorem laidXAlikeCauses : laidOutB Try.prog = true := by kernel_rfl
def idlXAlikeCauses : List (Nat × Nat) := [(5, 335), (14, 413), (16, 418), (17, 208), (18, 392), (20, 419), (22, 393), (23, 407), (24, 408), (25, 405), (26, 436), (27, 40), (28, 394), (29, 409), (30, 406), (50, 412), (51, 772), (52, 417), (53, 326), (54, 116), (55, 276), (56, 799), (57, 209), (58, 391), (60, 766), (65, 410), (66, 811), (67, 609), (84, 414), (85, 605), (86, 533), (87, 821), (99, 613), (100, 612)]
theorem allXAlikeCauses : allOk Try.prog idlXAlikeCauses Vs.G.T = true := by kernel_rfl
theorem soundXXAlikeCauses : Sound Try.prog (idsOf idlXAlikeCauses) ext := sound_extT [] rfl trivial
theorem rd57 {n : Nat} : Reads Try.prog (n + 3) 57 (fun x : Vs.G.GCause => [(.str x.Name), (.sl false 1 (x.Signs.map (Tree.int .i64)))]) Vs.G.GCause.ok := by
  intro cs h
  obtain ⟨css, rfl, hz⟩ := shaped_struct Try.underlying57 h
  replace h : Shaped.ShapedL _ [9, 29] css := hz
  simp only [shapedL_cons, shapedL_nil] at h
  obtain ⟨c0, _, rfl, h0, c1, _, rfl, h1, rfl⟩ := h
  obtain ⟨x0, rfl, k0⟩ := (rd_str Try.underlying9) c0 h0
  obtain ⟨x1, rfl, k1⟩ := (rd_slice (sz := 1) (enc := (Tree.int .i64)) Try.underlying29 (by kernel_rfl) (rd_int Try.underlying2) (fun _ => mkT_one (by simp [Try.underlying2]))) c1 h1
  exact ⟨⟨x0, x1⟩, rfl, k0, k1⟩
theorem lawXAlikeCauses : ∀ trees, ShapedAll Try.prog 5 Try.f5.params.toList trees → ev Vs.G.T ext 6 (idsOf idlXAlikeCauses 5) trees = some (.bool true, []) := by
  intro trees h
  rw [Try.params5] at h
  obtain ⟨x0, _, rfl, k0, h⟩ := sh_cons (enc := (Tree.int .i64)) h (rd_int Try.underlying2) (fun _ => mkT_one (by simp [Try.underlying2]))
  obtain ⟨x1, _, rfl, k1, h⟩ := sh_cons (enc := (eSl false 2 Vs.G.GCause.encs)) h (rd_slice (sz := 2) (enc := Vs.G.GCause.encs) Try.underlying22 (by kernel_rfl) (rd57) (fun _ => mkT_agg Try.underlying57)) (fun _ => mkT_one (by simp [Try.underlying22]))
  obtain rfl := sh_nil h
  exact Vs.G.S335 0 _ (Vs.G.laws_FnExactAlikeCauses_true k0 k1)
theorem liftedXAlikeCauses (os : Os) (started : os.Started) (H : Type) (enc : TypeId × Value → H) :
    ReturnsInHanded {} Try.checked os 5 .any (Rows.fnExactAlikeCausesSpec.pre6 enc Try.prog Try.f5 Rows.fnExactAlikeCausesRow.domain false) (Rows.fnExactAlikeCausesSpec.post enc Try.prog Try.f5 false true false false) := by
  refine law_lifted (C := Try.checked) (L := idlXAlikeCauses) (T := Vs.G.T) (d := 6) (n := 5) (tb := 4) ownXAlikeCauses laidXAlikeCauses started (by kernel_rfl) Try.func5
    (ChangeSpec.witness6 (enc := enc) (C := Try.checked) false ⟨#[], #[.int .i64 0, .slice none 0 0], []⟩ 8 (by kernel_rfl) (by kernel_rfl) (by kernel_rfl) (by kernel_rfl))
    (by kernel_rfl) rfl allXAlikeCauses soundXXAlikeCauses (by kernel_rfl) (by kernel_rfl) rfl Try.underlying4 rfl ?_ lawXAlikeCauses
  intro ds hd
  match ds, hd with
  | [a0, a1], _ => exact ⟨rfl, rfl, rfl⟩
theorem fnExactAlikeCauses_holds : Rows.FnExactAlikeCausesSaid :=
  OpenClaim.holds_of_wide 5 Try.f5 rfl rfl rfl rfl rfl rfl rfl ⟨rfl, rfl, rfl, rfl, rfl⟩ rfl rfl rfl rfl rfl (by kernel_rfl) Try.func5 (by kernel_rfl)
    (of_decide_eq_true (by kernel_rfl)) (by unfold Func.isWrapper; first | (rw [if_pos (by decide +kernel)]; kernel_rfl) | (rw [if_neg (by decide +kernel)]; exact ⟨rfl, rfl⟩))
    (fun os started H enc _ => liftedXAlikeCauses os started H enc)
#print axioms fnExactAlikeCauses_holds
end Go.Proofs.Ytmbjedkkombmjaa
