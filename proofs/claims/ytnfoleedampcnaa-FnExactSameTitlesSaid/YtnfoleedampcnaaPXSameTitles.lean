/- The Go law laws.FnExactSameTitles returns true for every input and leaves its arguments as they were. Conditions: none beyond the row's own. -/
import Derived.Test.YtnfoleedampcnaaRows
import Derived.Test.YtnfoleedampcnaaSXSameTitles1
import Derived.Test.YtnfoleedampcnaaV6
import Derived.Test.YtnfoleedampcnaaHTitle
set_option maxRecDepth 100000
namespace Go.Proofs.Ytnfoleedampcnaa
open Go.ChangeShapes Go.WideShapes Go.ChangeAt Go.RowKit Go.Vs

theorem ownXSameTitles : ownKnob Try.prog.godebug = none := by kernel_rfl
theorem laidXSameTitles : laidOutB Try.prog = true := by kernel_rfl
def idlXSameTitles : List (Nat × Nat) := [(3, 346), (7, 416), (8, 564), (9, 422), (10, 173), (11, 396), (22, 415), (23, 421), (24, 814), (25, 395)]
theorem allXSameTitles : allOk Try.prog idlXSameTitles Vs.G.T = true := by kernel_rfl
theorem rd40 {n : Nat} : Reads Try.prog (n + 2) 40 (fun x : Vs.G.GTitle => [(.int .i64 x.No), (.str x.Name), (.int .i64 x.Glass), (.int .i64 x.Broken)]) Vs.G.GTitle.ok := by
  intro cs h
  obtain ⟨css, rfl, hz⟩ := shaped_struct Try.underlying40 h
  replace h : Shaped.ShapedL _ [2, 9, 2, 2] css := hz
  simp only [shapedL_cons, shapedL_nil] at h
  obtain ⟨c0, _, rfl, h0, c1, _, rfl, h1, c2, _, rfl, h2, c3, _, rfl, h3, rfl⟩ := h
  obtain ⟨x0, rfl, k0⟩ := (rd_int Try.underlying2) c0 h0
  obtain ⟨x1, rfl, k1⟩ := (rd_str Try.underlying9) c1 h1
  obtain ⟨x2, rfl, k2⟩ := (rd_int Try.underlying2) c2 h2
  obtain ⟨x3, rfl, k3⟩ := (rd_int Try.underlying2) c3 h3
  exact ⟨⟨x0, x1, x2, x3⟩, rfl, k0, k1, k2, k3⟩
theorem lawXSameTitles : ∀ trees, ShapedAll Try.prog 4 Try.f3.params.toList trees → ev Vs.G.T noExt 3 (idsOf idlXSameTitles 3) trees = some (.bool true, []) := by
  intro trees h
  rw [Try.params3] at h
  obtain ⟨x0, _, rfl, k0, h⟩ := sh_cons (enc := (eSl false 4 Vs.G.GTitle.enc)) h (rd_slice (sz := 4) (enc := Vs.G.GTitle.enc) Try.underlying22 (by kernel_rfl) (rd40) (fun _ => mkT_agg Try.underlying40)) (fun _ => mkT_one (by simp [Try.underlying22]))
  obtain ⟨x1, _, rfl, k1, h⟩ := sh_cons (enc := (eSl false 4 Vs.G.GTitle.enc)) h (rd_slice (sz := 4) (enc := Vs.G.GTitle.enc) Try.underlying22 (by kernel_rfl) (rd40) (fun _ => mkT_agg Try.underlying40)) (fun _ => mkT_one (by simp [Try.underlying22]))
  obtain rfl := sh_nil h
  exact Vs.G.S346 0 _ (Vs.G.laws_FnExactSameTitles_true k0 k1)
theorem liftedXSameTitles (os : Os) (started : os.Started) (H : Type) (enc : TypeId × Value → H) :
    ReturnsInHanded {} Try.checked os 3 .any (Rows.fnExactSameTitlesSpec.pre6 enc Try.prog Try.f3 Rows.fnExactSameTitlesRow.domain false) (Rows.fnExactSameTitlesSpec.post enc Try.prog Try.f3 false true false false) := by
  refine law_lifted (C := Try.checked) (L := idlXSameTitles) (T := Vs.G.T) (d := 3) (n := 4) (tb := 4) ownXSameTitles laidXSameTitles started (by kernel_rfl) Try.func3
    (ChangeSpec.witness6 (enc := enc) (C := Try.checked) false ⟨#[], #[.slice none 0 0, .slice none 0 0], []⟩ 8 (by kernel_rfl) (by kernel_rfl) (by kernel_rfl) (by kernel_rfl))
    (by kernel_rfl) rfl allXSameTitles (by kernel_rfl) (by kernel_rfl) rfl Try.underlying4 rfl ?_ lawXSameTitles
  intro ds hd
  match ds, hd with
  | [a0, a1], _ => exact ⟨rfl, rfl, rfl⟩
theorem fnExactSameTitles_holds : Rows.FnExactSameTitlesSaid :=
  OpenClaim.holds_of_wide 3 Try.f3 rfl rfl rfl rfl rfl rfl rfl ⟨rfl, rfl, rfl, rfl, rfl⟩ rfl rfl rfl rfl rfl (by kernel_rfl) Try.func3 (by kernel_rfl)
    (of_decide_eq_true (by kernel_rfl)) (by unfold Func.isWrapper; first | (rw [if_pos (by decide +kernel)]; kernel_rfl) | (rw [if_neg (by decide +kernel)]; exact ⟨rfl, rfl⟩))
    (fun os started H enc _ => liftedXSameTitles os started H enc)
#print axioms fnExactSameTitles_holds
end Go.Proofs.Ytnfoleedampcnaa
