/- The Go law laws.FnExactWholeTitles returns true for every input and leaves its arguments as they were. Conditions: none beyond the row's own. -/
import Derived.Test.YtnfoleedampcnaaRows
import Derived.Test.YtnfoleedampcnaaSXWholeTitles1
import Derived.Test.YtnfoleedampcnaaV6
import Derived.Test.YtnfoleedampcnaaHTitleC
set_option maxRecDepth 100000
namespace Go.Proofs.Ytnfoleedampcnaa
open Go.ChangeShapes Go.WideShapes Go.ChangeAt Go.RowKit Go.Vs

theorem ownXWholeTitles : ownKnob Try.prog.godebug = none := by kernel_rfl
theorem laidXWholeTitles : laidOutB Try.prog = true := by kernel_rfl
def idlXWholeTitles : List (Nat × Nat) := [(6, 352), (7, 416), (9, 422), (11, 396), (13, 235), (16, 600), (17, 239), (18, 393), (19, 411), (20, 408), (21, 405), (22, 415), (23, 421), (25, 395), (26, 776), (27, 324), (28, 410), (29, 777), (30, 326), (31, 116), (32, 605), (33, 533), (34, 613), (35, 612)]
theorem allXWholeTitles : allOk Try.prog idlXWholeTitles Vs.G.T = true := by kernel_rfl
theorem rd40 {n : Nat} : Reads Try.prog (n + 2) 40 (fun x : Vs.G.GTitle => [(.int .i64 x.No), (.str x.Name), (.int .i64 x.Glass), (.int .i64 x.Broken)]) Vs.G.GTitle.ok := by
  intro cs h
  obtain ⟨css, rfl, hz⟩ := shaped_struct Try.underlying40 h
  replace h : Shaped.ShapedL _ [2, 9, 2, 2] css := hz
  simp only [shapedL_cons, shapedL_nil] at h
  obtain ⟨c0, _, rfl, h0, c1, _, rfl, h1, c2, _, rfl, h2, c3, _, rfl, h3, rfl⟩ := h
  obtain ⟨x0, rfl, k0⟩ := (rd_int Try.underlying2) c0 h0
  obtain ⟨x1, rfl, k1⟩ := (rd_str Try.underlying9) c1 h1
  obtain ⟨x2, rfl, k2⟩ := (rd_int Try.underlying2) c2 h2
  obtain ⟨x3, rfl, k3⟩ := (rd_int Try.underlying2) c3 h3
  exact ⟨⟨x0, x1, x2, x3⟩, rfl, k0, k1, k2, k3⟩
theorem lawXWholeTitles : ∀ trees, ShapedAll Try.prog 4 Try.f6.params.toList trees → ev Vs.G.T noExt 6 (idsOf idlXWholeTitles 6) trees = some (.bool true, []) := by
  intro trees h
  rw [Try.params6] at h
  obtain ⟨x0, _, rfl, k0, h⟩ := sh_cons (enc := (eSl false 4 Vs.G.GTitle.enc)) h (rd_slice (sz := 4) (enc := Vs.G.GTitle.enc) Try.underlying22 (by kernel_rfl) (rd40) (fun _ => mkT_agg Try.underlying40)) (fun _ => mkT_one (by simp [Try.underlying22]))
  obtain rfl := sh_nil h
  exact Vs.G.S352 0 _ (Vs.G.laws_FnExactWholeTitles_true k0)
theorem liftedXWholeTitles (os : Os) (started : os.Started) (H : Type) (enc : TypeId × Value → H) :
    ReturnsInHanded {} Try.checked os 6 .any (Rows.fnExactWholeTitlesSpec.pre6 enc Try.prog Try.f6 Rows.fnExactWholeTitlesRow.domain false) (Rows.fnExactWholeTitlesSpec.post enc Try.prog Try.f6 false true false false) := by
  refine law_lifted (C := Try.checked) (L := idlXWholeTitles) (T := Vs.G.T) (d := 6) (n := 4) (tb := 4) ownXWholeTitles laidXWholeTitles started (by kernel_rfl) Try.func6
    (ChangeSpec.witness6 (enc := enc) (C := Try.checked) false ⟨#[], #[.slice none 0 0], []⟩ 8 (by kernel_rfl) (by kernel_rfl) (by kernel_rfl) (by kernel_rfl))
    (by kernel_rfl) rfl allXWholeTitles (by kernel_rfl) (by kernel_rfl) rfl Try.underlying4 rfl ?_ lawXWholeTitles
  intro ds hd
  match ds, hd with
  | [a0], _ => exact ⟨rfl, rfl, rfl⟩
theorem fnExactWholeTitles_holds : Rows.FnExactWholeTitlesSaid :=
  OpenClaim.holds_of_wide 6 Try.f6 rfl rfl rfl rfl rfl rfl rfl ⟨rfl, rfl, rfl, rfl, rfl⟩ rfl rfl rfl rfl rfl (by kernel_rfl) Try.func6 (by kernel_rfl)
    (of_decide_eq_true (by kernel_rfl)) (by unfold Func.isWrapper; first | (rw [if_pos (by decide +kernel)]; kernel_rfl) | (rw [if_neg (by decide +kernel)]; exact ⟨rfl, rfl⟩))
    (fun os started H enc _ => liftedXWholeTitles os started H enc)
#print axioms fnExactWholeTitles_holds
end Go.Proofs.Ytnfoleedampcnaa
