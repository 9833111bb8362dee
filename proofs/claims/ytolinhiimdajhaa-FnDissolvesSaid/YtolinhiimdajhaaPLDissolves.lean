/- The Go law laws.FnDissolves returns true for every input and leaves its arguments as they were. Conditions: none beyond the row's own. -/
import Derived.Test.YtolinhiimdajhaaRows
import Derived.Test.YtolinhiimdajhaaSLDissolves1
import Derived.Test.YtolinhiimdajhaaV6
import Derived.Test.YtolinhiimdajhaaHDissolveB
import Derived.Shelf.SlGeneric
import Derived.Shelf.SlicesE.Clone
import Derived.Ground.SlgnProg
import Derived.Test.YtolinhiimdajhaaC
import Derived.Test.YtolinhiimdajhaaLLDissolves
set_option maxRecDepth 100000
namespace Go.Proofs.Ytolinhiimdajhaa
open Go.ChangeShapes Go.WideShapes Go.ChangeAt Go.RowKit Go.Vs

theorem ownLDissolves : ownKnob Try.prog.godebug = none := by kernel_rfl
theorem laidLDissolves : laidOutB Try.prog = true := by kernel_rfl
def idlLDissolves : List (Nat × Nat) := [(3, 333), (9, 386), (10, 434), (11, 384), (12, 72), (13, 92), (14, 130), (15, 129), (16, 149), (82, 717), (83, 603), (84, 316), (85, 289), (86, 230), (87, 326), (88, 788), (95, 7), (100, 606), (140, 20), (141, 806), (142, 231), (145, 5), (163, 19), (164, 828)]
theorem allLDissolves : allOk Try.prog idlLDissolves Vs.G.T = true := by kernel_rfl
theorem soundXLDissolves : Sound Try.prog (idsOf idlLDissolves) ext := sound_extT [(88, 788)] rfl ⟨extOk_clone (u := 788) (sz := 3) (fun _ => rfl) (by kernel_rfl) (fun es h1 h2 => contract_clone (ety := 32) (fun ad n c news w hl hn hc h1 => (clone_any Try.lclone788 ((Try.prog.info? 32).get (by kernel_rfl)) (.agg #[.int .i64 0, .int .i64 0, .int .i64 0]) 3 24 (by kernel_rfl) (by kernel_rfl) (by kernel_rfl) (by kernel_rfl) rfl (by decide) Try.sizeOf32 ad n c news w hl (by simp only [maxLen]; omega) (by omega) hc h1)) (fun n c w => AnyE.slices_Clone_nil Try.lclone788 n c w) es h1 h2), trivial⟩
theorem lawLDissolves : ∀ trees, ShapedAll Try.prog 3 Try.f3.params.toList trees → ev Vs.G.T ext 8 (idsOf idlLDissolves 3) trees = some (.bool true, []) := by
  intro trees h
  rw [Try.params3] at h
  obtain ⟨x0, _, rfl, k0, h⟩ := sh_cons (enc := (eSl false 1 (Tree.int .u8))) h (rd_slice (sz := 1) (enc := (Tree.int .u8)) Try.underlying22 (by kernel_rfl) (rd_int Try.underlying5) (fun _ => mkT_one (by simp [Try.underlying5]))) (fun _ => mkT_one (by simp [Try.underlying22]))
  obtain ⟨x1, _, rfl, k1, h⟩ := sh_cons (enc := (eSl false 1 (Tree.int .u8))) h (rd_slice (sz := 1) (enc := (Tree.int .u8)) Try.underlying22 (by kernel_rfl) (rd_int Try.underlying5) (fun _ => mkT_one (by simp [Try.underlying5]))) (fun _ => mkT_one (by simp [Try.underlying22]))
  obtain rfl := sh_nil h
  exact Vs.G.S333 0 _ (Vs.G.laws_FnDissolves_true k0 k1)
theorem liftedLDissolves (os : Os) (started : os.Started) (H : Type) (enc : TypeId × Value → H) :
    ReturnsInHanded {} Try.checked os 3 .any (Rows.fnDissolvesSpec.pre6 enc Try.prog Try.f3 Rows.fnDissolvesRow.domain false) (Rows.fnDissolvesSpec.post enc Try.prog Try.f3 false true false false) := by
  refine law_lifted (C := Try.checked) (L := idlLDissolves) (T := Vs.G.T) (d := 8) (n := 3) (tb := 4) ownLDissolves laidLDissolves started (by kernel_rfl) Try.func3
    (ChangeSpec.witness6 (enc := enc) (C := Try.checked) false ⟨#[], #[.slice none 0 0, .slice none 0 0], []⟩ 8 (by kernel_rfl) (by kernel_rfl) (by kernel_rfl) (by kernel_rfl))
    (by kernel_rfl) rfl allLDissolves soundXLDissolves (by kernel_rfl) (by kernel_rfl) rfl Try.underlying4 rfl ?_ lawLDissolves
  intro ds hd
  match ds, hd with
  | [a0, a1], _ => exact ⟨rfl, rfl, rfl⟩
theorem fnDissolves_holds : Rows.FnDissolvesSaid :=
  OpenClaim.holds_of_wide 3 Try.f3 rfl rfl rfl rfl rfl rfl rfl ⟨rfl, rfl, rfl, rfl, rfl⟩ rfl rfl rfl rfl rfl (by kernel_rfl) Try.func3 (by kernel_rfl)
    (of_decide_eq_true (by kernel_rfl)) (by unfold Func.isWrapper; first | (rw [if_pos (by decide +kernel)]; kernel_rfl) | (rw [if_neg (by decide +kernel)]; exact ⟨rfl, rfl⟩))
    (fun os started H enc _ => liftedLDissolves os started H enc)
#print axioms fnDissolves_holds
end Go.Proofs.Ytolinhiimdajhaa
