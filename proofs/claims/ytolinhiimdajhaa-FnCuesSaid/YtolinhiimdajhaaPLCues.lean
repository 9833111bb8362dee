/- The Go law laws.FnCues returns true for every input and leaves its arguments as they were. Conditions: none beyond the row's own. -/
import Derived.Test.YtolinhiimdajhaaRows
import Derived.Test.YtolinhiimdajhaaSLCues1
import Derived.Test.YtolinhiimdajhaaV6
import Derived.Test.YtolinhiimdajhaaHCuesB
import Derived.Shelf.SlGeneric
import Derived.Shelf.SlicesE.Clone
import Derived.Ground.SlgnProg
import Derived.Test.YtolinhiimdajhaaC
import Derived.Test.YtolinhiimdajhaaLLCues
set_option maxRecDepth 100000
namespace Go.Proofs.Ytolinhiimdajhaa
open Go.ChangeShapes Go.WideShapes Go.ChangeAt Go.RowKit Go.Vs

theorem ownLCues : ownKnob Try.prog.godebug = none := by kernel_rfl
theorem laidLCues : laidOutB Try.prog = true := by kernel_rfl
def idlLCues : List (Nat × Nat) := [(4, 331), (9, 386), (11, 384), (17, 424), (18, 76), (19, 146), (20, 93), (21, 115), (22, 111), (23, 432), (24, 179), (83, 603), (87, 326), (89, 731), (90, 210), (91, 264), (92, 293), (93, 260), (94, 272), (95, 7), (96, 306), (143, 800), (144, 211), (145, 5), (146, 786), (165, 822)]
theorem allLCues : allOk Try.prog idlLCues Vs.G.T = true := by kernel_rfl
theorem soundXLCues : Sound Try.prog (idsOf idlLCues) ext := sound_extT [(146, 786)] rfl ⟨extOk_clone (u := 786) (sz := 4) (fun _ => rfl) (by kernel_rfl) (fun es h1 h2 => contract_clone (ety := 40) (fun ad n c news w hl hn hc h1 => (clone_any Try.lclone786 ((Try.prog.info? 40).get (by kernel_rfl)) (.agg #[.int .i64 0, .int .i64 0, .int .i64 0, .int .i64 0]) 4 32 (by kernel_rfl) (by kernel_rfl) (by kernel_rfl) (by kernel_rfl) rfl (by decide) Try.sizeOf40 ad n c news w hl (by simp only [maxLen]; omega) (by omega) hc h1)) (fun n c w => AnyE.slices_Clone_nil Try.lclone786 n c w) es h1 h2), trivial⟩
theorem lawLCues : ∀ trees, ShapedAll Try.prog 3 Try.f4.params.toList trees → ev Vs.G.T ext 8 (idsOf idlLCues 4) trees = some (.bool true, []) := by
  intro trees h
  rw [Try.params4] at h
  obtain ⟨x0, _, rfl, k0, h⟩ := sh_cons (enc := (eSl false 1 (Tree.int .u8))) h (rd_slice (sz := 1) (enc := (Tree.int .u8)) Try.underlying22 (by kernel_rfl) (rd_int Try.underlying5) (fun _ => mkT_one (by simp [Try.underlying5]))) (fun _ => mkT_one (by simp [Try.underlying22]))
  obtain ⟨x1, _, rfl, k1, h⟩ := sh_cons (enc := (eSl false 1 (Tree.int .u8))) h (rd_slice (sz := 1) (enc := (Tree.int .u8)) Try.underlying22 (by kernel_rfl) (rd_int Try.underlying5) (fun _ => mkT_one (by simp [Try.underlying5]))) (fun _ => mkT_one (by simp [Try.underlying22]))
  obtain rfl := sh_nil h
  exact Vs.G.S331 0 _ (Vs.G.laws_FnCues_true k0 k1)
theorem liftedLCues (os : Os) (started : os.Started) (H : Type) (enc : TypeId × Value → H) :
    ReturnsInHanded {} Try.checked os 4 .any (Rows.fnCuesSpec.pre6 enc Try.prog Try.f4 Rows.fnCuesRow.domain false) (Rows.fnCuesSpec.post enc Try.prog Try.f4 false true false false) := by
  refine law_lifted (C := Try.checked) (L := idlLCues) (T := Vs.G.T) (d := 8) (n := 3) (tb := 4) ownLCues laidLCues started (by kernel_rfl) Try.func4
    (ChangeSpec.witness6 (enc := enc) (C := Try.checked) false ⟨#[], #[.slice none 0 0, .slice none 0 0], []⟩ 8 (by kernel_rfl) (by kernel_rfl) (by kernel_rfl) (by kernel_rfl))
    (by kernel_rfl) rfl allLCues soundXLCues (by kernel_rfl) (by kernel_rfl) rfl Try.underlying4 rfl ?_ lawLCues
  intro ds hd
  match ds, hd with
  | [a0, a1], _ => exact ⟨rfl, rfl, rfl⟩
theorem fnCues_holds : Rows.FnCuesSaid :=
  OpenClaim.holds_of_wide 4 Try.f4 rfl rfl rfl rfl rfl rfl rfl ⟨rfl, rfl, rfl, rfl, rfl⟩ rfl rfl rfl rfl rfl (by kernel_rfl) Try.func4 (by kernel_rfl)
    (of_decide_eq_true (by kernel_rfl)) (by unfold Func.isWrapper; first | (rw [if_pos (by decide +kernel)]; kernel_rfl) | (rw [if_neg (by decide +kernel)]; exact ⟨rfl, rfl⟩))
    (fun os started H enc _ => liftedLCues os started H enc)
#print axioms fnCues_holds
end Go.Proofs.Ytolinhiimdajhaa
