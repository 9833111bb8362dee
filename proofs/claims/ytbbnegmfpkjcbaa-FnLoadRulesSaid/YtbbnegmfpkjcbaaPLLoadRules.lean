/- The Go law laws.FnLoadRules returns true for every input and leaves its arguments as they were. Conditions: none beyond the row's own. -/
import Derived.Test.YtbbnegmfpkjcbaaRows
import Derived.Test.YtbbnegmfpkjcbaaSLLoadRules1
import Derived.Test.YtbbnegmfpkjcbaaV6
import Derived.Test.YtbbnegmfpkjcbaaHLLoadRules1
import Derived.Ground.NamesProg
import Derived.Shelf.Lay
import Derived.Shelf.Small.Strs
import Derived.Shelf.SlGeneric
import Derived.Shelf.SlicesE.Delete
import Derived.Ground.SlgnProg
import Derived.Test.YtbbnegmfpkjcbaaLLLoadRules
set_option maxRecDepth 100000
namespace Go.Proofs.Ytbbnegmfpkjcbaa
open Go.ChangeShapes Go.WideShapes Go.ChangeAt Go.RowKit Go.Vs

theorem ownLLoadRules : ownKnob Try.prog.godebug = none := by kernel_rfl
theorem laidLLoadRules : laidOutB Try.prog = true := by kernel_rfl
def idlLLoadRules : List (Nat × Nat) := [(4, 365), (5, 386), (6, 433), (8, 90), (9, 384), (12, 138), (13, 135), (14, 573), (15, 753), (16, 603), (17, 229), (20, 307), (21, 290), (22, 250), (23, 326), (24, 873), (25, 291), (26, 756), (27, 754), (28, 7), (29, 277), (32, 830), (34, 810), (35, 5)]
theorem allLLoadRules : allOk Try.prog idlLLoadRules Vs.G.T = true := by kernel_rfl
def idsLLoadRules : Ids := Ids.plain (idsOf idlLLoadRules)
theorem soundXLLoadRules : Sound Try.prog idsLLoadRules ext := sound_extT (L := idlLLoadRules) rfl [(24, 873), (34, 810)] rfl ⟨extOk_idxB (by kernel_rfl) (fun s c => contract_idxB (fun s c w => Any.strings_IndexByte Try.lidxb s c w) s c), extOk_deleteB (by kernel_rfl) (fun zs i j h0 h1 h2 => contract_delete (fun blk off cap i j zs w hH hc hm hij hj => by
    have := AnyE.slices_Delete Try.ldel (Value.int .u8) (fun _ => rfl) 0 Try.zeroValue5 ((Try.prog.info? 5).get (by kernel_rfl)) (by kernel_rfl) (by kernel_rfl) blk off cap i j zs.toArray w hH (by simpa using hc) hm hij (by simpa using hj)
    change Calls Try.prog 34 _ _ _ at this
    simpa using this) zs i j h0 h1 h2), trivial⟩
theorem lawLLoadRules : ∀ trees, ShapedAll Try.prog 3 Try.f4.params.toList trees → ev Vs.G.T ext 5 (idsOf idlLLoadRules 4) trees = some (.bool true, []) := by
  intro trees h
  rw [Try.params4] at h
  obtain ⟨x0, _, rfl, k0, h⟩ := sh_cons (enc := (eSl false 1 (Tree.int .u8))) h (rd_slice (sz := 1) (enc := (Tree.int .u8)) Try.underlying22 (by kernel_rfl) (rd_int Try.underlying5) (fun _ => mkT_one (by simp [Try.underlying5]))) (fun _ => mkT_one (by simp [Try.underlying22]))
  obtain ⟨x1, _, rfl, k1, h⟩ := sh_cons (enc := (eSl false 1 (Tree.int .u8))) h (rd_slice (sz := 1) (enc := (Tree.int .u8)) Try.underlying22 (by kernel_rfl) (rd_int Try.underlying5) (fun _ => mkT_one (by simp [Try.underlying5]))) (fun _ => mkT_one (by simp [Try.underlying22]))
  obtain rfl := sh_nil h
  exact Vs.G.S365 0 _ (Vs.G.laws_FnLoadRules_true k0 k1)
theorem liftedLLoadRules (os : Os) (started : os.Started) (H : Type) (enc : TypeId × Value → H) :
    ReturnsInHanded {} Try.checked os 4 .any (Rows.fnLoadRulesSpec.pre6 enc Try.prog Try.f4 Rows.fnLoadRulesRow.domain false) (Rows.fnLoadRulesSpec.post enc Try.prog Try.f4 false true false false) := by
  refine law_lifted (C := Try.checked) (L := idlLLoadRules) (T := Vs.G.T) (d := 5) (n := 3) (tb := 4) ownLLoadRules laidLLoadRules started (by kernel_rfl) Try.func4
    (ChangeSpec.witness6 (enc := enc) (C := Try.checked) false ⟨#[], #[.slice none 0 0, .slice none 0 0], []⟩ 8 (by kernel_rfl) (by kernel_rfl) (by kernel_rfl) (by kernel_rfl))
    (by kernel_rfl) rfl allLLoadRules (by kernel_rfl) soundXLLoadRules (by kernel_rfl) (by kernel_rfl) rfl Try.underlying4 rfl ?_ lawLLoadRules
  intro ds hd
  match ds, hd with
  | [a0, a1], _ => exact ⟨rfl, rfl, rfl⟩
theorem fnLoadRules_holds : Rows.FnLoadRulesSaid :=
  OpenClaim.holds_of_wide 4 Try.f4 rfl rfl rfl rfl rfl rfl rfl ⟨rfl, rfl, rfl, rfl, rfl⟩ rfl rfl rfl rfl rfl (by kernel_rfl) Try.func4 (by kernel_rfl)
    (of_decide_eq_true (by kernel_rfl)) (by unfold Func.isWrapper; first | (rw [if_pos (by decide +kernel)]; kernel_rfl) | (rw [if_neg (by decide +kernel)]; exact ⟨rfl, rfl⟩))
    (fun os started H enc _ => liftedLLoadRules os started H enc)
#print axioms fnLoadRules_holds
end Go.Proofs.Ytbbnegmfpkjcbaa
