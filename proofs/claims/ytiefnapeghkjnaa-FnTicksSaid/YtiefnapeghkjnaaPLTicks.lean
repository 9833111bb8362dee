/- The Go law laws.FnTicks returns true for every input and leaves its arguments as they were. Conditions: none beyond the row's own. -/
import Derived.Test.YtiefnapeghkjnaaRows
import Derived.Test.YtiefnapeghkjnaaSLTicks1
import Derived.Test.YtiefnapeghkjnaaV6
import Derived.Test.YtiefnapeghkjnaaHLTicks1
import Derived.Ground.NamesProg
import Derived.Shelf.Lay
import Derived.Shelf.Strings.Repeat
import Derived.Ground.SlgnProg
import Derived.Test.YtiefnapeghkjnaaLLTicks
set_option maxRecDepth 100000
namespace Go.Proofs.Ytiefnapeghkjnaa
open Go.ChangeShapes Go.WideShapes Go.ChangeAt Go.RowKit Go.Vs

theorem ownLTicks : ownKnob Try.prog.godebug = none := by kernel_rfl
theorem laidLTicks : laidOutB Try.prog = true := by kernel_rfl
def idlLTicks : List (Nat × Nat) := [(5, 380), (29, 386), (30, 431), (33, 57), (34, 77), (37, 384), (39, 54), (91, 603), (95, 6), (97, 7), (100, 245), (103, 326), (109, 657), (110, 227), (113, 252), (114, 296), (115, 875), (116, 265), (118, 315), (183, 5), (188, 8), (189, 277), (191, 301)]
theorem allLTicks : allOk Try.prog idlLTicks Vs.G.T = true := by kernel_rfl
section
open Go.Shelf
theorem repXLTicks : Builder.Extra Try.prog Try.lrep_ren := {
  sizeBuilder := by kernel_rfl
  liesBuilder := by kernel_rfl
  t5 := Try.underlying5
  a5 := Try.isAgg5
  z5 := Try.sizeOf5
  v5 := Try.zeroValue5
  infoByte := by kernel_rfl
  cellsByte := by kernel_rfl
  sizeByte := by kernel_rfl
  neB5 := by decide }
end
theorem soundXLTicks : Sound Try.prog (idsOf idlLTicks) ext := sound_extT [(115, 875)] rfl ⟨extOk_repeat (by kernel_rfl) (fun s n h0 h1 h2 => contract_repeat (fun s c w h1 h2 => Any.strings_Repeat Try.lrep repXLTicks s c w h1 h2) s n h0 h1 h2), trivial⟩
theorem lawLTicks : ∀ trees, ShapedAll Try.prog 3 Try.f5.params.toList trees → ev Vs.G.T ext 6 (idsOf idlLTicks 5) trees = some (.bool true, []) := by
  intro trees h
  rw [Try.params5] at h
  obtain ⟨x0, _, rfl, k0, h⟩ := sh_cons (enc := (eSl false 1 (Tree.int .u8))) h (rd_slice (sz := 1) (enc := (Tree.int .u8)) Try.underlying22 (by kernel_rfl) (rd_int Try.underlying5) (fun _ => mkT_one (by simp [Try.underlying5]))) (fun _ => mkT_one (by simp [Try.underlying22]))
  obtain ⟨x1, _, rfl, k1, h⟩ := sh_cons (enc := (eSl false 1 (Tree.int .u8))) h (rd_slice (sz := 1) (enc := (Tree.int .u8)) Try.underlying22 (by kernel_rfl) (rd_int Try.underlying5) (fun _ => mkT_one (by simp [Try.underlying5]))) (fun _ => mkT_one (by simp [Try.underlying22]))
  obtain rfl := sh_nil h
  exact Vs.G.S380 0 _ (Vs.G.laws_FnTicks_true k0 k1)
theorem liftedLTicks (os : Os) (started : os.Started) (H : Type) (enc : TypeId × Value → H) :
    ReturnsInHanded {} Try.checked os 5 .any (Rows.fnTicksSpec.pre6 enc Try.prog Try.f5 Rows.fnTicksRow.domain false) (Rows.fnTicksSpec.post enc Try.prog Try.f5 false true false false) := by
  refine law_lifted (C := Try.checked) (L := idlLTicks) (T := Vs.G.T) (d := 6) (n := 3) (tb := 4) ownLTicks laidLTicks started (by kernel_rfl) Try.func5
    (ChangeSpec.witness6 (enc := enc) (C := Try.checked) false ⟨#[], #[.slice none 0 0, .slice none 0 0], []⟩ 8 (by kernel_rfl) (by kernel_rfl) (by kernel_rfl) (by kernel_rfl))
    (by kernel_rfl) rfl allLTicks soundXLTicks (by kernel_rfl) (by kernel_rfl) rfl Try.underlying4 rfl ?_ lawLTicks
  intro ds hd
  match ds, hd with
  | [a0, a1], _ => exact ⟨rfl, rfl, rfl⟩
theorem fnTicks_holds : Rows.FnTicksSaid :=
  OpenClaim.holds_of_wide 5 Try.f5 rfl rfl rfl rfl rfl rfl rfl ⟨rfl, rfl, rfl, rfl, rfl⟩ rfl rfl rfl rfl rfl (by kernel_rfl) Try.func5 (by kernel_rfl)
    (of_decide_eq_true (by kernel_rfl)) (by unfold Func.isWrapper; first | (rw [if_pos (by decide +kernel)]; kernel_rfl) | (rw [if_neg (by decide +kernel)]; exact ⟨rfl, rfl⟩))
    (fun os started H enc _ => liftedLTicks os started H enc)
#print axioms fnTicks_holds
end Go.Proofs.Ytiefnapeghkjnaa
