/- The Go law laws.FnBooks returns true for every input and leaves its arguments as they were. Conditions: none beyond the row's own. -/
import Derived.Test.YtiefnapeghkjnaaRows
import Derived.Test.YtiefnapeghkjnaaSLBooks1
import Derived.Test.YtiefnapeghkjnaaV6
import Derived.Test.YtiefnapeghkjnaaHLBooks1
import Derived.Ground.NamesProg
import Derived.Shelf.Lay
import Derived.Shelf.Strings.Repeat
import Derived.Ground.SlgnProg
import Derived.Test.YtiefnapeghkjnaaLLBooks
set_option maxRecDepth 100000
namespace Go.Proofs.Ytiefnapeghkjnaa
open Go.ChangeShapes Go.WideShapes Go.ChangeAt Go.RowKit Go.Vs

theorem ownLBooks : ownKnob Try.prog.godebug = none := by kernel_rfl
theorem laidLBooks : laidOutB Try.prog = true := by kernel_rfl
def idlLBooks : List (Nat × Nat) := [(4, 328), (29, 386), (30, 431), (31, 80), (32, 127), (33, 57), (34, 77), (35, 174), (36, 562), (37, 384), (38, 159), (91, 603), (95, 6), (97, 7), (100, 245), (103, 326), (109, 657), (110, 227), (111, 805), (112, 81), (113, 252), (114, 296), (115, 875), (116, 265), (117, 295), (118, 315), (183, 5), (188, 8), (189, 277), (190, 827), (191, 301)]
theorem allLBooks : allOk Try.prog idlLBooks Vs.G.T = true := by kernel_rfl
section
open Go.Shelf
theorem repXLBooks : Builder.Extra Try.prog Try.lrep_ren := {
  sizeBuilder := by kernel_rfl
  liesBuilder := by kernel_rfl
  t5 := Try.underlying5
  a5 := Try.isAgg5
  z5 := Try.sizeOf5
  v5 := Try.zeroValue5
  infoByte := by kernel_rfl
  cellsByte := by kernel_rfl
  sizeByte := by kernel_rfl
  neB5 := by decide }
end
theorem soundXLBooks : Sound Try.prog (idsOf idlLBooks) ext := sound_extT [(115, 875)] rfl ⟨extOk_repeat (by kernel_rfl) (fun s n h0 h1 h2 => contract_repeat (fun s c w h1 h2 => Any.strings_Repeat Try.lrep repXLBooks s c w h1 h2) s n h0 h1 h2), trivial⟩
theorem lawLBooks : ∀ trees, ShapedAll Try.prog 3 Try.f4.params.toList trees → ev Vs.G.T ext 6 (idsOf idlLBooks 4) trees = some (.bool true, []) := by
  intro trees h
  rw [Try.params4] at h
  obtain ⟨x0, _, rfl, k0, h⟩ := sh_cons (enc := (eSl false 1 (Tree.int .u8))) h (rd_slice (sz := 1) (enc := (Tree.int .u8)) Try.underlying22 (by kernel_rfl) (rd_int Try.underlying5) (fun _ => mkT_one (by simp [Try.underlying5]))) (fun _ => mkT_one (by simp [Try.underlying22]))
  obtain ⟨x1, _, rfl, k1, h⟩ := sh_cons (enc := (eSl false 1 (Tree.int .u8))) h (rd_slice (sz := 1) (enc := (Tree.int .u8)) Try.underlying22 (by kernel_rfl) (rd_int Try.underlying5) (fun _ => mkT_one (by simp [Try.underlying5]))) (fun _ => mkT_one (by simp [Try.underlying22]))
  obtain rfl := sh_nil h
  exact Vs.G.S328 0 _ (Vs.G.laws_FnBooks_true k0 k1)
theorem liftedLBooks (os : Os) (started : os.Started) (H : Type) (enc : TypeId × Value → H) :
    ReturnsInHanded {} Try.checked os 4 .any (Rows.fnBooksSpec.pre6 enc Try.prog Try.f4 Rows.fnBooksRow.domain false) (Rows.fnBooksSpec.post enc Try.prog Try.f4 false true false false) := by
  refine law_lifted (C := Try.checked) (L := idlLBooks) (T := Vs.G.T) (d := 6) (n := 3) (tb := 4) ownLBooks laidLBooks started (by kernel_rfl) Try.func4
    (ChangeSpec.witness6 (enc := enc) (C := Try.checked) false ⟨#[], #[.slice none 0 0, .slice none 0 0], []⟩ 8 (by kernel_rfl) (by kernel_rfl) (by kernel_rfl) (by kernel_rfl))
    (by kernel_rfl) rfl allLBooks soundXLBooks (by kernel_rfl) (by kernel_rfl) rfl Try.underlying4 rfl ?_ lawLBooks
  intro ds hd
  match ds, hd with
  | [a0, a1], _ => exact ⟨rfl, rfl, rfl⟩
theorem fnBooks_holds : Rows.FnBooksSaid :=
  OpenClaim.holds_of_wide 4 Try.f4 rfl rfl rfl rfl rfl rfl rfl ⟨rfl, rfl, rfl, rfl, rfl⟩ rfl rfl rfl rfl rfl (by kernel_rfl) Try.func4 (by kernel_rfl)
    (of_decide_eq_true (by kernel_rfl)) (by unfold Func.isWrapper; first | (rw [if_pos (by decide +kernel)]; kernel_rfl) | (rw [if_neg (by decide +kernel)]; exact ⟨rfl, rfl⟩))
    (fun os started H enc _ => liftedLBooks os started H enc)
#print axioms fnBooks_holds
end Go.Proofs.Ytiefnapeghkjnaa
