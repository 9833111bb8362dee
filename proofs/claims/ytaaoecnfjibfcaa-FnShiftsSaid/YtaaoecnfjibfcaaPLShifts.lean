/- The Go law laws.FnShifts returns true for every input and leaves its arguments as they were. Conditions: none beyond the row's own. -/
import Derived.Test.YtaaoecnfjibfcaaRows
import Derived.Test.YtaaoecnfjibfcaaSLShifts1
import Derived.Test.YtaaoecnfjibfcaaV6
import Derived.Test.YtaaoecnfjibfcaaHLShifts1
import Derived.Shelf.SlGeneric
import Derived.Shelf.SlicesE.Clone
import Derived.Ground.SlgnProg
import Derived.Test.YtaaoecnfjibfcaaC
import Derived.Test.YtaaoecnfjibfcaaLLShifts
set_option maxRecDepth 100000
namespace Go.Proofs.Ytaaoecnfjibfcaa
open Go.ChangeShapes Go.WideShapes Go.ChangeAt Go.RowKit Go.Vs

theorem ownLShifts : ownKnob Try.prog.godebug = none := by kernel_rfl
theorem laidLShifts : laidOutB Try.prog = true := by kernel_rfl
def idlLShifts : List (Nat × Nat) := [(3, 375), (5, 386), (6, 424), (7, 112), (8, 146), (9, 123), (10, 568), (11, 547), (12, 390), (28, 731), (29, 603), (30, 210), (31, 293), (32, 242), (33, 113), (34, 306), (35, 260), (36, 124), (37, 315), (38, 784), (39, 733), (40, 605), (41, 734), (42, 732), (46, 326), (50, 7), (51, 272), (60, 800), (61, 211), (62, 786), (63, 606), (64, 730), (71, 5), (77, 822)]
theorem allLShifts : allOk Try.prog idlLShifts Vs.G.T = true := by kernel_rfl
def idsLShifts : Ids := Ids.plain (idsOf idlLShifts)
theorem soundXLShifts : Sound Try.prog idsLShifts ext := sound_extT (L := idlLShifts) rfl [(38, 784), (62, 786)] rfl ⟨extOk_clone (u := 784) (sz := 1) (fun _ => rfl) (by kernel_rfl) (fun es h1 h2 => contract_clone (ety := 2) (fun ad n c news w hl hn hc h1 => (clone_any Try.lclone784 ((Try.prog.info? 2).get (by kernel_rfl)) (.int .i64 0) 1 8 (by kernel_rfl) (by kernel_rfl) (by kernel_rfl) (by kernel_rfl) rfl (by decide) Try.sizeOf2 ad n c news w hl (by simp only [maxLen]; omega) (by omega) hc h1)) (fun n c w => AnyE.slices_Clone_nil Try.lclone784 n c w) es h1 h2), extOk_clone (u := 786) (sz := 4) (fun _ => rfl) (by kernel_rfl) (fun es h1 h2 => contract_clone (ety := 58) (fun ad n c news w hl hn hc h1 => (clone_any Try.lclone786 ((Try.prog.info? 58).get (by kernel_rfl)) (.agg #[.int .i64 0, .int .i64 0, .int .i64 0, .int .i64 0]) 4 32 (by kernel_rfl) (by kernel_rfl) (by kernel_rfl) (by kernel_rfl) rfl (by decide) Try.sizeOf58 ad n c news w hl (by simp only [maxLen]; omega) (by omega) hc h1)) (fun n c w => AnyE.slices_Clone_nil Try.lclone786 n c w) es h1 h2), trivial⟩
theorem lawLShifts : ∀ trees, ShapedAll Try.prog 3 Try.f3.params.toList trees → ev Vs.G.T ext 13 (idsOf idlLShifts 3) trees = some (.bool true, []) := by
  intro trees h
  rw [Try.params3] at h
  obtain ⟨x0, _, rfl, k0, h⟩ := sh_cons (enc := (eSl false 1 (Tree.int .u8))) h (rd_slice (sz := 1) (enc := (Tree.int .u8)) Try.underlying22 (by kernel_rfl) (rd_int Try.underlying5) (fun _ => mkT_one (by simp [Try.underlying5]))) (fun _ => mkT_one (by simp [Try.underlying22]))
  obtain rfl := sh_nil h
  exact Vs.G.S375 0 _ (Vs.G.laws_FnShifts_true k0)
theorem liftedLShifts (os : Os) (started : os.Started) (H : Type) (enc : TypeId × Value → H) :
    ReturnsInHanded {} Try.checked os 3 .any (Rows.fnShiftsSpec.pre6 enc Try.prog Try.f3 Rows.fnShiftsRow.domain false) (Rows.fnShiftsSpec.post enc Try.prog Try.f3 false true false false) := by
  refine law_lifted (C := Try.checked) (L := idlLShifts) (T := Vs.G.T) (d := 13) (n := 3) (tb := 4) ownLShifts laidLShifts started (by kernel_rfl) Try.func3
    (ChangeSpec.witness6 (enc := enc) (C := Try.checked) false ⟨#[], #[.slice none 0 0], []⟩ 8 (by kernel_rfl) (by kernel_rfl) (by kernel_rfl) (by kernel_rfl))
    (by kernel_rfl) rfl allLShifts (by kernel_rfl) soundXLShifts (by kernel_rfl) (by kernel_rfl) rfl Try.underlying4 rfl ?_ lawLShifts
  intro ds hd
  match ds, hd with
  | [a0], _ => exact ⟨rfl, rfl, rfl⟩
theorem fnShifts_holds : Rows.FnShiftsSaid :=
  OpenClaim.holds_of_wide 3 Try.f3 rfl rfl rfl rfl rfl rfl rfl ⟨rfl, rfl, rfl, rfl, rfl⟩ rfl rfl rfl rfl rfl (by kernel_rfl) Try.func3 (by kernel_rfl)
    (of_decide_eq_true (by kernel_rfl)) (by unfold Func.isWrapper; first | (rw [if_pos (by decide +kernel)]; kernel_rfl) | (rw [if_neg (by decide +kernel)]; exact ⟨rfl, rfl⟩))
    (fun os started H enc _ => liftedLShifts os started H enc)
#print axioms fnShifts_holds
end Go.Proofs.Ytaaoecnfjibfcaa
