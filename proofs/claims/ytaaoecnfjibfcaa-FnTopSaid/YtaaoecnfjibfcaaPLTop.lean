/- The Go law laws.FnTop returns true for every input and leaves its arguments as they were. Conditions: none beyond the row's own. -/
import Derived.Test.YtaaoecnfjibfcaaRows
import Derived.Test.YtaaoecnfjibfcaaSLTop2
import Derived.Test.YtaaoecnfjibfcaaV6
import Derived.Test.YtaaoecnfjibfcaaHLTop2
import Derived.Shelf.SlGeneric
import Derived.Shelf.SlicesE.Clone
import Derived.Ground.NamesProg
import Derived.Shelf.Lay
import Derived.Shelf.Small.Strs
import Derived.Ground.SlgnProg
import Derived.Test.YtaaoecnfjibfcaaC
import Derived.Test.YtaaoecnfjibfcaaLLTop
set_option maxRecDepth 100000
namespace Go.Proofs.Ytaaoecnfjibfcaa
open Go.ChangeShapes Go.WideShapes Go.ChangeAt Go.RowKit Go.Vs

theorem ownLTop : ownKnob Try.prog.godebug = none := by kernel_rfl
theorem laidLTop : laidOutB Try.prog = true := by kernel_rfl
def idlLTop : List (Nat × Nat) := [(4, 381), (5, 386), (6, 424), (8, 146), (9, 123), (10, 568), (11, 547), (12, 390), (13, 429), (14, 91), (15, 73), (16, 147), (17, 453), (18, 384), (19, 432), (20, 179), (21, 93), (22, 433), (23, 90), (24, 51), (25, 136), (26, 544), (27, 430), (28, 731), (29, 603), (30, 210), (31, 293), (32, 242), (34, 306), (35, 260), (36, 124), (37, 315), (38, 784), (39, 733), (40, 605), (41, 734), (42, 732), (43, 642), (44, 222), (45, 261), (46, 326), (47, 304), (48, 640), (49, 641), (50, 7), (51, 272), (52, 753), (53, 307), (54, 290), (55, 250), (56, 796), (57, 137), (58, 752), (59, 755), (60, 800), (61, 211), (62, 786), (63, 606), (64, 730), (65, 644), (66, 277), (67, 294), (68, 645), (69, 643), (70, 623), (71, 5), (72, 229), (73, 830), (74, 873), (75, 818), (76, 756), (77, 822), (78, 621), (80, 610), (82, 602)]
theorem allLTop : allOk Try.prog idlLTop Vs.G.T = true := by kernel_rfl
def idsLTop : Ids := Ids.plain (idsOf idlLTop)
theorem soundXLTop : Sound Try.prog idsLTop ext := sound_extT (L := idlLTop) rfl [(38, 784), (62, 786), (74, 873)] rfl ⟨extOk_clone (u := 784) (sz := 1) (fun _ => rfl) (by kernel_rfl) (fun es h1 h2 => contract_clone (ety := 2) (fun ad n c news w hl hn hc h1 => (clone_any Try.lclone784 ((Try.prog.info? 2).get (by kernel_rfl)) (.int .i64 0) 1 8 (by kernel_rfl) (by kernel_rfl) (by kernel_rfl) (by kernel_rfl) rfl (by decide) Try.sizeOf2 ad n c news w hl (by simp only [maxLen]; omega) (by omega) hc h1)) (fun n c w => AnyE.slices_Clone_nil Try.lclone784 n c w) es h1 h2), extOk_clone (u := 786) (sz := 4) (fun _ => rfl) (by kernel_rfl) (fun es h1 h2 => contract_clone (ety := 58) (fun ad n c news w hl hn hc h1 => (clone_any Try.lclone786 ((Try.prog.info? 58).get (by kernel_rfl)) (.agg #[.int .i64 0, .int .i64 0, .int .i64 0, .int .i64 0]) 4 32 (by kernel_rfl) (by kernel_rfl) (by kernel_rfl) (by kernel_rfl) rfl (by decide) Try.sizeOf58 ad n c news w hl (by simp only [maxLen]; omega) (by omega) hc h1)) (fun n c w => AnyE.slices_Clone_nil Try.lclone786 n c w) es h1 h2), extOk_idxB (by kernel_rfl) (fun s c => contract_idxB (fun s c w => Any.strings_IndexByte Try.lidxb s c w) s c), trivial⟩
theorem lawLTop : ∀ trees, ShapedAll Try.prog 3 Try.f4.params.toList trees → ev Vs.G.T ext 13 (idsOf idlLTop 4) trees = some (.bool true, []) := by
  intro trees h
  rw [Try.params4] at h
  obtain ⟨x0, _, rfl, k0, h⟩ := sh_cons (enc := (eSl false 1 (Tree.int .u8))) h (rd_slice (sz := 1) (enc := (Tree.int .u8)) Try.underlying22 (by kernel_rfl) (rd_int Try.underlying5) (fun _ => mkT_one (by simp [Try.underlying5]))) (fun _ => mkT_one (by simp [Try.underlying22]))
  obtain ⟨x1, _, rfl, k1, h⟩ := sh_cons (enc := (eSl false 1 (Tree.int .u8))) h (rd_slice (sz := 1) (enc := (Tree.int .u8)) Try.underlying22 (by kernel_rfl) (rd_int Try.underlying5) (fun _ => mkT_one (by simp [Try.underlying5]))) (fun _ => mkT_one (by simp [Try.underlying22]))
  obtain rfl := sh_nil h
  exact Vs.G.S381 0 _ (Vs.G.laws_FnTop_true k0 k1)
theorem liftedLTop (os : Os) (started : os.Started) (H : Type) (enc : TypeId × Value → H) :
    ReturnsInHanded {} Try.checked os 4 .any (Rows.fnTopSpec.pre6 enc Try.prog Try.f4 Rows.fnTopRow.domain false) (Rows.fnTopSpec.post enc Try.prog Try.f4 false true false false) := by
  refine law_lifted (C := Try.checked) (L := idlLTop) (T := Vs.G.T) (d := 13) (n := 3) (tb := 4) ownLTop laidLTop started (by kernel_rfl) Try.func4
    (ChangeSpec.witness6 (enc := enc) (C := Try.checked) false ⟨#[], #[.slice none 0 0, .slice none 0 0], []⟩ 8 (by kernel_rfl) (by kernel_rfl) (by kernel_rfl) (by kernel_rfl))
    (by kernel_rfl) rfl allLTop (by kernel_rfl) soundXLTop (by kernel_rfl) (by kernel_rfl) rfl Try.underlying4 rfl ?_ lawLTop
  intro ds hd
  match ds, hd with
  | [a0, a1], _ => exact ⟨rfl, rfl, rfl⟩
theorem fnTop_holds : Rows.FnTopSaid :=
  OpenClaim.holds_of_wide 4 Try.f4 rfl rfl rfl rfl rfl rfl rfl ⟨rfl, rfl, rfl, rfl, rfl⟩ rfl rfl rfl rfl rfl (by kernel_rfl) Try.func4 (by kernel_rfl)
    (of_decide_eq_true (by kernel_rfl)) (by unfold Func.isWrapper; first | (rw [if_pos (by decide +kernel)]; kernel_rfl) | (rw [if_neg (by decide +kernel)]; exact ⟨rfl, rfl⟩))
    (fun os started H enc _ => liftedLTop os started H enc)
#print axioms fnTop_holds
end Go.Proofs.Ytaaoecnfjibfcaa
