/- The Go law laws.FnLoadPlans returns true for every input and leaves its arguments as they were. Conditions: none beyond the row's own. -/
import Derived.Test.YtpjafacmfmhglaaRows
import Derived.Test.YtpjafacmfmhglaaSLLoadPlans2
import Derived.Test.YtpjafacmfmhglaaV6
import Derived.Test.YtpjafacmfmhglaaHLLoadPlans2
import Derived.Shelf.SlGeneric
import Derived.Shelf.SlicesE.Compact
import Derived.ProofKit
import Derived.Ground.NamesProg
import Derived.Shelf.Lay
import Derived.Shelf.Small.Strs
import Derived.Ground.SlgnProg
import Derived.Test.YtpjafacmfmhglaaLLLoadPlans
set_option maxRecDepth 100000
namespace Go.Proofs.Ytpjafacmfmhglaa
open Go.ChangeShapes Go.WideShapes Go.ChangeAt Go.RowKit Go.Vs

theorem ownLLoadPlans : ownKnob Try.prog.godebug = none := by kernel_rfl
theorem laidLLoadPlans : laidOutB Try.prog = true := by kernel_rfl
def idlLLoadPlans : List (Nat × Nat) := [(3, 364), (6, 386), (7, 433), (8, 186), (9, 90), (10, 384), (11, 122), (12, 157), (26, 753), (27, 603), (28, 229), (29, 835), (30, 790), (31, 307), (32, 290), (33, 250), (34, 326), (35, 873), (37, 7), (54, 277), (55, 859), (56, 778), (57, 830), (59, 5), (72, 844), (73, 841), (74, 837), (75, 839), (76, 861), (77, 853), (78, 28), (79, 855), (80, 857), (81, 779), (82, 780), (86, 864), (87, 850), (88, 9), (89, 846), (90, 848), (91, 30), (92, 851)]
theorem allLLoadPlans : allOk Try.prog idlLLoadPlans Vs.G.T = true := by kernel_rfl
section
open Go.Shelf
theorem compXLLoadPlans (w : World) : Calls Try.prog 30 #[.slice none 0 0] w fun e w' => e = .returned (.slice none 0 0) ∧ w' = w := by
  go_enter Try.func30, Try.ntmps30
  go_wp2
  all_goals (go_ret; exact ⟨rfl, rfl⟩)
end
def idsLLoadPlans : Ids := Ids.plain (idsOf idlLLoadPlans)
theorem soundXLLoadPlans : Sound Try.prog idsLLoadPlans ext := sound_extT (L := idlLLoadPlans) rfl [(30, 790), (35, 873)] rfl ⟨extOk_compactB (by kernel_rfl) (fun zs hz => contract_compact (fun blk off cap zs w hH hz hc => by
    have := AnyE.slices_Compact Try.lcompB (Value.int .u8) (fun _ => rfl) (EqlAt.intD _ _ _) (NeqAt.intD _ _ _) 0 Try.zeroValue5 blk off cap zs.toArray w hH (by simpa using hz) (by simpa using hc)
    change Calls Try.prog 30 _ _ _ at this
    simpa [Lib.compact] using this) compXLLoadPlans compact_len zs hz), extOk_idxB (by kernel_rfl) (fun s c => contract_idxB (fun s c w => Any.strings_IndexByte Try.lidxb s c w) s c), trivial⟩
theorem lawLLoadPlans : ∀ trees, ShapedAll Try.prog 3 Try.f3.params.toList trees → ev Vs.G.T ext 49 (idsOf idlLLoadPlans 3) trees = some (.bool true, []) := by
  intro trees h
  rw [Try.params3] at h
  obtain ⟨x0, _, rfl, k0, h⟩ := sh_cons (enc := (eSl false 1 (Tree.int .u8))) h (rd_slice (sz := 1) (enc := (Tree.int .u8)) Try.underlying22 (by kernel_rfl) (rd_int Try.underlying5) (fun _ => mkT_one (by simp [Try.underlying5]))) (fun _ => mkT_one (by simp [Try.underlying22]))
  obtain ⟨x1, _, rfl, k1, h⟩ := sh_cons (enc := (eSl false 1 (Tree.int .u8))) h (rd_slice (sz := 1) (enc := (Tree.int .u8)) Try.underlying22 (by kernel_rfl) (rd_int Try.underlying5) (fun _ => mkT_one (by simp [Try.underlying5]))) (fun _ => mkT_one (by simp [Try.underlying22]))
  obtain rfl := sh_nil h
  exact Vs.G.S364 0 _ (Vs.G.laws_FnLoadPlans_true k0 k1)
theorem liftedLLoadPlans (os : Os) (started : os.Started) (H : Type) (enc : TypeId × Value → H) :
    ReturnsInHanded {} Try.checked os 3 .any (Rows.fnLoadPlansSpec.pre6 enc Try.prog Try.f3 Rows.fnLoadPlansRow.domain false) (Rows.fnLoadPlansSpec.post enc Try.prog Try.f3 false true false false) := by
  refine law_lifted (C := Try.checked) (L := idlLLoadPlans) (T := Vs.G.T) (d := 49) (n := 3) (tb := 4) ownLLoadPlans laidLLoadPlans started (by kernel_rfl) Try.func3
    (ChangeSpec.witness6 (enc := enc) (C := Try.checked) false ⟨#[], #[.slice none 0 0, .slice none 0 0], []⟩ 8 (by kernel_rfl) (by kernel_rfl) (by kernel_rfl) (by kernel_rfl))
    (by kernel_rfl) rfl allLLoadPlans (by kernel_rfl) soundXLLoadPlans (by kernel_rfl) (by kernel_rfl) rfl Try.underlying4 rfl ?_ lawLLoadPlans
  intro ds hd
  match ds, hd with
  | [a0, a1], _ => exact ⟨rfl, rfl, rfl⟩
theorem fnLoadPlans_holds : Rows.FnLoadPlansSaid :=
  OpenClaim.holds_of_wide 3 Try.f3 rfl rfl rfl rfl rfl rfl rfl ⟨rfl, rfl, rfl, rfl, rfl⟩ rfl rfl rfl rfl rfl (by kernel_rfl) Try.func3 (by kernel_rfl)
    (of_decide_eq_true (by kernel_rfl)) (by unfold Func.isWrapper; first | (rw [if_pos (by decide +kernel)]; kernel_rfl) | (rw [if_neg (by decide +kernel)]; exact ⟨rfl, rfl⟩))
    (fun os started H enc _ => liftedLLoadPlans os started H enc)
#print axioms fnLoadPlans_holds
end Go.Proofs.Ytpjafacmfmhglaa
