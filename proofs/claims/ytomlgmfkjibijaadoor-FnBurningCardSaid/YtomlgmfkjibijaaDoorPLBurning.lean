/- The Go law laws.FnBurning returns true for every input and leaves its arguments as they were. Conditions: the listed variables of the library hold what its text lays, as the given card ties it. -/
import Derived.Test.YtomlgmfkjibijaaDoorRows
import Derived.Test.YtomlgmfkjibijaaDoorCards
import Derived.Test.YtomlgmfkjibijaaDoorTie
import Derived.Test.YtomlgmfkjibijaaDoorSLBurning1
import Derived.Test.YtomlgmfkjibijaaDoorV6
import Derived.Test.YtomlgmfkjibijaaDoorHBurnsC
import Derived.Ground.NamesProg
import Derived.Shelf.Lay
import Derived.Shelf.Strings.SlTrimAscii
import Derived.Test.YtomlgmfkjibijaaDoorLLBurning
import Derived.ProofKit
import Derived.OpenShut
import Derived.LaidMore
import Derived.Lay
import Derived.SevenTiedAt
import Derived.Stop.Joined
set_option maxRecDepth 100000
namespace Go.Proofs.YtomlgmfkjibijaaDoor
open Go.ChangeShapes Go.WideShapes Go.ChangeAt Go.RowKit Go.Vs

theorem ownLBurning : ownKnob Tryd.prog.godebug = none := by kernel_rfl
theorem laidLBurning : laidOutB Tryd.prog = true := by kernel_rfl
def idlLBurning : List (Nat × Nat) := [(3, 329), (10, 386), (11, 427), (12, 384), (13, 145), (14, 49), (15, 95), (16, 387), (17, 423), (18, 114), (20, 207), (36, 760), (37, 603), (38, 284), (39, 249), (40, 7), (41, 217), (42, 18), (44, 876), (50, 326), (52, 5)]
theorem allLBurning : allOk Tryd.prog idlLBurning Vs.G.T = true := by kernel_rfl
theorem soundXLBurning : Sound Tryd.prog (idsOf idlLBurning) ext := sound_extT [(44, 876)] rfl ⟨extOk_trim (by kernel_rfl) (fun s cs h1 h2 h3 => contract_trim (fun s cs w h1 h2 h3 => Any.strings_Trim_laid Tryd.ltrim (by kernel_rfl) s cs w h1 h2 h3) s cs h1 h2 h3), trivial⟩
theorem lawLBurning : ∀ trees, ShapedAll Tryd.prog 3 Tryd.f3.params.toList trees → ev Vs.G.T ext 5 (idsOf idlLBurning 3) trees = some (.bool true, []) := by
  intro trees h
  rw [Tryd.params3] at h
  obtain ⟨x0, _, rfl, k0, h⟩ := sh_cons (enc := (eSl false 1 (Tree.int .u8))) h (rd_slice (sz := 1) (enc := (Tree.int .u8)) Tryd.underlying22 (by kernel_rfl) (rd_int Tryd.underlying5) (fun _ => mkT_one (by simp [Tryd.underlying5]))) (fun _ => mkT_one (by simp [Tryd.underlying22]))
  obtain ⟨x1, _, rfl, k1, h⟩ := sh_cons (enc := (eSl false 1 (Tree.int .u8))) h (rd_slice (sz := 1) (enc := (Tree.int .u8)) Tryd.underlying22 (by kernel_rfl) (rd_int Tryd.underlying5) (fun _ => mkT_one (by simp [Tryd.underlying5]))) (fun _ => mkT_one (by simp [Tryd.underlying22]))
  obtain rfl := sh_nil h
  exact Vs.G.S329 0 _ (Vs.G.laws_FnBurning_true k0 k1)
theorem liftedLBurning (os : Os) (started : os.Started) (H : Type) (enc : TypeId × Value → H) :
    ReturnsInHanded {} Tryd.checked os 3 .any (fun w args => (Rows.fnBurningSpec.pre enc Tryd.prog Tryd.f3 Rows.fnBurningRow.domain false w args ∧ laidMetH Tryd.prog Rows.fnBurningRow.laid w) ∧ sizedMet enc Tryd.prog Tryd.f3 (OpenSpec.ofChange Rows.fnBurningSpec) false w args) (Rows.fnBurningSpec.post enc Tryd.prog Tryd.f3 false true false false) := by
  refine law_liftedD (C := Tryd.checked) (L := idlLBurning) (T := Vs.G.T) (d := 5) (n := 3) (tb := 4) (Y := fun w _ => laidMetH Tryd.prog Rows.fnBurningRow.laid w) (fun _ _ _ hh h => h.of_heap hh) ownLBurning laidLBurning started (by kernel_rfl) Tryd.func3
    (ChangeSpec.witness_shaped (enc := enc) (C := Tryd.checked) (os := os) (X := fun w _ => laidMetH Tryd.prog Rows.fnBurningRow.laid w) false (World.laidAll Tryd.prog os Rows.fnBurningRow.laid) #[.slice none 0 0, .slice none 0 0] 8 (World.laidAll_os _ _ _)
      (World.shaped_of_ZipB (by kernel_rfl) (by kernel_rfl)) (by kernel_rfl) (by kernel_rfl) (by kernel_rfl)
      (by rw [MakeChecks.laidMetH_plain _ _ _ (by kernel_rfl)]; exact laidMet_laidAll _ (by kernel_rfl) (by kernel_rfl)))
    (by kernel_rfl) rfl allLBurning soundXLBurning (by kernel_rfl) (by kernel_rfl) rfl Tryd.underlying4 rfl ?_ lawLBurning
  intro ds hd
  match ds, hd with
  | [a0, a1], _ => exact ⟨rfl, rfl, rfl⟩
theorem fnBurning_holds : Rows.FnBurningSaid :=
  OpenClaim.holds_of_wide 3 Tryd.f3 rfl rfl rfl rfl rfl rfl rfl ⟨rfl, rfl, rfl, rfl, rfl⟩ rfl rfl rfl rfl rfl (by kernel_rfl) Tryd.func3 (by kernel_rfl)
    (of_decide_eq_true (by kernel_rfl)) (by unfold Func.isWrapper; first | (rw [if_pos (by decide +kernel)]; kernel_rfl) | (rw [if_neg (by decide +kernel)]; exact ⟨rfl, rfl⟩))
    (fun os started H enc _ => liftedLBurning os started H enc)
theorem fnBurning_card_holds : Rows.FnBurningCardSaid :=
  Claim7.holds_tied_plain_at .later [] [.data, .pinned] true (true, "6a7a4538170c0059f9789602adab37e9eaa1949ff0d96211368043b6e368c945") false fnBurning_holds (fun _ h => by cases h) (by kernel_rfl) (fun _ h => by cases h) fnBurning_row_tie rfl ⟨rfl, rfl⟩ (by kernel_rfl) rfl
    (fun f fn hf hfn => by
      obtain rfl : f = 3 := Option.some.inj ((show Tryd.prog.funcNamed "loop.example/g01063/laws.FnBurning" = some 3 by kernel_rfl).symm.trans hf) |>.symm
      obtain rfl : fn = Tryd.f3 := (Option.some.inj (Tryd.func3.symm.trans hfn)).symm
      exact ⟨by kernel_rfl, fun j t ht => by
        rw [Tryd.params3] at ht
        have hm : t ∈ [22, 22] := by simpa using Array.mem_of_getElem? ht
        have hall : ([22, 22].all fun u => !Tryd.prog.wantsStandIn u) = true := by kernel_rfl
        exact (show Tryd.prog.wantsStandIn t = false by simpa using List.all_eq_true.1 hall t hm)⟩)
    (by kernel_rfl)
#print axioms fnBurning_card_holds
end Go.Proofs.YtomlgmfkjibijaaDoor
