/- The Go law laws.FnExactValidBurning returns true for every input and leaves its arguments as they were. Conditions: the listed variables of the library hold what its text lays, as the given card ties it. -/
import Derived.Test.YtomlgmfkjibijaaDoorRows
import Derived.Test.YtomlgmfkjibijaaDoorCards
import Derived.Test.YtomlgmfkjibijaaDoorTie
import Derived.Test.YtomlgmfkjibijaaDoorSXValidBurning1
import Derived.Test.YtomlgmfkjibijaaDoorV6
import Derived.Test.YtomlgmfkjibijaaDoorHXValidBurning1
import Derived.Ground.NamesProg
import Derived.Shelf.Lay
import Derived.Shelf.Strings.SlTrimAscii
import Derived.Test.YtomlgmfkjibijaaDoorLXValidBurning
import Derived.ProofKit
import Derived.OpenShut
import Derived.LaidMore
import Derived.Lay
import Derived.SevenTiedAt
import Derived.Stop.Joined
set_option maxRecDepth 100000
namespace Go.Proofs.YtomlgmfkjibijaaDoor
open Go.ChangeShapes Go.WideShapes Go.ChangeAt Go.RowKit Go.Vs

theorem ownXValidBurning : ownKnob Tryd.prog.godebug = none := by kernel_rfl
theorem laidXValidBurning : laidOutB Tryd.prog = true := by kernel_rfl
def idlXValidBurning : List (Nat × Nat) := [(4, 349), (19, 589), (20, 207), (43, 757), (44, 876)]
theorem allXValidBurning : allOk Tryd.prog idlXValidBurning Vs.G.T = true := by kernel_rfl
theorem soundXXValidBurning : Sound Tryd.prog (idsOf idlXValidBurning) ext := sound_extT [(44, 876)] rfl ⟨extOk_trim (by kernel_rfl) (fun s cs h1 h2 h3 => contract_trim (fun s cs w h1 h2 h3 => Any.strings_Trim_laid Tryd.ltrim (by kernel_rfl) s cs w h1 h2 h3) s cs h1 h2 h3), trivial⟩
theorem lawXValidBurning : ∀ trees, ShapedAll Tryd.prog 2 Tryd.f4.params.toList trees → ev Vs.G.T ext 3 (idsOf idlXValidBurning 4) trees = some (.bool true, []) := by
  intro trees h
  rw [Tryd.params4] at h
  obtain ⟨x0, _, rfl, k0, h⟩ := sh_cons (enc := Tree.str) h (rd_str Tryd.underlying9) (fun _ => mkT_one (by simp [Tryd.underlying9]))
  obtain rfl := sh_nil h
  exact Vs.G.S349 0 _ (Vs.G.laws_FnExactValidBurning_true k0)
theorem liftedXValidBurning (os : Os) (started : os.Started) (H : Type) (enc : TypeId × Value → H) :
    ReturnsInHanded {} Tryd.checked os 4 .any (fun w args => (Rows.fnExactValidBurningSpec.pre enc Tryd.prog Tryd.f4 Rows.fnExactValidBurningRow.domain false w args ∧ laidMetH Tryd.prog Rows.fnExactValidBurningRow.laid w) ∧ sizedMet enc Tryd.prog Tryd.f4 (OpenSpec.ofChange Rows.fnExactValidBurningSpec) false w args) (Rows.fnExactValidBurningSpec.post enc Tryd.prog Tryd.f4 false true false false) := by
  refine law_liftedD (C := Tryd.checked) (L := idlXValidBurning) (T := Vs.G.T) (d := 3) (n := 2) (tb := 4) (Y := fun w _ => laidMetH Tryd.prog Rows.fnExactValidBurningRow.laid w) (fun _ _ _ hh h => h.of_heap hh) ownXValidBurning laidXValidBurning started (by kernel_rfl) Tryd.func4
    (ChangeSpec.witness_shaped (enc := enc) (C := Tryd.checked) (os := os) (X := fun w _ => laidMetH Tryd.prog Rows.fnExactValidBurningRow.laid w) false (World.laidAll Tryd.prog os Rows.fnExactValidBurningRow.laid) #[.string ⟨#[]⟩] 8 (World.laidAll_os _ _ _)
      (World.shaped_of_ZipB (by kernel_rfl) (by kernel_rfl)) (by kernel_rfl) (by kernel_rfl) (by kernel_rfl)
      (by rw [MakeChecks.laidMetH_plain _ _ _ (by kernel_rfl)]; exact laidMet_laidAll _ (by kernel_rfl) (by kernel_rfl)))
    (by kernel_rfl) rfl allXValidBurning soundXXValidBurning (by kernel_rfl) (by kernel_rfl) rfl Tryd.underlying4 rfl ?_ lawXValidBurning
  intro ds hd
  match ds, hd with
  | [a0], _ => exact ⟨rfl, rfl, rfl⟩
theorem fnExactValidBurning_holds : Rows.FnExactValidBurningSaid :=
  OpenClaim.holds_of_wide 4 Tryd.f4 rfl rfl rfl rfl rfl rfl rfl ⟨rfl, rfl, rfl, rfl, rfl⟩ rfl rfl rfl rfl rfl (by kernel_rfl) Tryd.func4 (by kernel_rfl)
    (of_decide_eq_true (by kernel_rfl)) (by unfold Func.isWrapper; first | (rw [if_pos (by decide +kernel)]; kernel_rfl) | (rw [if_neg (by decide +kernel)]; exact ⟨rfl, rfl⟩))
    (fun os started H enc _ => liftedXValidBurning os started H enc)
theorem fnExactValidBurning_card_holds : Rows.FnExactValidBurningCardSaid :=
  Claim7.holds_tied_plain_at .later [] [.data, .pinned] true (true, "6a7a4538170c0059f9789602adab37e9eaa1949ff0d96211368043b6e368c945") false fnExactValidBurning_holds (fun _ h => by cases h) (by kernel_rfl) (fun _ h => by cases h) fnExactValidBurning_row_tie rfl ⟨rfl, rfl⟩ (by kernel_rfl) rfl
    (fun f fn hf hfn => by
      obtain rfl : f = 4 := Option.some.inj ((show Tryd.prog.funcNamed "loop.example/g01063/laws.FnExactValidBurning" = some 4 by kernel_rfl).symm.trans hf) |>.symm
      obtain rfl : fn = Tryd.f4 := (Option.some.inj (Tryd.func4.symm.trans hfn)).symm
      exact ⟨by kernel_rfl, fun j t ht => by
        rw [Tryd.params4] at ht
        have hm : t ∈ [9] := by simpa using Array.mem_of_getElem? ht
        have hall : ([9].all fun u => !Tryd.prog.wantsStandIn u) = true := by kernel_rfl
        exact (show Tryd.prog.wantsStandIn t = false by simpa using List.all_eq_true.1 hall t hm)⟩)
    (by kernel_rfl)
#print axioms fnExactValidBurning_card_holds
end Go.Proofs.YtomlgmfkjibijaaDoor
