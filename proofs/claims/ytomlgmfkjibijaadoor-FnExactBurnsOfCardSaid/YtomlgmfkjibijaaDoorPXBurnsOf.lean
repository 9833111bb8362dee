/- The Go law laws.FnExactBurnsOf returns true for every input and leaves its arguments as they were. Conditions: the listed variables of the library hold what its text lays, as the given card ties it. -/
import Derived.Test.YtomlgmfkjibijaaDoorRows
import Derived.Test.YtomlgmfkjibijaaDoorCards
import Derived.Test.YtomlgmfkjibijaaDoorTie
import Derived.Test.YtomlgmfkjibijaaDoorSXBurnsOf1
import Derived.Test.YtomlgmfkjibijaaDoorV6
import Derived.Test.YtomlgmfkjibijaaDoorHBurnsB
import Derived.Ground.NamesProg
import Derived.Shelf.Lay
import Derived.Shelf.Strings.SlTrimAscii
import Derived.Test.YtomlgmfkjibijaaDoorLXBurnsOf
import Derived.ProofKit
import Derived.OpenShut
import Derived.LaidMore
import Derived.Lay
import Derived.SevenTiedAt
import Derived.Stop.Joined
set_option maxRecDepth 100000
namespace Go.Proofs.YtomlgmfkjibijaaDoor
open Go.ChangeShapes Go.WideShapes Go.ChangeAt Go.RowKit Go.Vs

theorem ownXBurnsOf : ownKnob Tryd.prog.godebug = none := by kernel_rfl
theorem laidXBurnsOf : laidOutB Tryd.prog = true := by kernel_rfl
def idlXBurnsOf : List (Nat × Nat) := [(6, 337), (20, 207), (23, 446), (24, 61), (25, 394), (26, 409), (27, 406), (29, 393), (30, 408), (31, 405), (43, 757), (44, 876), (47, 758), (48, 255)]
theorem allXBurnsOf : allOk Tryd.prog idlXBurnsOf Vs.G.T = true := by kernel_rfl
theorem soundXXBurnsOf : Sound Tryd.prog (idsOf idlXBurnsOf) ext := sound_extT [(44, 876)] rfl ⟨extOk_trim (by kernel_rfl) (fun s cs h1 h2 h3 => contract_trim (fun s cs w h1 h2 h3 => Any.strings_Trim_laid Tryd.ltrim (by kernel_rfl) s cs w h1 h2 h3) s cs h1 h2 h3), trivial⟩
theorem lawXBurnsOf : ∀ trees, ShapedAll Tryd.prog 2 Tryd.f6.params.toList trees → ev Vs.G.T ext 3 (idsOf idlXBurnsOf 6) trees = some (.bool true, []) := by
  intro trees h
  rw [Tryd.params6] at h
  obtain ⟨x0, _, rfl, k0, h⟩ := sh_cons (enc := Tree.str) h (rd_str Tryd.underlying9) (fun _ => mkT_one (by simp [Tryd.underlying9]))
  obtain rfl := sh_nil h
  exact Vs.G.S337 0 _ (Vs.G.laws_FnExactBurnsOf_true k0)
theorem liftedXBurnsOf (os : Os) (started : os.Started) (H : Type) (enc : TypeId × Value → H) :
    ReturnsInHanded {} Tryd.checked os 6 .any (fun w args => (Rows.fnExactBurnsOfSpec.pre enc Tryd.prog Tryd.f6 Rows.fnExactBurnsOfRow.domain false w args ∧ laidMetH Tryd.prog Rows.fnExactBurnsOfRow.laid w) ∧ sizedMet enc Tryd.prog Tryd.f6 (OpenSpec.ofChange Rows.fnExactBurnsOfSpec) false w args) (Rows.fnExactBurnsOfSpec.post enc Tryd.prog Tryd.f6 false true false false) := by
  refine law_liftedD (C := Tryd.checked) (L := idlXBurnsOf) (T := Vs.G.T) (d := 3) (n := 2) (tb := 4) (Y := fun w _ => laidMetH Tryd.prog Rows.fnExactBurnsOfRow.laid w) (fun _ _ _ hh h => h.of_heap hh) ownXBurnsOf laidXBurnsOf started (by kernel_rfl) Tryd.func6
    (ChangeSpec.witness_shaped (enc := enc) (C := Tryd.checked) (os := os) (X := fun w _ => laidMetH Tryd.prog Rows.fnExactBurnsOfRow.laid w) false (World.laidAll Tryd.prog os Rows.fnExactBurnsOfRow.laid) #[.string ⟨#[]⟩] 8 (World.laidAll_os _ _ _)
      (World.shaped_of_ZipB (by kernel_rfl) (by kernel_rfl)) (by kernel_rfl) (by kernel_rfl) (by kernel_rfl)
      (by rw [MakeChecks.laidMetH_plain _ _ _ (by kernel_rfl)]; exact laidMet_laidAll _ (by kernel_rfl) (by kernel_rfl)))
    (by kernel_rfl) rfl allXBurnsOf soundXXBurnsOf (by kernel_rfl) (by kernel_rfl) rfl Tryd.underlying4 rfl ?_ lawXBurnsOf
  intro ds hd
  match ds, hd with
  | [a0], _ => exact ⟨rfl, rfl, rfl⟩
theorem fnExactBurnsOf_holds : Rows.FnExactBurnsOfSaid :=
  OpenClaim.holds_of_wide 6 Tryd.f6 rfl rfl rfl rfl rfl rfl rfl ⟨rfl, rfl, rfl, rfl, rfl⟩ rfl rfl rfl rfl rfl (by kernel_rfl) Tryd.func6 (by kernel_rfl)
    (of_decide_eq_true (by kernel_rfl)) (by unfold Func.isWrapper; first | (rw [if_pos (by decide +kernel)]; kernel_rfl) | (rw [if_neg (by decide +kernel)]; exact ⟨rfl, rfl⟩))
    (fun os started H enc _ => liftedXBurnsOf os started H enc)
theorem fnExactBurnsOf_card_holds : Rows.FnExactBurnsOfCardSaid :=
  Claim7.holds_tied_plain_at .later [] [.data, .pinned] true (true, "6a7a4538170c0059f9789602adab37e9eaa1949ff0d96211368043b6e368c945") false fnExactBurnsOf_holds (fun _ h => by cases h) (by kernel_rfl) (fun _ h => by cases h) fnExactBurnsOf_row_tie rfl ⟨rfl, rfl⟩ (by kernel_rfl) rfl
    (fun f fn hf hfn => by
      obtain rfl : f = 6 := Option.some.inj ((show Tryd.prog.funcNamed "loop.example/g01063/laws.FnExactBurnsOf" = some 6 by kernel_rfl).symm.trans hf) |>.symm
      obtain rfl : fn = Tryd.f6 := (Option.some.inj (Tryd.func6.symm.trans hfn)).symm
      exact ⟨by kernel_rfl, fun j t ht => by
        rw [Tryd.params6] at ht
        have hm : t ∈ [9] := by simpa using Array.mem_of_getElem? ht
        have hall : ([9].all fun u => !Tryd.prog.wantsStandIn u) = true := by kernel_rfl
        exact (show Tryd.prog.wantsStandIn t = false by simpa using List.all_eq_true.1 hall t hm)⟩)
    (by kernel_rfl)
#print axioms fnExactBurnsOf_card_holds
end Go.Proofs.YtomlgmfkjibijaaDoor
