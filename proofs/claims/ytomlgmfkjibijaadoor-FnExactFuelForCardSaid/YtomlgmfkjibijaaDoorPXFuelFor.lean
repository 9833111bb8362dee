/- The Go law laws.FnExactFuelFor returns true for every input and leaves its arguments as they were. Conditions: the listed variables of the library hold what its text lays, as the given card ties it. -/
import Derived.Test.YtomlgmfkjibijaaDoorRows
import Derived.Test.YtomlgmfkjibijaaDoorCards
import Derived.Test.YtomlgmfkjibijaaDoorTie
import Derived.Test.YtomlgmfkjibijaaDoorSXFuelFor1
import Derived.Test.YtomlgmfkjibijaaDoorV6
import Derived.Test.YtomlgmfkjibijaaDoorHBurnsB
import Derived.Ground.NamesProg
import Derived.Shelf.Lay
import Derived.Shelf.Strings.SlTrimAscii
import Derived.Shelf.Strings.Count
import Derived.Test.YtomlgmfkjibijaaDoorLXFuelFor
import Derived.ProofKit
import Derived.OpenShut
import Derived.LaidMore
import Derived.Lay
import Derived.SevenTiedAt
import Derived.Stop.Joined
set_option maxRecDepth 100000
namespace Go.Proofs.YtomlgmfkjibijaaDoor
open Go.ChangeShapes Go.WideShapes Go.ChangeAt Go.RowKit Go.Vs

theorem ownXFuelFor : ownKnob Tryd.prog.godebug = none := by kernel_rfl
theorem laidXFuelFor : laidOutB Tryd.prog = true := by kernel_rfl
def idlXFuelFor : List (Nat × Nat) := [(8, 343), (20, 207), (32, 527), (33, 104), (43, 757), (44, 876), (47, 758), (48, 255), (49, 605), (50, 326), (51, 870)]
theorem allXFuelFor : allOk Tryd.prog idlXFuelFor Vs.G.T = true := by kernel_rfl
theorem soundXXFuelFor : Sound Tryd.prog (idsOf idlXFuelFor) ext := sound_extT [(44, 876), (51, 870)] rfl ⟨extOk_trim (by kernel_rfl) (fun s cs h1 h2 h3 => contract_trim (fun s cs w h1 h2 h3 => Any.strings_Trim_laid Tryd.ltrim (by kernel_rfl) s cs w h1 h2 h3) s cs h1 h2 h3), extOk_count (by kernel_rfl) (fun s c => contract_count (fun s c w => Any.strings_Count_one Tryd.lcount s c w) s c), trivial⟩
theorem lawXFuelFor : ∀ trees, ShapedAll Tryd.prog 2 Tryd.f8.params.toList trees → ev Vs.G.T ext 3 (idsOf idlXFuelFor 8) trees = some (.bool true, []) := by
  intro trees h
  rw [Tryd.params8] at h
  obtain ⟨x0, _, rfl, k0, h⟩ := sh_cons (enc := Tree.str) h (rd_str Tryd.underlying9) (fun _ => mkT_one (by simp [Tryd.underlying9]))
  obtain ⟨x1, _, rfl, k1, h⟩ := sh_cons (enc := (Tree.int .i64)) h (rd_int Tryd.underlying2) (fun _ => mkT_one (by simp [Tryd.underlying2]))
  obtain ⟨x2, _, rfl, k2, h⟩ := sh_cons (enc := (Tree.int .i64)) h (rd_int Tryd.underlying2) (fun _ => mkT_one (by simp [Tryd.underlying2]))
  obtain rfl := sh_nil h
  exact Vs.G.S343 0 _ (Vs.G.laws_FnExactFuelFor_true k0 k1 k2)
theorem liftedXFuelFor (os : Os) (started : os.Started) (H : Type) (enc : TypeId × Value → H) :
    ReturnsInHanded {} Tryd.checked os 8 .any (fun w args => (Rows.fnExactFuelForSpec.pre enc Tryd.prog Tryd.f8 Rows.fnExactFuelForRow.domain false w args ∧ laidMetH Tryd.prog Rows.fnExactFuelForRow.laid w) ∧ sizedMet enc Tryd.prog Tryd.f8 (OpenSpec.ofChange Rows.fnExactFuelForSpec) false w args) (Rows.fnExactFuelForSpec.post enc Tryd.prog Tryd.f8 false true false false) := by
  refine law_liftedD (C := Tryd.checked) (L := idlXFuelFor) (T := Vs.G.T) (d := 3) (n := 2) (tb := 4) (Y := fun w _ => laidMetH Tryd.prog Rows.fnExactFuelForRow.laid w) (fun _ _ _ hh h => h.of_heap hh) ownXFuelFor laidXFuelFor started (by kernel_rfl) Tryd.func8
    (ChangeSpec.witness_shaped (enc := enc) (C := Tryd.checked) (os := os) (X := fun w _ => laidMetH Tryd.prog Rows.fnExactFuelForRow.laid w) false (World.laidAll Tryd.prog os Rows.fnExactFuelForRow.laid) #[.string ⟨#[]⟩, .int .i64 0, .int .i64 0] 8 (World.laidAll_os _ _ _)
      (World.shaped_of_ZipB (by kernel_rfl) (by kernel_rfl)) (by kernel_rfl) (by kernel_rfl) (by kernel_rfl)
      (by rw [MakeChecks.laidMetH_plain _ _ _ (by kernel_rfl)]; exact laidMet_laidAll _ (by kernel_rfl) (by kernel_rfl)))
    (by kernel_rfl) rfl allXFuelFor soundXXFuelFor (by kernel_rfl) (by kernel_rfl) rfl Tryd.underlying4 rfl ?_ lawXFuelFor
  intro ds hd
  match ds, hd with
  | [a0, a1, a2], _ => exact ⟨rfl, rfl, rfl⟩
theorem fnExactFuelFor_holds : Rows.FnExactFuelForSaid :=
  OpenClaim.holds_of_wide 8 Tryd.f8 rfl rfl rfl rfl rfl rfl rfl ⟨rfl, rfl, rfl, rfl, rfl⟩ rfl rfl rfl rfl rfl (by kernel_rfl) Tryd.func8 (by kernel_rfl)
    (of_decide_eq_true (by kernel_rfl)) (by unfold Func.isWrapper; first | (rw [if_pos (by decide +kernel)]; kernel_rfl) | (rw [if_neg (by decide +kernel)]; exact ⟨rfl, rfl⟩))
    (fun os started H enc _ => liftedXFuelFor os started H enc)
theorem fnExactFuelFor_card_holds : Rows.FnExactFuelForCardSaid :=
  Claim7.holds_tied_plain_at .later [] [.data, .pinned] true (true, "6a7a4538170c0059f9789602adab37e9eaa1949ff0d96211368043b6e368c945") false fnExactFuelFor_holds (fun _ h => by cases h) (by kernel_rfl) (fun _ h => by cases h) fnExactFuelFor_row_tie rfl ⟨rfl, rfl⟩ (by kernel_rfl) rfl
    (fun f fn hf hfn => by
      obtain rfl : f = 8 := Option.some.inj ((show Tryd.prog.funcNamed "loop.example/g01063/laws.FnExactFuelFor" = some 8 by kernel_rfl).symm.trans hf) |>.symm
      obtain rfl : fn = Tryd.f8 := (Option.some.inj (Tryd.func8.symm.trans hfn)).symm
      exact ⟨by kernel_rfl, fun j t ht => by
        rw [Tryd.params8] at ht
        have hm : t ∈ [9, 2, 2] := by simpa using Array.mem_of_getElem? ht
        have hall : ([9, 2, 2].all fun u => !Tryd.prog.wantsStandIn u) = true := by kernel_rfl
        exact (show Tryd.prog.wantsStandIn t = false by simpa using List.all_eq_true.1 hall t hm)⟩)
    (by kernel_rfl)
#print axioms fnExactFuelFor_card_holds
end Go.Proofs.YtomlgmfkjibijaaDoor
