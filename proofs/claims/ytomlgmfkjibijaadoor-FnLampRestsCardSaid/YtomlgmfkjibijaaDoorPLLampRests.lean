/- The Go law laws.FnLampRests returns true for every input and leaves its arguments as they were. Conditions: the listed variables of the library hold what its text lays, as the given card ties it. -/
import Derived.Test.YtomlgmfkjibijaaDoorRows
import Derived.Test.YtomlgmfkjibijaaDoorCards
import Derived.Test.YtomlgmfkjibijaaDoorTie
import Derived.Test.YtomlgmfkjibijaaDoorSLLampRests1
import Derived.Test.YtomlgmfkjibijaaDoorV6
import Derived.Test.YtomlgmfkjibijaaDoorHLLampRests1
import Derived.Ground.NamesProg
import Derived.Shelf.Lay
import Derived.Shelf.Strings.SlTrimAscii
import Derived.Shelf.Strings.Count
import Derived.Test.YtomlgmfkjibijaaDoorLLLampRests
import Derived.ProofKit
import Derived.OpenShut
import Derived.LaidMore
import Derived.Lay
import Derived.SevenTiedAt
import Derived.Stop.Joined
set_option maxRecDepth 100000
namespace Go.Proofs.YtomlgmfkjibijaaDoor
open Go.ChangeShapes Go.WideShapes Go.ChangeAt Go.RowKit Go.Vs

theorem ownLLampRests : ownKnob Tryd.prog.godebug = none := by kernel_rfl
theorem laidLLampRests : laidOutB Tryd.prog = true := by kernel_rfl
def idlLLampRests : List (Nat × Nat) := [(9, 357), (10, 386), (11, 427), (12, 384), (16, 387), (17, 423), (20, 207), (24, 61), (33, 104), (34, 139), (35, 167), (36, 760), (37, 603), (40, 7), (41, 217), (44, 876), (48, 255), (50, 326), (51, 870), (52, 5)]
theorem allLLampRests : allOk Tryd.prog idlLLampRests Vs.G.T = true := by kernel_rfl
theorem soundXLLampRests : Sound Tryd.prog (idsOf idlLLampRests) ext := sound_extT [(44, 876), (51, 870)] rfl ⟨extOk_trim (by kernel_rfl) (fun s cs h1 h2 h3 => contract_trim (fun s cs w h1 h2 h3 => Any.strings_Trim_laid Tryd.ltrim (by kernel_rfl) s cs w h1 h2 h3) s cs h1 h2 h3), extOk_count (by kernel_rfl) (fun s c => contract_count (fun s c w => Any.strings_Count_one Tryd.lcount s c w) s c), trivial⟩
theorem lawLLampRests : ∀ trees, ShapedAll Tryd.prog 3 Tryd.f9.params.toList trees → ev Vs.G.T ext 5 (idsOf idlLLampRests 9) trees = some (.bool true, []) := by
  intro trees h
  rw [Tryd.params9] at h
  obtain ⟨x0, _, rfl, k0, h⟩ := sh_cons (enc := (eSl false 1 (Tree.int .u8))) h (rd_slice (sz := 1) (enc := (Tree.int .u8)) Tryd.underlying22 (by kernel_rfl) (rd_int Tryd.underlying5) (fun _ => mkT_one (by simp [Tryd.underlying5]))) (fun _ => mkT_one (by simp [Tryd.underlying22]))
  obtain ⟨x1, _, rfl, k1, h⟩ := sh_cons (enc := (eSl false 1 (Tree.int .u8))) h (rd_slice (sz := 1) (enc := (Tree.int .u8)) Tryd.underlying22 (by kernel_rfl) (rd_int Tryd.underlying5) (fun _ => mkT_one (by simp [Tryd.underlying5]))) (fun _ => mkT_one (by simp [Tryd.underlying22]))
  obtain rfl := sh_nil h
  exact Vs.G.S357 0 _ (Vs.G.laws_FnLampRests_true k0 k1)
theorem liftedLLampRests (os : Os) (started : os.Started) (H : Type) (enc : TypeId × Value → H) :
    ReturnsInHanded {} Tryd.checked os 9 .any (fun w args => (Rows.fnLampRestsSpec.pre enc Tryd.prog Tryd.f9 Rows.fnLampRestsRow.domain false w args ∧ laidMetH Tryd.prog Rows.fnLampRestsRow.laid w) ∧ sizedMet enc Tryd.prog Tryd.f9 (OpenSpec.ofChange Rows.fnLampRestsSpec) false w args) (Rows.fnLampRestsSpec.post enc Tryd.prog Tryd.f9 false true false false) := by
  refine law_liftedD (C := Tryd.checked) (L := idlLLampRests) (T := Vs.G.T) (d := 5) (n := 3) (tb := 4) (Y := fun w _ => laidMetH Tryd.prog Rows.fnLampRestsRow.laid w) (fun _ _ _ hh h => h.of_heap hh) ownLLampRests laidLLampRests started (by kernel_rfl) Tryd.func9
    (ChangeSpec.witness_shaped (enc := enc) (C := Tryd.checked) (os := os) (X := fun w _ => laidMetH Tryd.prog Rows.fnLampRestsRow.laid w) false (World.laidAll Tryd.prog os Rows.fnLampRestsRow.laid) #[.slice none 0 0, .slice none 0 0] 8 (World.laidAll_os _ _ _)
      (World.shaped_of_ZipB (by kernel_rfl) (by kernel_rfl)) (by kernel_rfl) (by kernel_rfl) (by kernel_rfl)
      (by rw [MakeChecks.laidMetH_plain _ _ _ (by kernel_rfl)]; exact laidMet_laidAll _ (by kernel_rfl) (by kernel_rfl)))
    (by kernel_rfl) rfl allLLampRests soundXLLampRests (by kernel_rfl) (by kernel_rfl) rfl Tryd.underlying4 rfl ?_ lawLLampRests
  intro ds hd
  match ds, hd with
  | [a0, a1], _ => exact ⟨rfl, rfl, rfl⟩
theorem fnLampRests_holds : Rows.FnLampRestsSaid :=
  OpenClaim.holds_of_wide 9 Tryd.f9 rfl rfl rfl rfl rfl rfl rfl ⟨rfl, rfl, rfl, rfl, rfl⟩ rfl rfl rfl rfl rfl (by kernel_rfl) Tryd.func9 (by kernel_rfl)
    (of_decide_eq_true (by kernel_rfl)) (by unfold Func.isWrapper; first | (rw [if_pos (by decide +kernel)]; kernel_rfl) | (rw [if_neg (by decide +kernel)]; exact ⟨rfl, rfl⟩))
    (fun os started H enc _ => liftedLLampRests os started H enc)
theorem fnLampRests_card_holds : Rows.FnLampRestsCardSaid :=
  Claim7.holds_tied_plain_at .later [] [.data, .pinned] true (true, "6a7a4538170c0059f9789602adab37e9eaa1949ff0d96211368043b6e368c945") false fnLampRests_holds (fun _ h => by cases h) (by kernel_rfl) (fun _ h => by cases h) fnLampRests_row_tie rfl ⟨rfl, rfl⟩ (by kernel_rfl) rfl
    (fun f fn hf hfn => by
      obtain rfl : f = 9 := Option.some.inj ((show Tryd.prog.funcNamed "loop.example/g01063/laws.FnLampRests" = some 9 by kernel_rfl).symm.trans hf) |>.symm
      obtain rfl : fn = Tryd.f9 := (Option.some.inj (Tryd.func9.symm.trans hfn)).symm
      exact ⟨by kernel_rfl, fun j t ht => by
        rw [Tryd.params9] at ht
        have hm : t ∈ [22, 22] := by simpa using Array.mem_of_getElem? ht
        have hall : ([22, 22].all fun u => !Tryd.prog.wantsStandIn u) = true := by kernel_rfl
        exact (show Tryd.prog.wantsStandIn t = false by simpa using List.all_eq_true.1 hall t hm)⟩)
    (by kernel_rfl)
#print axioms fnLampRests_card_holds
end Go.Proofs.YtomlgmfkjibijaaDoor
