/- The Go law laws.FnExactFirstTooHot returns true for every input and leaves its arguments as they were. Conditions: the listed variables of the library hold what its text lays, as the given card ties it. -/
import Derived.Test.YtomlgmfkjibijaaDoorRows
import Derived.Test.YtomlgmfkjibijaaDoorCards
import Derived.Test.YtomlgmfkjibijaaDoorTie
import Derived.Test.YtomlgmfkjibijaaDoorSXFirstTooHot1
import Derived.Test.YtomlgmfkjibijaaDoorV6
import Derived.Test.YtomlgmfkjibijaaDoorHHeatB
import Derived.Ground.NamesProg
import Derived.Shelf.Lay
import Derived.Shelf.Strings.SlTrimAscii
import Derived.Test.YtomlgmfkjibijaaDoorLXFirstTooHot
import Derived.ProofKit
import Derived.OpenShut
import Derived.LaidMore
import Derived.Lay
import Derived.SevenTiedAt
import Derived.Stop.Joined
set_option maxRecDepth 100000
namespace Go.Proofs.YtomlgmfkjibijaaDoor
open Go.ChangeShapes Go.WideShapes Go.ChangeAt Go.RowKit Go.Vs

theorem ownXFirstTooHot : ownKnob Tryd.prog.godebug = none := by kernel_rfl
theorem laidXFirstTooHot : laidOutB Tryd.prog = true := by kernel_rfl
def idlXFirstTooHot : List (Nat × Nat) := [(5, 341), (15, 95), (18, 114), (20, 207), (21, 521), (22, 420), (41, 217), (42, 18), (43, 757), (44, 876), (45, 759), (46, 761), (49, 605), (50, 326), (60, 763), (61, 762), (69, 606)]
theorem allXFirstTooHot : allOk Tryd.prog idlXFirstTooHot Vs.G.T = true := by kernel_rfl
theorem soundXXFirstTooHot : Sound Tryd.prog (idsOf idlXFirstTooHot) ext := sound_extT [(44, 876)] rfl ⟨extOk_trim (by kernel_rfl) (fun s cs h1 h2 h3 => contract_trim (fun s cs w h1 h2 h3 => Any.strings_Trim_laid Tryd.ltrim (by kernel_rfl) s cs w h1 h2 h3) s cs h1 h2 h3), trivial⟩
theorem rd39 {n : Nat} : Reads Tryd.prog (n + 2) 39 (fun x : Vs.G.GLamp => [(.int .i64 x.Heats), (.int .i64 x.Cools), (.int .i64 x.Limit)]) Vs.G.GLamp.ok := by
  intro cs h
  obtain ⟨css, rfl, hz⟩ := shaped_struct Tryd.underlying39 h
  replace h : Shaped.ShapedL _ [2, 2, 2] css := hz
  simp only [shapedL_cons, shapedL_nil] at h
  obtain ⟨c0, _, rfl, h0, c1, _, rfl, h1, c2, _, rfl, h2, rfl⟩ := h
  obtain ⟨x0, rfl, k0⟩ := (rd_int Tryd.underlying2) c0 h0
  obtain ⟨x1, rfl, k1⟩ := (rd_int Tryd.underlying2) c1 h1
  obtain ⟨x2, rfl, k2⟩ := (rd_int Tryd.underlying2) c2 h2
  exact ⟨⟨x0, x1, x2⟩, rfl, k0, k1, k2⟩
theorem lawXFirstTooHot : ∀ trees, ShapedAll Tryd.prog 3 Tryd.f5.params.toList trees → ev Vs.G.T ext 5 (idsOf idlXFirstTooHot 5) trees = some (.bool true, []) := by
  intro trees h
  rw [Tryd.params5] at h
  obtain ⟨x0, _, rfl, k0, h⟩ := sh_cons (enc := (fun x : Vs.G.GLamp => .agg [(.int .i64 x.Heats), (.int .i64 x.Cools), (.int .i64 x.Limit)])) h (rd39) (fun _ => mkT_agg Tryd.underlying39)
  obtain ⟨x1, _, rfl, k1, h⟩ := sh_cons (enc := Tree.str) h (rd_str Tryd.underlying9) (fun _ => mkT_one (by simp [Tryd.underlying9]))
  obtain rfl := sh_nil h
  exact Vs.G.S341 0 _ (Vs.G.laws_FnExactFirstTooHot_true k0 k1)
theorem liftedXFirstTooHot (os : Os) (started : os.Started) (H : Type) (enc : TypeId × Value → H) :
    ReturnsInHanded {} Tryd.checked os 5 .any (fun w args => (Rows.fnExactFirstTooHotSpec.pre enc Tryd.prog Tryd.f5 Rows.fnExactFirstTooHotRow.domain false w args ∧ laidMetH Tryd.prog Rows.fnExactFirstTooHotRow.laid w) ∧ sizedMet enc Tryd.prog Tryd.f5 (OpenSpec.ofChange Rows.fnExactFirstTooHotSpec) false w args) (Rows.fnExactFirstTooHotSpec.post enc Tryd.prog Tryd.f5 false true false false) := by
  refine law_liftedD (C := Tryd.checked) (L := idlXFirstTooHot) (T := Vs.G.T) (d := 5) (n := 3) (tb := 4) (Y := fun w _ => laidMetH Tryd.prog Rows.fnExactFirstTooHotRow.laid w) (fun _ _ _ hh h => h.of_heap hh) ownXFirstTooHot laidXFirstTooHot started (by kernel_rfl) Tryd.func5
    (ChangeSpec.witness_shaped (enc := enc) (C := Tryd.checked) (os := os) (X := fun w _ => laidMetH Tryd.prog Rows.fnExactFirstTooHotRow.laid w) false (World.laidAll Tryd.prog os Rows.fnExactFirstTooHotRow.laid) #[.agg #[.int .i64 0, .int .i64 0, .int .i64 0], .string ⟨#[]⟩] 8 (World.laidAll_os _ _ _)
      (World.shaped_of_ZipB (by kernel_rfl) (by kernel_rfl)) (by kernel_rfl) (by kernel_rfl) (by kernel_rfl)
      (by rw [MakeChecks.laidMetH_plain _ _ _ (by kernel_rfl)]; exact laidMet_laidAll _ (by kernel_rfl) (by kernel_rfl)))
    (by kernel_rfl) rfl allXFirstTooHot soundXXFirstTooHot (by kernel_rfl) (by kernel_rfl) rfl Tryd.underlying4 rfl ?_ lawXFirstTooHot
  intro ds hd
  match ds, hd with
  | [a0, a1], _ => exact ⟨rfl, rfl, rfl⟩
theorem fnExactFirstTooHot_holds : Rows.FnExactFirstTooHotSaid :=
  OpenClaim.holds_of_wide 5 Tryd.f5 rfl rfl rfl rfl rfl rfl rfl ⟨rfl, rfl, rfl, rfl, rfl⟩ rfl rfl rfl rfl rfl (by kernel_rfl) Tryd.func5 (by kernel_rfl)
    (of_decide_eq_true (by kernel_rfl)) (by unfold Func.isWrapper; first | (rw [if_pos (by decide +kernel)]; kernel_rfl) | (rw [if_neg (by decide +kernel)]; exact ⟨rfl, rfl⟩))
    (fun os started H enc _ => liftedXFirstTooHot os started H enc)
theorem fnExactFirstTooHot_card_holds : Rows.FnExactFirstTooHotCardSaid :=
  Claim7.holds_tied_plain_at .later [] [.data, .pinned] true (true, "6a7a4538170c0059f9789602adab37e9eaa1949ff0d96211368043b6e368c945") false fnExactFirstTooHot_holds (fun _ h => by cases h) (by kernel_rfl) (fun _ h => by cases h) fnExactFirstTooHot_row_tie rfl ⟨rfl, rfl⟩ (by kernel_rfl) rfl
    (fun f fn hf hfn => by
      obtain rfl : f = 5 := Option.some.inj ((show Tryd.prog.funcNamed "loop.example/g01063/laws.FnExactFirstTooHot" = some 5 by kernel_rfl).symm.trans hf) |>.symm
      obtain rfl : fn = Tryd.f5 := (Option.some.inj (Tryd.func5.symm.trans hfn)).symm
      exact ⟨by kernel_rfl, fun j t ht => by
        rw [Tryd.params5] at ht
        have hm : t ∈ [39, 9] := by simpa using Array.mem_of_getElem? ht
        have hall : ([39, 9].all fun u => !Tryd.prog.wantsStandIn u) = true := by kernel_rfl
        exact (show Tryd.prog.wantsStandIn t = false by simpa using List.all_eq_true.1 hall t hm)⟩)
    (by kernel_rfl)
#print axioms fnExactFirstTooHot_card_holds
end Go.Proofs.YtomlgmfkjibijaaDoor
