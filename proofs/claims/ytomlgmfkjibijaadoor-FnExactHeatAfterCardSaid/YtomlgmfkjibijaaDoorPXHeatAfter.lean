/- The Go law laws.FnExactHeatAfter returns true for every input and leaves its arguments as they were. Conditions: the listed variables of the library hold what its text lays, as the given card ties it. -/
import Derived.Test.YtomlgmfkjibijaaDoorRows
import Derived.Test.YtomlgmfkjibijaaDoorCards
import Derived.Test.YtomlgmfkjibijaaDoorTie
import Derived.Test.YtomlgmfkjibijaaDoorSXHeatAfter1
import Derived.Test.YtomlgmfkjibijaaDoorV6
import Derived.Test.YtomlgmfkjibijaaDoorHHeatB
import Derived.Ground.NamesProg
import Derived.Shelf.Lay
import Derived.Shelf.Strings.SlTrimAscii
import Derived.Test.YtomlgmfkjibijaaDoorLXHeatAfter
import Derived.ProofKit
import Derived.OpenShut
import Derived.LaidMore
import Derived.Lay
import Derived.SevenTiedAt
import Derived.Stop.Joined
set_option maxRecDepth 100000
namespace Go.Proofs.YtomlgmfkjibijaaDoor
open Go.ChangeShapes Go.WideShapes Go.ChangeAt Go.RowKit Go.Vs

theorem ownXHeatAfter : ownKnob Tryd.prog.godebug = none := by kernel_rfl
theorem laidXHeatAfter : laidOutB Tryd.prog = true := by kernel_rfl
def idlXHeatAfter : List (Nat × Nat) := [(7, 344), (18, 114), (20, 207), (22, 420), (28, 532), (29, 393), (30, 408), (31, 405), (41, 217), (42, 18), (43, 757), (44, 876), (45, 759), (46, 761), (49, 605), (50, 326), (60, 763), (61, 762), (69, 606)]
theorem allXHeatAfter : allOk Tryd.prog idlXHeatAfter Vs.G.T = true := by kernel_rfl
theorem soundXXHeatAfter : Sound Tryd.prog (idsOf idlXHeatAfter) ext := sound_extT [(44, 876)] rfl ⟨extOk_trim (by kernel_rfl) (fun s cs h1 h2 h3 => contract_trim (fun s cs w h1 h2 h3 => Any.strings_Trim_laid Tryd.ltrim (by kernel_rfl) s cs w h1 h2 h3) s cs h1 h2 h3), trivial⟩
theorem rd39 {n : Nat} : Reads Tryd.prog (n + 2) 39 (fun x : Vs.G.GLamp => [(.int .i64 x.Heats), (.int .i64 x.Cools), (.int .i64 x.Limit)]) Vs.G.GLamp.ok := by
  intro cs h
  obtain ⟨css, rfl, hz⟩ := shaped_struct Tryd.underlying39 h
  replace h : Shaped.ShapedL _ [2, 2, 2] css := hz
  simp only [shapedL_cons, shapedL_nil] at h
  obtain ⟨c0, _, rfl, h0, c1, _, rfl, h1, c2, _, rfl, h2, rfl⟩ := h
  obtain ⟨x0, rfl, k0⟩ := (rd_int Tryd.underlying2) c0 h0
  obtain ⟨x1, rfl, k1⟩ := (rd_int Tryd.underlying2) c1 h1
  obtain ⟨x2, rfl, k2⟩ := (rd_int Tryd.underlying2) c2 h2
  exact ⟨⟨x0, x1, x2⟩, rfl, k0, k1, k2⟩
theorem lawXHeatAfter : ∀ trees, ShapedAll Tryd.prog 3 Tryd.f7.params.toList trees → ev Vs.G.T ext 5 (idsOf idlXHeatAfter 7) trees = some (.bool true, []) := by
  intro trees h
  rw [Tryd.params7] at h
  obtain ⟨x0, _, rfl, k0, h⟩ := sh_cons (enc := (fun x : Vs.G.GLamp => .agg [(.int .i64 x.Heats), (.int .i64 x.Cools), (.int .i64 x.Limit)])) h (rd39) (fun _ => mkT_agg Tryd.underlying39)
  obtain ⟨x1, _, rfl, k1, h⟩ := sh_cons (enc := Tree.str) h (rd_str Tryd.underlying9) (fun _ => mkT_one (by simp [Tryd.underlying9]))
  obtain rfl := sh_nil h
  exact Vs.G.S344 0 _ (Vs.G.laws_FnExactHeatAfter_true k0 k1)
theorem liftedXHeatAfter (os : Os) (started : os.Started) (H : Type) (enc : TypeId × Value → H) :
    ReturnsInHanded {} Tryd.checked os 7 .any (fun w args => (Rows.fnExactHeatAfterSpec.pre enc Tryd.prog Tryd.f7 Rows.fnExactHeatAfterRow.domain false w args ∧ laidMetH Tryd.prog Rows.fnExactHeatAfterRow.laid w) ∧ sizedMet enc Tryd.prog Tryd.f7 (OpenSpec.ofChange Rows.fnExactHeatAfterSpec) false w args) (Rows.fnExactHeatAfterSpec.post enc Tryd.prog Tryd.f7 false true false false) := by
  refine law_liftedD (C := Tryd.checked) (L := idlXHeatAfter) (T := Vs.G.T) (d := 5) (n := 3) (tb := 4) (Y := fun w _ => laidMetH Tryd.prog Rows.fnExactHeatAfterRow.laid w) (fun _ _ _ hh h => h.of_heap hh) ownXHeatAfter laidXHeatAfter started (by kernel_rfl) Tryd.func7
    (ChangeSpec.witness_shaped (enc := enc) (C := Tryd.checked) (os := os) (X := fun w _ => laidMetH Tryd.prog Rows.fnExactHeatAfterRow.laid w) false (World.laidAll Tryd.prog os Rows.fnExactHeatAfterRow.laid) #[.agg #[.int .i64 0, .int .i64 0, .int .i64 0], .string ⟨#[]⟩] 8 (World.laidAll_os _ _ _)
      (World.shaped_of_ZipB (by kernel_rfl) (by kernel_rfl)) (by kernel_rfl) (by kernel_rfl) (by kernel_rfl)
      (by rw [MakeChecks.laidMetH_plain _ _ _ (by kernel_rfl)]; exact laidMet_laidAll _ (by kernel_rfl) (by kernel_rfl)))
    (by kernel_rfl) rfl allXHeatAfter soundXXHeatAfter (by kernel_rfl) (by kernel_rfl) rfl Tryd.underlying4 rfl ?_ lawXHeatAfter
  intro ds hd
  match ds, hd with
  | [a0, a1], _ => exact ⟨rfl, rfl, rfl⟩
theorem fnExactHeatAfter_holds : Rows.FnExactHeatAfterSaid :=
  OpenClaim.holds_of_wide 7 Tryd.f7 rfl rfl rfl rfl rfl rfl rfl ⟨rfl, rfl, rfl, rfl, rfl⟩ rfl rfl rfl rfl rfl (by kernel_rfl) Tryd.func7 (by kernel_rfl)
    (of_decide_eq_true (by kernel_rfl)) (by unfold Func.isWrapper; first | (rw [if_pos (by decide +kernel)]; kernel_rfl) | (rw [if_neg (by decide +kernel)]; exact ⟨rfl, rfl⟩))
    (fun os started H enc _ => liftedXHeatAfter os started H enc)
theorem fnExactHeatAfter_card_holds : Rows.FnExactHeatAfterCardSaid :=
  Claim7.holds_tied_plain_at .later [] [.data, .pinned] true (true, "6a7a4538170c0059f9789602adab37e9eaa1949ff0d96211368043b6e368c945") false fnExactHeatAfter_holds (fun _ h => by cases h) (by kernel_rfl) (fun _ h => by cases h) fnExactHeatAfter_row_tie rfl ⟨rfl, rfl⟩ (by kernel_rfl) rfl
    (fun f fn hf hfn => by
      obtain rfl : f = 7 := Option.some.inj ((show Tryd.prog.funcNamed "loop.example/g01063/laws.FnExactHeatAfter" = some 7 by kernel_rfl).symm.trans hf) |>.symm
      obtain rfl : fn = Tryd.f7 := (Option.some.inj (Tryd.func7.symm.trans hfn)).symm
      exact ⟨by kernel_rfl, fun j t ht => by
        rw [Tryd.params7] at ht
        have hm : t ∈ [39, 9] := by simpa using Array.mem_of_getElem? ht
        have hall : ([39, 9].all fun u => !Tryd.prog.wantsStandIn u) = true := by kernel_rfl
        exact (show Tryd.prog.wantsStandIn t = false by simpa using List.all_eq_true.1 hall t hm)⟩)
    (by kernel_rfl)
#print axioms fnExactHeatAfter_card_holds
end Go.Proofs.YtomlgmfkjibijaaDoor
