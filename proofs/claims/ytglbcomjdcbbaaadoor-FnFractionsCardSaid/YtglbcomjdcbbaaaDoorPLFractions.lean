/- The Go law laws.FnFractions returns true for every input and leaves its arguments as they were. Conditions: the listed variables of the library hold what its text lays, as the given card ties it. -/
import Derived.Test.YtglbcomjdcbbaaaDoorRows
import Derived.Test.YtglbcomjdcbbaaaDoorCards
import Derived.Test.YtglbcomjdcbbaaaDoorTie
import Derived.Test.YtglbcomjdcbbaaaDoorSLFractions1
import Derived.Test.YtglbcomjdcbbaaaDoorV6
import Derived.Test.YtglbcomjdcbbaaaDoorHLFractions1
import Derived.Ground.NamesProg
import Derived.Shelf.Lay
import Derived.Shelf.Strings.Prefix
import Derived.Shelf.Strconv.ParseIntPublic10
import Derived.Shelf.Strconv.Itoa4
import Derived.Shelf.Strings.Search2
import Derived.Test.YtglbcomjdcbbaaaDoorLLFractions
import Derived.Lib.LaidTab
import Derived.Stop.LaidErr
import Derived.ProofKit
import Derived.OpenShut
import Derived.LaidMore
import Derived.Lay
import Derived.SevenTiedAt
import Derived.Stop.Joined
set_option maxRecDepth 100000
namespace Go.Proofs.YtglbcomjdcbbaaaDoor
open Go.ChangeShapes Go.WideShapes Go.ChangeAt Go.RowKit Go.Vs

theorem ownLFractions : ownKnob Tryd.prog.godebug = none := by kernel_rfl
theorem laidLFractions : laidOutB Tryd.prog = true := by kernel_rfl
def idlLFractions : List (Nat × Nat) := [(3, 896), (5, 386), (6, 426), (7, 899), (8, 900), (9, 901), (10, 902), (11, 903), (12, 904), (13, 905), (14, 906), (30, 615), (31, 603), (32, 213), (33, 257), (34, 292), (35, 617), (36, 936), (37, 326), (38, 937), (39, 938), (40, 939), (47, 616), (52, 7), (53, 605), (59, 269), (60, 604), (61, 611), (62, 950), (63, 951), (64, 952), (65, 953), (74, 5), (79, 38)]
theorem allLFractions : allOk Tryd.prog idlLFractions Vs.G.T = true := by kernel_rfl
noncomputable def gndLFractions : Gnd := Gnd.and (Gnd.ifc 1) (Gnd.and (Gnd.ifc 2) (Gnd.tab Tryd.prog "internal/strconv.uint64pow10" .u64 Lib.pow10Tab 3 (by kernel_rfl)))
theorem knownLFractions {w : World} (h : laidMetH Tryd.prog Rows.fnFractionsRow.laid w) : gndLFractions.G w := by
  have h0 : laidMet Tryd.prog Rows.fnFractionsRow.laid w := by rwa [MakeChecks.laidMetH_plain _ _ _ (by kernel_rfl)] at h
  exact ⟨laid_ifc (g := 1) (ti := 82) (by kernel_rfl) (by kernel_rfl) Tryd.underlying82 (h0.tail.tail.tail.tail), ⟨laid_ifc (g := 2) (ti := 82) (by kernel_rfl) (by kernel_rfl) Tryd.underlying82 (h0.tail.tail.tail), Lib.tabIs_of_head (g := 3) (t := 134) (by kernel_rfl) (by kernel_rfl) Tryd.underlying134 Tryd.underlying76 (by kernel_rfl) (by kernel_rfl) (h0.tail.tail)⟩⟩
noncomputable def idsLFractions : Ids := gndLFractions.ids (idsOf idlLFractions)
theorem soundXLFractions : Sound Tryd.prog idsLFractions ext := sound_extT (L := idlLFractions) rfl [(63, 951), (64, 952), (65, 953), (79, 38)] rfl ⟨extOk_trimP (by kernel_rfl) (fun s p => contract_trimP (fun s p w => Any.strings_TrimPrefix Tryd.ltrp s p w) s p), extOk_parse (by kernel_rfl) (fun s hl => contract_parse (T1 := (Gnd.ifc 1).G) (T2 := (Gnd.ifc 2).G) (ety := Tryd.lpar_ren.t 5) (fun w h => (And.left h)) (fun w h => (And.left (And.right h))) (fun s v w hs hp => Any.strconv_ParseInt_10_at64_ok Tryd.lpar s (by omega) v hp w) (fun s w hs hp ht => by
    obtain ⟨t, u, ht⟩ := ht
    refine (Any.strconv_ParseInt_10_at64_syntax Tryd.lpar s hs (Vs.noNum_eq hp trivial) _ w ht (.inr ⟨t, u, rfl⟩)).mono ?_
    rintro e w1 ⟨_, rfl, _, _, hb⟩
    exact ⟨⟨_, _, rfl⟩, hb⟩) (fun s w hs hp ht => by
    obtain ⟨t, u, ht⟩ := ht
    refine (Any.strconv_ParseInt_10_at64_range Tryd.lpar s hs hp _ w ht (.inr ⟨t, u, rfl⟩)).mono ?_
    rintro e w1 ⟨_, rfl, _, _, hb⟩
    exact ⟨⟨_, _, rfl⟩, hb⟩) (fun w t => Lib.bytesWorld_below w _ t) s hl), extOk_fmt (by kernel_rfl) (fun n h0 h1 => contract_fmt (T := fun w => Lib.TabIs Tryd.prog w "internal/strconv.uint64pow10" .u64 Lib.pow10Tab) (fun w h => (And.right (And.right h))) (fun n w h0 h1 ht => Any.strconv_FormatInt_10 Tryd.lfmt n h0 h1 w ht) n h0 h1), extOk_idx1 (by kernel_rfl) (fun s c => contract_idx1 (fun s c w => Any.stringslite_Index_one Tryd.lidx1 s c w) s c), trivial⟩
theorem lawLFractions : ∀ trees, ShapedAll Tryd.prog 3 Tryd.f3.params.toList trees → ev Vs.G.T ext 5 (idsOf idlLFractions 3) trees = some (.bool true, []) := by
  intro trees h
  rw [Tryd.params3] at h
  obtain ⟨x0, _, rfl, k0, h⟩ := sh_cons (enc := (eSl false 1 (Tree.int .u8))) h (rd_slice (sz := 1) (enc := (Tree.int .u8)) Tryd.underlying22 (by kernel_rfl) (rd_int Tryd.underlying5) (fun _ => mkT_one (by simp [Tryd.underlying5]))) (fun _ => mkT_one (by simp [Tryd.underlying22]))
  obtain ⟨x1, _, rfl, k1, h⟩ := sh_cons (enc := (eSl false 1 (Tree.int .u8))) h (rd_slice (sz := 1) (enc := (Tree.int .u8)) Tryd.underlying22 (by kernel_rfl) (rd_int Tryd.underlying5) (fun _ => mkT_one (by simp [Tryd.underlying5]))) (fun _ => mkT_one (by simp [Tryd.underlying22]))
  obtain rfl := sh_nil h
  exact Vs.G.S896 0 _ (Vs.G.laws_FnFractions_true k0 k1)
theorem liftedLFractions (os : Os) (started : os.Started) (H : Type) (enc : TypeId × Value → H) :
    ReturnsInHanded {} Tryd.checked os 3 .any (fun w args => (Rows.fnFractionsSpec.pre enc Tryd.prog Tryd.f3 Rows.fnFractionsRow.domain false w args ∧ laidMetH Tryd.prog Rows.fnFractionsRow.laid w) ∧ sizedMet enc Tryd.prog Tryd.f3 (OpenSpec.ofChange Rows.fnFractionsSpec) false w args) (Rows.fnFractionsSpec.post enc Tryd.prog Tryd.f3 false true false false) := by
  refine law_liftedD (C := Tryd.checked) (L := idlLFractions) (T := Vs.G.T) (d := 5) (n := 3) (tb := 4) (I := idsLFractions) rfl (Y := fun w _ => laidMetH Tryd.prog Rows.fnFractionsRow.laid w) (fun _ _ _ hh h => h.of_heap hh) ownLFractions laidLFractions started (by kernel_rfl) Tryd.func3
    (ChangeSpec.witness_shaped (enc := enc) (C := Tryd.checked) (os := os) (X := fun w _ => laidMetH Tryd.prog Rows.fnFractionsRow.laid w) false (World.laidAll Tryd.prog os Rows.fnFractionsRow.laid) #[.slice none 0 0, .slice none 0 0] 8 (World.laidAll_os _ _ _)
      (World.shaped_of_ZipB (by kernel_rfl) (by kernel_rfl)) (by kernel_rfl) (by kernel_rfl) (by kernel_rfl)
      (by rw [MakeChecks.laidMetH_plain _ _ _ (by kernel_rfl)]; exact laidMet_laidAll _ (by kernel_rfl) (by kernel_rfl)))
    (fun w _ h => gndLFractions.ok _ (knownLFractions h)) (by kernel_rfl) rfl allLFractions soundXLFractions (by kernel_rfl) (by kernel_rfl) rfl Tryd.underlying4 rfl ?_ lawLFractions
  intro ds hd
  match ds, hd with
  | [a0, a1], _ => exact ⟨rfl, rfl, rfl⟩
theorem fnFractions_holds : Rows.FnFractionsSaid :=
  OpenClaim.holds_of_wide 3 Tryd.f3 rfl rfl rfl rfl rfl rfl rfl ⟨rfl, rfl, rfl, rfl, rfl⟩ rfl rfl rfl rfl rfl (by kernel_rfl) Tryd.func3 (by kernel_rfl)
    (of_decide_eq_true (by kernel_rfl)) (by unfold Func.isWrapper; first | (rw [if_pos (by decide +kernel)]; kernel_rfl) | (rw [if_neg (by decide +kernel)]; exact ⟨rfl, rfl⟩))
    (fun os started H enc _ => liftedLFractions os started H enc)
theorem fnFractions_card_holds : Rows.FnFractionsCardSaid :=
  Claim7.holds_tied_plain_at .later [] [.data, .data, .data, .sentinel, .sentinel] true (true, "880e790cb36ca427e9e674c7fa4197f92325c417e89f41c9e4627bc442eadd57") true fnFractions_holds (fun _ h => by cases h) (by kernel_rfl) (fun _ h => by cases h) fnFractions_row_tie rfl ⟨rfl, rfl⟩ (by kernel_rfl) rfl
    (fun f fn hf hfn => by
      obtain rfl : f = 3 := Option.some.inj ((show Tryd.prog.funcNamed "loop.example/g01063/laws.FnFractions" = some 3 by kernel_rfl).symm.trans hf) |>.symm
      obtain rfl : fn = Tryd.f3 := (Option.some.inj (Tryd.func3.symm.trans hfn)).symm
      exact ⟨by kernel_rfl, fun j t ht => by
        rw [Tryd.params3] at ht
        have hm : t ∈ [22, 22] := by simpa using Array.mem_of_getElem? ht
        have hall : ([22, 22].all fun u => !Tryd.prog.wantsStandIn u) = true := by kernel_rfl
        exact (show Tryd.prog.wantsStandIn t = false by simpa using List.all_eq_true.1 hall t hm)⟩)
    (by kernel_rfl)
#print axioms fnFractions_card_holds
end Go.Proofs.YtglbcomjdcbbaaaDoor
