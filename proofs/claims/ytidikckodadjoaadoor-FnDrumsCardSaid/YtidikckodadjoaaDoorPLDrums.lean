/- The Go law laws.FnDrums returns true for every input and leaves its arguments as they were. Conditions: the listed variables of the library hold what its text lays, as the given card ties it. -/
import Derived.Test.YtidikckodadjoaaDoorRows
import Derived.Test.YtidikckodadjoaaDoorCards
import Derived.Test.YtidikckodadjoaaDoorTie
import Derived.Test.YtidikckodadjoaaDoorSLDrums2
import Derived.Test.YtidikckodadjoaaDoorV6
import Derived.Test.YtidikckodadjoaaDoorHLDrums1
import Derived.Ground.NamesProg
import Derived.Shelf.Lay
import Derived.Shelf.Strconv.Itoa4
import Derived.Shelf.Strings.Prefix
import Derived.Shelf.Strconv.ParseIntPublic10
import Derived.Shelf.Strings.Search2
import Derived.Test.YtidikckodadjoaaDoorLLDrums
import Derived.Lib.LaidTab
import Derived.Stop.LaidErr
import Derived.ProofKit
import Derived.OpenShut
import Derived.LaidMore
import Derived.Lay
import Derived.SevenTiedAt
import Derived.Stop.Joined
set_option maxRecDepth 100000
namespace Go.Proofs.YtidikckodadjoaaDoor
open Go.ChangeShapes Go.WideShapes Go.ChangeAt Go.RowKit Go.Vs

theorem ownLDrums : ownKnob Tryd.prog.godebug = none := by kernel_rfl
theorem laidLDrums : laidOutB Tryd.prog = true := by kernel_rfl
def idlLDrums : List (Nat × Nat) := [(3, 897), (4, 398), (5, 907), (6, 908), (7, 909), (8, 910), (9, 911), (10, 912), (11, 913), (12, 914), (13, 915), (14, 916), (15, 917), (16, 918), (17, 919), (18, 920), (19, 921), (20, 400), (21, 922), (22, 212), (23, 923), (24, 924), (25, 656), (26, 326), (27, 940), (28, 653), (29, 941), (30, 655), (31, 603), (32, 648), (33, 649), (34, 6), (35, 4), (36, 7), (37, 650), (38, 605), (39, 245), (40, 611), (41, 607), (42, 939), (43, 937), (44, 938), (45, 654), (46, 942), (47, 943), (48, 944), (49, 945), (50, 301), (51, 620), (52, 610), (53, 5), (54, 953), (55, 950), (56, 951), (57, 952), (58, 949), (59, 8), (60, 612), (61, 602), (63, 38)]
theorem allLDrums : allOk Tryd.prog idlLDrums Vs.G.T = true := by kernel_rfl
noncomputable def gndLDrums : Gnd := Gnd.and (Gnd.tab Tryd.prog "internal/strconv.uint64pow10" .u64 Lib.pow10Tab 1 (by kernel_rfl)) (Gnd.and (Gnd.ifc 2) (Gnd.ifc 3))
theorem knownLDrums {w : World} (h : laidMetH Tryd.prog Rows.fnDrumsRow.laid w) : gndLDrums.G w := by
  have h0 : laidMet Tryd.prog Rows.fnDrumsRow.laid w := by rwa [MakeChecks.laidMetH_plain _ _ _ (by kernel_rfl)] at h
  exact ⟨Lib.tabIs_of_head (g := 1) (t := 100) (by kernel_rfl) (by kernel_rfl) Tryd.underlying100 Tryd.underlying69 (by kernel_rfl) (by kernel_rfl) (h0.tail.tail), ⟨laid_ifc (g := 2) (ti := 76) (by kernel_rfl) (by kernel_rfl) Tryd.underlying76 (h0.tail.tail.tail.tail), laid_ifc (g := 3) (ti := 76) (by kernel_rfl) (by kernel_rfl) Tryd.underlying76 (h0.tail.tail.tail)⟩⟩
noncomputable def idsLDrums : Ids := gndLDrums.ids (idsOf idlLDrums)
theorem soundXLDrums : Sound Tryd.prog idsLDrums ext := sound_extT (L := idlLDrums) rfl [(54, 953), (56, 951), (57, 952), (63, 38)] rfl ⟨extOk_fmt (by kernel_rfl) (fun n h0 h1 => contract_fmt (T := fun w => Lib.TabIs Tryd.prog w "internal/strconv.uint64pow10" .u64 Lib.pow10Tab) (fun w h => (And.left h)) (fun n w h0 h1 ht => Any.strconv_FormatInt_10 Tryd.lfmt n h0 h1 w ht) n h0 h1), extOk_trimP (by kernel_rfl) (fun s p => contract_trimP (fun s p w => Any.strings_TrimPrefix Tryd.ltrp s p w) s p), extOk_parse (by kernel_rfl) (fun s hl => contract_parse (T1 := (Gnd.ifc 2).G) (T2 := (Gnd.ifc 3).G) (ety := Tryd.lpar_ren.t 5) (fun w h => (And.left (And.right h))) (fun w h => (And.right (And.right h))) (fun s v w hs hp => Any.strconv_ParseInt_10_at64_ok Tryd.lpar s (by omega) v hp w) (fun s w hs hp ht => by
    obtain ⟨t, u, ht⟩ := ht
    refine (Any.strconv_ParseInt_10_at64_syntax Tryd.lpar s hs (Vs.noNum_eq hp trivial) _ w ht (.inr ⟨t, u, rfl⟩)).mono ?_
    rintro e w1 ⟨_, rfl, _, _, hb⟩
    exact ⟨⟨_, _, rfl⟩, hb⟩) (fun s w hs hp ht => by
    obtain ⟨t, u, ht⟩ := ht
    refine (Any.strconv_ParseInt_10_at64_range Tryd.lpar s hs hp _ w ht (.inr ⟨t, u, rfl⟩)).mono ?_
    rintro e w1 ⟨_, rfl, _, _, hb⟩
    exact ⟨⟨_, _, rfl⟩, hb⟩) (fun w t => Lib.bytesWorld_below w _ t) s hl), extOk_idx1 (by kernel_rfl) (fun s c => contract_idx1 (fun s c w => Any.stringslite_Index_one Tryd.lidx1 s c w) s c), trivial⟩
theorem lawLDrums : ∀ trees, ShapedAll Tryd.prog 3 Tryd.f3.params.toList trees → ev Vs.G.T ext 7 (idsOf idlLDrums 3) trees = some (.bool true, []) := by
  intro trees h
  rw [Tryd.params3] at h
  obtain ⟨x0, _, rfl, k0, h⟩ := sh_cons (enc := (eSl false 1 (Tree.int .u8))) h (rd_slice (sz := 1) (enc := (Tree.int .u8)) Tryd.underlying22 (by kernel_rfl) (rd_int Tryd.underlying5) (fun _ => mkT_one (by simp [Tryd.underlying5]))) (fun _ => mkT_one (by simp [Tryd.underlying22]))
  obtain rfl := sh_nil h
  exact Vs.G.S897 0 _ (Vs.G.laws_FnDrums_true k0)
theorem liftedLDrums (os : Os) (started : os.Started) (H : Type) (enc : TypeId × Value → H) :
    ReturnsInHanded {} Tryd.checked os 3 .any (fun w args => (Rows.fnDrumsSpec.pre enc Tryd.prog Tryd.f3 Rows.fnDrumsRow.domain false w args ∧ laidMetH Tryd.prog Rows.fnDrumsRow.laid w) ∧ sizedMet enc Tryd.prog Tryd.f3 (OpenSpec.ofChange Rows.fnDrumsSpec) false w args) (Rows.fnDrumsSpec.post enc Tryd.prog Tryd.f3 false true false false) := by
  refine law_liftedD (C := Tryd.checked) (L := idlLDrums) (T := Vs.G.T) (d := 7) (n := 3) (tb := 4) (I := idsLDrums) rfl (Y := fun w _ => laidMetH Tryd.prog Rows.fnDrumsRow.laid w) (fun _ _ _ hh h => h.of_heap hh) ownLDrums laidLDrums started (by kernel_rfl) Tryd.func3
    (ChangeSpec.witness_shaped (enc := enc) (C := Tryd.checked) (os := os) (X := fun w _ => laidMetH Tryd.prog Rows.fnDrumsRow.laid w) false (World.laidAll Tryd.prog os Rows.fnDrumsRow.laid) #[.slice none 0 0] 8 (World.laidAll_os _ _ _)
      (World.shaped_of_ZipB (by kernel_rfl) (by kernel_rfl)) (by kernel_rfl) (by kernel_rfl) (by kernel_rfl)
      (by rw [MakeChecks.laidMetH_plain _ _ _ (by kernel_rfl)]; exact laidMet_laidAll _ (by kernel_rfl) (by kernel_rfl)))
    (fun w _ h => gndLDrums.ok _ (knownLDrums h)) (by kernel_rfl) rfl allLDrums soundXLDrums (by kernel_rfl) (by kernel_rfl) rfl Tryd.underlying4 rfl ?_ lawLDrums
  intro ds hd
  match ds, hd with
  | [a0], _ => exact ⟨rfl, rfl, rfl⟩
theorem fnDrums_holds : Rows.FnDrumsSaid :=
  OpenClaim.holds_of_wide 3 Tryd.f3 rfl rfl rfl rfl rfl rfl rfl ⟨rfl, rfl, rfl, rfl, rfl⟩ rfl rfl rfl rfl rfl (by kernel_rfl) Tryd.func3 (by kernel_rfl)
    (of_decide_eq_true (by kernel_rfl)) (by unfold Func.isWrapper; first | (rw [if_pos (by decide +kernel)]; kernel_rfl) | (rw [if_neg (by decide +kernel)]; exact ⟨rfl, rfl⟩))
    (fun os started H enc _ => liftedLDrums os started H enc)
theorem fnDrums_card_holds : Rows.FnDrumsCardSaid :=
  Claim7.holds_tied_plain_at .later [] [.data, .data, .data, .sentinel, .sentinel] true (true, "1058f5e0bed797f014d7fb99c3bce4b6acc2626bdd56a3a2a32570d2edf6a906") true fnDrums_holds (fun _ h => by cases h) (by kernel_rfl) (fun _ h => by cases h) fnDrums_row_tie rfl ⟨rfl, rfl⟩ (by kernel_rfl) rfl
    (fun f fn hf hfn => by
      obtain rfl : f = 3 := Option.some.inj ((show Tryd.prog.funcNamed "loop.example/g01063/laws.FnDrums" = some 3 by kernel_rfl).symm.trans hf) |>.symm
      obtain rfl : fn = Tryd.f3 := (Option.some.inj (Tryd.func3.symm.trans hfn)).symm
      exact ⟨by kernel_rfl, fun j t ht => by
        rw [Tryd.params3] at ht
        have hm : t ∈ [22] := by simpa using Array.mem_of_getElem? ht
        have hall : ([22].all fun u => !Tryd.prog.wantsStandIn u) = true := by kernel_rfl
        exact (show Tryd.prog.wantsStandIn t = false by simpa using List.all_eq_true.1 hall t hm)⟩)
    (by kernel_rfl)
#print axioms fnDrums_card_holds
end Go.Proofs.YtidikckodadjoaaDoor
