/- The Go law laws.FnPieces returns true for every input and leaves its arguments as they were. Conditions: the listed variables of the library hold what its text lays, as the given card ties it. -/
import Derived.Test.YtglbcomjdcbbaaaDoorRows
import Derived.Test.YtglbcomjdcbbaaaDoorCards
import Derived.Test.YtglbcomjdcbbaaaDoorTie
import Derived.Test.YtglbcomjdcbbaaaDoorSLPieces2
import Derived.Test.YtglbcomjdcbbaaaDoorV6
import Derived.Test.YtglbcomjdcbbaaaDoorHLPieces1
import Derived.Ground.NamesProg
import Derived.Shelf.Lay
import Derived.Shelf.Strings.OnBuilder
import Derived.Shelf.Strconv.Itoa4
import Derived.Test.YtglbcomjdcbbaaaDoorLLPieces
import Derived.Lib.LaidTab
import Derived.Stop.LaidErr
import Derived.ProofKit
import Derived.OpenShut
import Derived.LaidMore
import Derived.Lay
import Derived.SevenTiedAt
import Derived.Stop.Joined
set_option maxRecDepth 100000
namespace Go.Proofs.YtglbcomjdcbbaaaDoor
open Go.ChangeShapes Go.WideShapes Go.ChangeAt Go.RowKit Go.Vs

theorem ownLPieces : ownKnob Tryd.prog.godebug = none := by kernel_rfl
theorem laidLPieces : laidOutB Tryd.prog = true := by kernel_rfl
def idlLPieces : List (Nat × Nat) := [(4, 898), (15, 398), (16, 925), (17, 926), (18, 927), (19, 199), (20, 928), (21, 48), (22, 929), (23, 930), (24, 931), (25, 932), (26, 933), (27, 934), (28, 223), (29, 935), (31, 603), (34, 292), (37, 326), (40, 939), (41, 946), (42, 246), (43, 947), (44, 317), (45, 200), (46, 748), (47, 616), (48, 751), (49, 746), (50, 743), (51, 744), (52, 7), (53, 605), (54, 948), (55, 949), (56, 803), (57, 224), (58, 323), (59, 269), (60, 604), (61, 611), (65, 953), (66, 6), (67, 4), (68, 321), (69, 248), (70, 607), (71, 747), (72, 745), (73, 750), (74, 5), (78, 825), (84, 259)]
theorem allLPieces : allOk Tryd.prog idlLPieces Vs.G.T = true := by kernel_rfl
section
open Go.Shelf
theorem joinXLPieces : Builder.Extra Tryd.prog Tryd.ljoin_ren := {
  sizeBuilder := by kernel_rfl
  liesBuilder := by kernel_rfl
  t5 := Tryd.underlying5
  a5 := Tryd.isAgg5
  z5 := Tryd.sizeOf5
  v5 := Tryd.zeroValue5
  infoByte := by kernel_rfl
  cellsByte := by kernel_rfl
  sizeByte := by kernel_rfl
  neB5 := by decide }
end
noncomputable def gndLPieces : Gnd := Gnd.tab Tryd.prog "internal/strconv.uint64pow10" .u64 Lib.pow10Tab 3 (by kernel_rfl)
theorem knownLPieces {w : World} (h : laidMetH Tryd.prog Rows.fnPiecesRow.laid w) : gndLPieces.G w := by
  have h0 : laidMet Tryd.prog Rows.fnPiecesRow.laid w := by rwa [MakeChecks.laidMetH_plain _ _ _ (by kernel_rfl)] at h
  exact Lib.tabIs_of_head (g := 3) (t := 134) (by kernel_rfl) (by kernel_rfl) Tryd.underlying134 Tryd.underlying76 (by kernel_rfl) (by kernel_rfl) (h0.tail.tail)
noncomputable def idsLPieces : Ids := gndLPieces.ids (idsOf idlLPieces)
theorem soundXLPieces : Sound Tryd.prog idsLPieces ext := sound_extT (L := idlLPieces) rfl [(54, 948), (65, 953)] rfl ⟨extOk_join (by kernel_rfl) (fun xs sep h1 h2 => contract_join (fun bk o c xs sep w a1 a2 a3 a4 a5 => Any.strings_Join Tryd.ljoin joinXLPieces bk o c xs sep w a1 a2 a3 a4 a5) (fun a c sep w => Any.strings_Join_none Tryd.ljoin joinXLPieces a c sep w) xs sep h1 h2), extOk_fmt (by kernel_rfl) (fun n h0 h1 => contract_fmt (T := fun w => Lib.TabIs Tryd.prog w "internal/strconv.uint64pow10" .u64 Lib.pow10Tab) (fun w h => h) (fun n w h0 h1 ht => Any.strconv_FormatInt_10 Tryd.lfmt n h0 h1 w ht) n h0 h1), trivial⟩
theorem lawLPieces : ∀ trees, ShapedAll Tryd.prog 3 Tryd.f4.params.toList trees → ev Vs.G.T ext 12 (idsOf idlLPieces 4) trees = some (.bool true, []) := by
  intro trees h
  rw [Tryd.params4] at h
  obtain ⟨x0, _, rfl, k0, h⟩ := sh_cons (enc := (eSl false 1 (Tree.int .u8))) h (rd_slice (sz := 1) (enc := (Tree.int .u8)) Tryd.underlying22 (by kernel_rfl) (rd_int Tryd.underlying5) (fun _ => mkT_one (by simp [Tryd.underlying5]))) (fun _ => mkT_one (by simp [Tryd.underlying22]))
  obtain rfl := sh_nil h
  exact Vs.G.S898 0 _ (Vs.G.laws_FnPieces_true k0)
theorem liftedLPieces (os : Os) (started : os.Started) (H : Type) (enc : TypeId × Value → H) :
    ReturnsInHanded {} Tryd.checked os 4 .any (fun w args => (Rows.fnPiecesSpec.pre enc Tryd.prog Tryd.f4 Rows.fnPiecesRow.domain false w args ∧ laidMetH Tryd.prog Rows.fnPiecesRow.laid w) ∧ sizedMet enc Tryd.prog Tryd.f4 (OpenSpec.ofChange Rows.fnPiecesSpec) false w args) (Rows.fnPiecesSpec.post enc Tryd.prog Tryd.f4 false true false false) := by
  refine law_liftedD (C := Tryd.checked) (L := idlLPieces) (T := Vs.G.T) (d := 12) (n := 3) (tb := 4) (I := idsLPieces) rfl (Y := fun w _ => laidMetH Tryd.prog Rows.fnPiecesRow.laid w) (fun _ _ _ hh h => h.of_heap hh) ownLPieces laidLPieces started (by kernel_rfl) Tryd.func4
    (ChangeSpec.witness_shaped (enc := enc) (C := Tryd.checked) (os := os) (X := fun w _ => laidMetH Tryd.prog Rows.fnPiecesRow.laid w) false (World.laidAll Tryd.prog os Rows.fnPiecesRow.laid) #[.slice none 0 0] 8 (World.laidAll_os _ _ _)
      (World.shaped_of_ZipB (by kernel_rfl) (by kernel_rfl)) (by kernel_rfl) (by kernel_rfl) (by kernel_rfl)
      (by rw [MakeChecks.laidMetH_plain _ _ _ (by kernel_rfl)]; exact laidMet_laidAll _ (by kernel_rfl) (by kernel_rfl)))
    (fun w _ h => gndLPieces.ok _ (knownLPieces h)) (by kernel_rfl) rfl allLPieces soundXLPieces (by kernel_rfl) (by kernel_rfl) rfl Tryd.underlying4 rfl ?_ lawLPieces
  intro ds hd
  match ds, hd with
  | [a0], _ => exact ⟨rfl, rfl, rfl⟩
theorem fnPieces_holds : Rows.FnPiecesSaid :=
  OpenClaim.holds_of_wide 4 Tryd.f4 rfl rfl rfl rfl rfl rfl rfl ⟨rfl, rfl, rfl, rfl, rfl⟩ rfl rfl rfl rfl rfl (by kernel_rfl) Tryd.func4 (by kernel_rfl)
    (of_decide_eq_true (by kernel_rfl)) (by unfold Func.isWrapper; first | (rw [if_pos (by decide +kernel)]; kernel_rfl) | (rw [if_neg (by decide +kernel)]; exact ⟨rfl, rfl⟩))
    (fun os started H enc _ => liftedLPieces os started H enc)
theorem fnPieces_card_holds : Rows.FnPiecesCardSaid :=
  Claim7.holds_tied_plain_at .later [] [.data, .data, .data] true (true, "880e790cb36ca427e9e674c7fa4197f92325c417e89f41c9e4627bc442eadd57") true fnPieces_holds (fun _ h => by cases h) (by kernel_rfl) (fun _ h => by cases h) fnPieces_row_tie rfl ⟨rfl, rfl⟩ (by kernel_rfl) rfl
    (fun f fn hf hfn => by
      obtain rfl : f = 4 := Option.some.inj ((show Tryd.prog.funcNamed "loop.example/g01063/laws.FnPieces" = some 4 by kernel_rfl).symm.trans hf) |>.symm
      obtain rfl : fn = Tryd.f4 := (Option.some.inj (Tryd.func4.symm.trans hfn)).symm
      exact ⟨by kernel_rfl, fun j t ht => by
        rw [Tryd.params4] at ht
        have hm : t ∈ [22] := by simpa using Array.mem_of_getElem? ht
        have hall : ([22].all fun u => !Tryd.prog.wantsStandIn u) = true := by kernel_rfl
        exact (show Tryd.prog.wantsStandIn t = false by simpa using List.all_eq_true.1 hall t hm)⟩)
    (by kernel_rfl)
#print axioms fnPieces_card_holds
end Go.Proofs.YtglbcomjdcbbaaaDoor
