/- The Go law laws.FnScripts returns true for every input and leaves its arguments as they were. Conditions: the listed variables of the library hold what its text lays, as the given card ties it. -/
import Derived.Test.YtidikckodadjoaaGreatDoorRows
import Derived.Test.YtidikckodadjoaaGreatDoorCards
import Derived.Test.YtidikckodadjoaaGreatDoorTie
import Derived.Test.YtidikckodadjoaaGreatDoorSLScripts2
import Derived.Test.YtidikckodadjoaaGreatDoorV6
import Derived.Test.YtidikckodadjoaaGreatDoorHLScripts2
import Derived.Ground.NamesProg
import Derived.Shelf.Lay
import Derived.Shelf.Strings.SplitShaped
import Derived.Shelf.Strconv.Itoa4
import Derived.Shelf.SlGeneric
import Derived.Shelf.SlicesE.DeleteFunc
import Derived.Lib.SliceRun
import Derived.ProofKit
import Derived.Shelf.Strings.Prefix
import Derived.Shelf.Strconv.ParseIntPublic10
import Derived.Test.YtidikckodadjoaaGreatDoorLLScripts
import Derived.Lib.LaidTab
import Derived.Stop.LaidErr
import Derived.ProofKit
import Derived.OpenShut
import Derived.LaidMore
import Derived.Lay
import Derived.SevenTiedAt
import Derived.Stop.Joined
set_option maxRecDepth 100000
namespace Go.Proofs.YtidikckodadjoaaGreatDoor
open Go.ChangeShapes Go.WideShapes Go.ChangeAt Go.RowKit Go.Vs

theorem ownLScripts : ownKnob Tryz.prog.godebug = none := by kernel_rfl
theorem laidLScripts : laidOutB Tryz.prog = true := by kernel_rfl
def idlLScripts : List (Nat × Nat) := [(3, 979), (4, 398), (5, 980), (6, 981), (7, 982), (8, 983), (9, 984), (10, 985), (11, 986), (12, 563), (13, 987), (14, 988), (15, 989), (16, 990), (17, 228), (18, 991), (19, 992), (20, 603), (21, 993), (22, 994), (23, 738), (24, 944), (25, 995), (26, 736), (27, 939), (28, 737), (29, 996), (30, 7), (31, 4), (32, 741), (33, 997), (34, 998), (35, 999), (36, 326), (37, 605), (38, 949), (39, 2), (40, 1), (41, 8), (43, 1001), (44, 938), (45, 1002), (46, 742), (47, 945), (48, 735), (49, 953), (50, 5), (51, 116), (52, 3), (53, 279), (57, 1004), (58, 1005), (59, 951), (60, 952), (61, 533), (62, 739), (63, 612), (64, 740), (66, 809), (75, 613), (80, 832), (1000000, 989900)]
theorem allLScripts : allOk Tryz.prog idlLScripts Vs.G.T = true := by kernel_rfl
section
open Go.Shelf
theorem delXLScripts (x : List UInt8) (W : World) : FnGives Tryz.prog 58 #[] #[encS x] (.bool (x == [])) W := by
  show Calls Tryz.prog 58 #[.string ⟨x.toArray⟩] W _
  go_enter Tryz.func58, Tryz.ntmps58
  go_wp2
  all_goals (go_ret; exact ⟨by cases x <;> simp_all, 0, rfl⟩)
end
noncomputable def gndLScripts : Gnd := Gnd.and (Gnd.num 1) (Gnd.and (Gnd.tab Tryz.prog "internal/strconv.uint64pow10" .u64 Lib.pow10Tab 2 (by kernel_rfl)) (Gnd.and (Gnd.ifc 5) (Gnd.and (Gnd.ifc 6) (Gnd.strs 0 989900 rfl))))
theorem knownLScripts {w : World} (h : laidMetH Tryz.prog Rows.fnScriptsRow.laid w) (hs : w.ShapedOpen Tryz.prog) : gndLScripts.G w := by
  have h0 : laidMet Tryz.prog Rows.fnScriptsRow.laid w := by rwa [MakeChecks.laidMetH_plain _ _ _ (by kernel_rfl)] at h
  exact ⟨Tryz.lsplit.s1_3 w hs, ⟨Lib.tabIs_of_head (g := 2) (t := 112) (by kernel_rfl) (by kernel_rfl) Tryz.underlying112 Tryz.underlying67 (by kernel_rfl) (by kernel_rfl) (h0.tail.tail), ⟨laid_ifc (g := 5) (ti := 84) (by kernel_rfl) (by kernel_rfl) Tryz.underlying84 (h0.tail.tail.tail.tail.tail), ⟨laid_ifc (g := 6) (ti := 84) (by kernel_rfl) (by kernel_rfl) Tryz.underlying84 (h0.tail.tail.tail.tail), laid_strs (tag := 989900) (g := 0) (ti := 64) rfl (by kernel_rfl) (by kernel_rfl) Tryz.underlying64 Tryz.underlying9 (by kernel_rfl) (by kernel_rfl) (h0.tail.tail.tail.tail.tail.tail)⟩⟩⟩⟩
noncomputable def idsLScripts : Ids := gndLScripts.ids (idsOf idlLScripts)
theorem soundXLScripts : Sound Tryz.prog idsLScripts ext := sound_extT (L := idlLScripts) rfl [(21, 993), (49, 953), (57, 1004), (59, 951), (60, 952)] rfl ⟨extOk_split (by kernel_rfl) (fun s sep h1 h2 => contract_split (T := fun w => ∃ m, w.cell? ⟨1, 0, none⟩ = some (.int .i64 m)) (ety := Tryz.lsplit_ren.t 9) (fun w (h : idsLScripts.G w) => (And.left (And.left (a := gndLScripts.G w) (b := gndLScripts.Tb (idsOf idlLScripts) w) h))) (fun s sep w ht hs hp => by
    obtain ⟨m, hm⟩ := ht
    exact Any.strings_Split { Tryz.lsplit with } Tryz.lsplit.i9 s sep m w hs hm hp) (fun s sep hp => Lib.splitB_all sep hp 0 _ s rfl) s sep h1 h2), extOk_fmt (by kernel_rfl) (fun n h0 h1 => contract_fmt (T := fun w => Lib.TabIs Tryz.prog w "internal/strconv.uint64pow10" .u64 Lib.pow10Tab) (fun w (h : idsLScripts.G w) => (And.left (And.right (And.left (a := gndLScripts.G w) (b := gndLScripts.Tb (idsOf idlLScripts) w) h)))) (fun n w h0 h1 ht => Any.strconv_FormatInt_10 Tryz.lfmt n h0 h1 w ht) n h0 h1), extOk_delf (by kernel_rfl) (fun xs hz hne => contract_delf (U := 1005) (k0 := 58) (p := fun x => x == []) (fun k hk => idsOf_uniq (by decide) (show (idlLScripts.all fun e => e.2 != 1005 || e.1 == 58) = true by kernel_rfl) hk) (fun blk cap zs w hH hz hc => by
    have := AnyE.slices_DeleteFunc Tryz.ldelf encS (fun _ => rfl) (fun x => x == []) 58 #[] (enters_of Tryz.func58 (by kernel_rfl) rfl) [] Tryz.zeroValue9 blk 0 cap zs.toArray w (fun W x _ => delXLScripts x W) (fun n os dk x _ => delXLScripts x _) hH (by simpa using hz) (by simpa using hc)
    change Calls Tryz.prog 57 _ _ _ at this
    simpa using this) xs hz hne), extOk_trimP (by kernel_rfl) (fun s p => contract_trimP (fun s p w => Any.strings_TrimPrefix Tryz.ltrp s p w) s p), extOk_parse (by kernel_rfl) (fun s hl => contract_parse (T1 := (Gnd.ifc 5).G) (T2 := (Gnd.ifc 6).G) (ety := Tryz.lpar_ren.t 5) (fun w (h : idsLScripts.G w) => (And.left (And.right (And.right (And.left (a := gndLScripts.G w) (b := gndLScripts.Tb (idsOf idlLScripts) w) h))))) (fun w (h : idsLScripts.G w) => (And.left (And.right (And.right (And.right (And.left (a := gndLScripts.G w) (b := gndLScripts.Tb (idsOf idlLScripts) w) h)))))) (fun s v w hs hp => Any.strconv_ParseInt_10_at64_ok Tryz.lpar s (by omega) v hp w) (fun s w hs hp ht => by
    obtain ⟨t, u, ht⟩ := ht
    refine (Any.strconv_ParseInt_10_at64_syntax Tryz.lpar s hs (Vs.noNum_eq hp trivial) _ w ht (.inr ⟨t, u, rfl⟩)).mono ?_
    rintro e w1 ⟨_, rfl, _, _, hb⟩
    exact ⟨⟨_, _, rfl⟩, hb⟩) (fun s w hs hp ht => by
    obtain ⟨t, u, ht⟩ := ht
    refine (Any.strconv_ParseInt_10_at64_range Tryz.lpar s hs hp _ w ht (.inr ⟨t, u, rfl⟩)).mono ?_
    rintro e w1 ⟨_, rfl, _, _, hb⟩
    exact ⟨⟨_, _, rfl⟩, hb⟩) (fun w t => Lib.bytesWorld_below w _ t) s hl), trivial⟩
theorem lawLScripts : ∀ trees, ShapedAll Tryz.prog 3 Tryz.f3.params.toList trees → ev Vs.G.T ext 7 (idsOf idlLScripts 3) trees = some (.bool true, []) := by
  intro trees h
  rw [Tryz.params3] at h
  obtain ⟨x0, _, rfl, k0, h⟩ := sh_cons (enc := (eSl false 1 (Tree.int .u8))) h (rd_slice (sz := 1) (enc := (Tree.int .u8)) Tryz.underlying22 (by kernel_rfl) (rd_int Tryz.underlying5) (fun _ => mkT_one (by simp [Tryz.underlying5]))) (fun _ => mkT_one (by simp [Tryz.underlying22]))
  obtain rfl := sh_nil h
  exact Vs.G.S979 0 _ (Vs.G.laws_FnScripts_true k0)
theorem liftedLScripts (os : Os) (started : os.Started) (H : Type) (enc : TypeId × Value → H) :
    ReturnsInHanded {} Tryz.checked os 3 .any (fun w args => (Rows.fnScriptsSpec.pre enc Tryz.prog Tryz.f3 Rows.fnScriptsRow.domain false w args ∧ laidMetH Tryz.prog Rows.fnScriptsRow.laid w) ∧ sizedMet enc Tryz.prog Tryz.f3 (OpenSpec.ofChange Rows.fnScriptsSpec) false w args) (Rows.fnScriptsSpec.post enc Tryz.prog Tryz.f3 false true false false) := by
  refine law_liftedD (C := Tryz.checked) (L := idlLScripts) (T := Vs.G.T) (d := 7) (n := 3) (tb := 4) (I := idsLScripts) rfl (Y := fun w _ => laidMetH Tryz.prog Rows.fnScriptsRow.laid w) (fun _ _ _ hh h => h.of_heap hh) ownLScripts laidLScripts started (by kernel_rfl) Tryz.func3
    (ChangeSpec.witness_shaped (enc := enc) (C := Tryz.checked) (os := os) (X := fun w _ => laidMetH Tryz.prog Rows.fnScriptsRow.laid w) false (World.laidAll Tryz.prog os Rows.fnScriptsRow.laid) #[.slice none 0 0] 8 (World.laidAll_os _ _ _)
      (World.shaped_of_ZipB (by kernel_rfl) (by kernel_rfl)) (by kernel_rfl) (by kernel_rfl) (by kernel_rfl)
      (by rw [MakeChecks.laidMetH_plain _ _ _ (by kernel_rfl)]; exact laidMet_laidAll _ (by kernel_rfl) (by kernel_rfl)))
    (fun w _ h hs => gndLScripts.ok _ (knownLScripts h hs) (Gnd.tb_one (g0 := 0) (tag := 989900) _ (by kernel_rfl) (.inr (.inr (.inr (.inr rfl)))) (And.right (And.right (And.right (And.right (knownLScripts h hs))))))) (by kernel_rfl) rfl allLScripts soundXLScripts (by kernel_rfl) (by kernel_rfl) rfl Tryz.underlying4 (by kernel_rfl) ?_ lawLScripts
  intro ds gs hd hg
  match ds, hd, gs, hg with
  | [a0], _, [b0], _ => exact ⟨rfl, rfl, rfl⟩
theorem fnScripts_holds : Rows.FnScriptsSaid :=
  OpenClaim.holds_of_wide 3 Tryz.f3 rfl rfl rfl rfl rfl rfl rfl ⟨rfl, rfl, rfl, rfl, rfl⟩ rfl rfl rfl rfl rfl (by kernel_rfl) Tryz.func3 (by kernel_rfl)
    (of_decide_eq_true (by kernel_rfl)) (by unfold Func.isWrapper; first | (rw [if_pos (by decide +kernel)]; kernel_rfl) | (rw [if_neg (by decide +kernel)]; exact ⟨rfl, rfl⟩))
    (fun os started H enc _ => liftedLScripts os started H enc)
theorem fnScripts_card_holds : Rows.FnScriptsCardSaid :=
  Claim7.holds_tied_plain_at .later [] [.data, .data, .data, .data, .sentinel, .sentinel, .data, .pinned] true (true, "aac278eb0667b9f3b35d20ea90f14acfad216b2dccce994cf0f2dc2a852b6427") true fnScripts_holds (fun _ h => by cases h) (by kernel_rfl) (fun _ h => by cases h) fnScripts_row_tie rfl ⟨rfl, rfl⟩ (by kernel_rfl) rfl
    (fun f fn hf hfn => by
      obtain rfl : f = 3 := Option.some.inj ((show Tryz.prog.funcNamed "loop.example/g01063/laws.FnScripts" = some 3 by kernel_rfl).symm.trans hf) |>.symm
      obtain rfl : fn = Tryz.f3 := (Option.some.inj (Tryz.func3.symm.trans hfn)).symm
      exact ⟨by kernel_rfl, fun j t ht => by
        rw [Tryz.params3] at ht
        have hm : t ∈ [22] := by simpa using Array.mem_of_getElem? ht
        have hall : ([22].all fun u => !Tryz.prog.wantsStandIn u) = true := by kernel_rfl
        exact (show Tryz.prog.wantsStandIn t = false by simpa using List.all_eq_true.1 hall t hm)⟩)
    (by kernel_rfl)
#print axioms fnScripts_card_holds
end Go.Proofs.YtidikckodadjoaaGreatDoor
