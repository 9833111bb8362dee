/- The Go law laws.FnLoops returns true for every input and leaves its arguments as they were. Conditions: none beyond the row's own. -/
import Derived.Test.YtiefnapeghkjnaaRows
import Derived.Test.YtiefnapeghkjnaaSLLoops1
import Derived.Test.YtiefnapeghkjnaaV6
import Derived.Test.YtiefnapeghkjnaaHLLoops1
import Derived.Ground.Names8Prog
import Derived.Shelf.Lay
import Derived.Shelf.Spec.SlicesGrow
import Derived.Ground.SlgnProg
import Derived.Test.YtiefnapeghkjnaaLLLoops
set_option maxRecDepth 100000
namespace Go.Proofs.Ytiefnapeghkjnaa
open Go.ChangeShapes Go.WideShapes Go.ChangeAt Go.RowKit Go.Vs

theorem ownLLoops : ownKnob Try.prog.godebug = none := by kernel_rfl
theorem laidLLoops : laidOutB Try.prog = true := by kernel_rfl
def idlLLoops : List (Nat × Nat) := [(3, 366), (11, 398), (12, 499), (13, 190), (14, 575), (15, 458), (16, 55), (17, 442), (18, 463), (19, 66), (20, 449), (21, 169), (22, 558), (23, 400), (24, 220), (25, 594), (26, 202), (27, 397), (28, 402), (90, 635), (91, 603), (92, 313), (93, 637), (94, 638), (95, 6), (96, 639), (97, 7), (98, 636), (99, 319), (100, 245), (101, 611), (102, 4), (103, 326), (104, 259), (105, 605), (106, 634), (107, 796), (108, 221), (131, 818), (183, 5), (184, 606), (185, 793), (186, 269), (187, 604), (220, 815)]
theorem allLLoops : allOk Try.prog idlLLoops Vs.G.T = true := by kernel_rfl
theorem soundXLLoops : Sound Try.prog (idsOf idlLLoops) ext := sound_extT [(220, 815)] rfl ⟨extOk_grow (by kernel_rfl) (fun sz n h1 h2 => contract_grow (fun base n w h0 h1 => Calls.mono (Any8.slices_Grow_grow Try.lgrow ((Try.prog.info? 2).get (by kernel_rfl)) (.int .i64 0) (by kernel_rfl) (by kernel_rfl) (pos_one (by kernel_rfl)) base 0 0 n [] w (Nat.le_refl 0) (by omega) (grow_big h1 (by kernel_rfl)) (by omega) rfl (fun _ => rfl) (fun a _ j v hj => by simp at hj)) (fun e w' h => ⟨_, _, _, h.1, grow_size rfl (grownCap_ge _ _ _ _), h.2⟩)) sz n h1 h2), trivial⟩
theorem lawLLoops : ∀ trees, ShapedAll Try.prog 3 Try.f3.params.toList trees → ev Vs.G.T ext 7 (idsOf idlLLoops 3) trees = some (.bool true, []) := by
  intro trees h
  rw [Try.params3] at h
  obtain ⟨x0, _, rfl, k0, h⟩ := sh_cons (enc := (eSl false 1 (Tree.int .u8))) h (rd_slice (sz := 1) (enc := (Tree.int .u8)) Try.underlying22 (by kernel_rfl) (rd_int Try.underlying5) (fun _ => mkT_one (by simp [Try.underlying5]))) (fun _ => mkT_one (by simp [Try.underlying22]))
  obtain rfl := sh_nil h
  exact Vs.G.S366 0 _ (Vs.G.laws_FnLoops_true k0)
theorem liftedLLoops (os : Os) (started : os.Started) (H : Type) (enc : TypeId × Value → H) :
    ReturnsInHanded {} Try.checked os 3 .any (Rows.fnLoopsSpec.pre6 enc Try.prog Try.f3 Rows.fnLoopsRow.domain false) (Rows.fnLoopsSpec.post enc Try.prog Try.f3 false true false false) := by
  refine law_lifted (C := Try.checked) (L := idlLLoops) (T := Vs.G.T) (d := 7) (n := 3) (tb := 4) ownLLoops laidLLoops started (by kernel_rfl) Try.func3
    (ChangeSpec.witness6 (enc := enc) (C := Try.checked) false ⟨#[], #[.slice none 0 0], []⟩ 8 (by kernel_rfl) (by kernel_rfl) (by kernel_rfl) (by kernel_rfl))
    (by kernel_rfl) rfl allLLoops soundXLLoops (by kernel_rfl) (by kernel_rfl) rfl Try.underlying4 rfl ?_ lawLLoops
  intro ds hd
  match ds, hd with
  | [a0], _ => exact ⟨rfl, rfl, rfl⟩
theorem fnLoops_holds : Rows.FnLoopsSaid :=
  OpenClaim.holds_of_wide 3 Try.f3 rfl rfl rfl rfl rfl rfl rfl ⟨rfl, rfl, rfl, rfl, rfl⟩ rfl rfl rfl rfl rfl (by kernel_rfl) Try.func3 (by kernel_rfl)
    (of_decide_eq_true (by kernel_rfl)) (by unfold Func.isWrapper; first | (rw [if_pos (by decide +kernel)]; kernel_rfl) | (rw [if_neg (by decide +kernel)]; exact ⟨rfl, rfl⟩))
    (fun os started H enc _ => liftedLLoops os started H enc)
#print axioms fnLoops_holds
end Go.Proofs.Ytiefnapeghkjnaa
