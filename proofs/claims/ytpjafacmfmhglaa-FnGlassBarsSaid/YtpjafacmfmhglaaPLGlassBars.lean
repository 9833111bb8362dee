/- The Go law laws.FnGlassBars returns true for every input and leaves its arguments as they were. Conditions: none beyond the row's own. -/
import Derived.Test.YtpjafacmfmhglaaRows
import Derived.Test.YtpjafacmfmhglaaSLGlassBars1
import Derived.Test.YtpjafacmfmhglaaV6
import Derived.Test.YtpjafacmfmhglaaHLGlassBars1
import Derived.Tactics
import Derived.Tactics2
import Derived.Laws.CopyOwn
import Derived.Laws.Tables
import Derived.Laws.Rows
import Derived.Great.Walk
import Derived.Deep.WholeRow
import Derived.ProofKit
import Derived.Shelf.SlGeneric
import Derived.Shelf.SlicesE.Clone
import Derived.Ground.Names8Prog
import Derived.Shelf.Lay
import Derived.Shelf.Spec.SlicesGrow
import Derived.Ground.SlgnProg
import Derived.Test.YtpjafacmfmhglaaC
import Derived.Test.YtpjafacmfmhglaaLLGlassBars
set_option maxRecDepth 100000
namespace Go.Proofs.Ytpjafacmfmhglaa
open Go.ChangeShapes Go.WideShapes Go.ChangeAt Go.RowKit Go.Vs

theorem ownLGlassBars : ownKnob Try.prog.godebug = none := by kernel_rfl
theorem laidLGlassBars : laidOutB Try.prog = true := by kernel_rfl
def idlLGlassBars : List (Nat × Nat) := [(4, 353), (6, 386), (13, 435), (14, 70), (15, 205), (16, 388), (17, 385), (27, 603), (34, 326), (36, 701), (37, 7), (38, 702), (39, 309), (40, 25), (41, 794), (42, 23), (45, 232), (46, 24), (47, 21), (48, 283), (52, 795), (59, 5), (60, 310), (61, 311), (62, 784), (63, 816), (65, 796), (66, 233), (67, 798), (68, 234), (69, 22), (71, 817), (84, 818), (85, 820)]
theorem allLGlassBars : allOk Try.prog idlLGlassBars Vs.G.T = true := by kernel_rfl
section
open Go.Shelf
theorem allocFLGlassBars (w : World) (Z : Array Value) (t : TypeId) : (w.alloc (.cells Z t)).heap.size = w.heap.size + 1 ∧ (w.alloc (.cells Z t)).heap[w.heap.size]? = some (.cells Z t) ∧ Below w.heap.size w (w.alloc (.cells Z t)) :=
  ⟨by show (w.heap.push _).size = _; rw [Array.size_push], heap_alloc_last w _, (Below.refl _ _).alloc (Nat.le_refl _) _⟩
theorem spliceKLGlassBars (zs : List Int) : (splice (#[Value.int .i64 0, .int .i64 0, .int .i64 0, .int .i64 0] : Array Value).toList 0 ((zs.take 4).map (Value.int .i64))).toArray = ((key4 zs).map (Value.int .i64)).toArray := by
  have e1 : (#[Value.int .i64 0, .int .i64 0, .int .i64 0, .int .i64 0] : Array Value).toList = List.replicate 4 (Value.int .i64 0) := rfl
  have e2 : ([0, 0, 0, 0] : List Int) = List.replicate 4 0 := rfl
  unfold splice key4
  rw [e1, e2, List.take_zero, List.nil_append, List.drop_replicate, List.take_append, List.take_replicate, List.map_append, List.map_replicate]
  congr 3
  simp
  omega
theorem keyLGlassBars (a : Option Addr) (zs : List Int) (cap : Nat) (w : World) (hz : zs.length ≤ 9223372036854775807) (hc : zs = [] ∨ ∃ b off, a = some ⟨b, off, none⟩ ∧ b < w.heap.size ∧ ∀ j (h : j < zs.length), w.cell? ⟨b, off + j, none⟩ = some (.int .i64 zs[j])) (hcap : zs.length ≤ cap) :
    Calls Try.prog 48 #[.slice a zs.length cap] w fun e w' => e = .returned (.agg ((key4 zs).map (Value.int .i64)).toArray) ∧ Below w.heap.size w w' := by
  go_enter Try.func48, Try.ntmps48
  obtain ⟨hza, hia⟩ := zero_of_info (P := Try.prog) (t := 75) (v := .agg #[.int .i64 0, .int .i64 0, .int .i64 0, .int .i64 0]) (n := 4) (by kernel_rfl)
  have hua : Try.prog.underlying 75 = some (.array 4 2) := by kernel_rfl
  have hus : Try.prog.underlying 27 = some (.slice 2) := by kernel_rfl
  have hi3 : (Try.prog.info? 2).map (·.size) = some 1 := by kernel_rfl
  have hbu : ∀ w, (Instr.build 75 #[]).run Try.prog w = .ok (.agg #[.int .i64 0, .int .i64 0, .int .i64 0, .int .i64 0]) w := fun w => run_build w 75 #[] _ (by kernel_rfl)
  obtain ⟨Z, hZ⟩ : ∃ Z : Array Value, Z = #[.int .i64 0, .int .i64 0, .int .i64 0, .int .i64 0] := ⟨_, rfl⟩
  rw [← hZ] at hza
  simp only [← hZ] at hbu
  have hsz : Z.size = 4 := by rw [hZ]; rfl
  have hone : Z.all (·.oneCell') = true := by rw [hZ]; simp [Value.oneCell']
  obtain ⟨s1, l1, b1⟩ := allocFLGlassBars w Z 75
  obtain ⟨w1, hw1⟩ : ∃ w1, w1 = w.alloc (.cells Z 75) := ⟨_, rfl⟩
  obtain ⟨s2, l2, b2⟩ := allocFLGlassBars w1 Z 75
  obtain ⟨w2, hw2⟩ : ∃ w2, w2 = w1.alloc (.cells Z 75) := ⟨_, rfl⟩
  rw [← hw1] at s1 l1 b1
  rw [← hw2] at s2 l2 b2
  refine wp_seq (wp_region_lit ?_)
  refine Go.Great.wpList_allocTo rfl (some 2) rfl (.pointer (some ⟨w.heap.size, 0, none⟩)) (.cells Z 75) (by simp [execOp, hza, go_sem]) (wpList_nil ?_)
  rw [← hw1]
  refine wp_seq (wp_region_lit ?_)
  refine Go.Great.wpList_readTo rfl (some 4) rfl (.agg Z) (by simp [execOp, go_sem]; exact hZ.symm) ?_
  refine Go.Great.wpList_allocTo rfl (some 3) rfl (.pointer (some ⟨w1.heap.size, 0, none⟩)) (.cells Z 75) (by simp [execOp, hza, go_sem]) ?_
  rw [← hw2]
  refine wpList_store_row rfl 75 (.tmp 3) (.tmp 4) rfl w1.heap.size Z rfl rfl 75 Z l2 (by rw [hia, hsz]) rfl hone (wpList_nil ?_)
  rw [hw2, World.setRow_alloc_new, ← hw2]
  refine wp_seq (wp_region_lit ?_)
  refine Go.Great.wpList_readTo rfl (some 5) rfl (.slice (some ⟨w1.heap.size, 0, none⟩) 4 4) (by simp [execOp, go_sem]) ?_
  refine Go.Great.wpList_readTo rfl (some 6) rfl (.slice a zs.length cap) (by simp [execOp, go_sem]) ?_
  refine wpList_copy_splice rfl (.tmp 5) (.tmp 6) 27 27 rfl 2 hus hi3 (some ⟨w1.heap.size, 0, none⟩) a 4 4 zs.length cap rfl rfl w1.heap.size 0 Z.toList 75 (by simpa using l2) ((zs.take 4).map (Value.int .i64)) (by simp [Nat.min_comm]) (fun hp => ⟨rfl, ?_⟩) (by simp [hsz]; omega) ?_ w1.heap.size w1 b2 (Nat.le_refl _) ?_
  · have hne : zs ≠ [] := by rintro rfl; simp at hp
    obtain ⟨b, off, rfl, hb, hcell⟩ := hc.resolve_left hne
    refine ⟨_, rfl, fun j v hv => ?_⟩
    rw [List.getElem?_map] at hv
    obtain ⟨x, hx, rfl⟩ := Option.map_eq_some_iff.1 hv
    rw [List.getElem?_take] at hx
    split at hx
    · obtain ⟨hj, rfl⟩ := List.getElem?_eq_some_iff.1 hx
      have h2 := hcell j hj
      have hbl : w2.heap[b]? = w.heap[b]? := (b2.block b (by omega)).trans (b1.block b hb)
      have hadd : (⟨b, off, none⟩ : Addr).add j = ⟨b, off + j, none⟩ := by unfold Addr.add; split <;> simp_all
      rw [hadd, ← h2]
      unfold World.cell?
      rw [hbl]
    · cases hx
  · intro v hv
    obtain ⟨x, _, rfl⟩ := List.mem_map.1 hv
    rfl
  intro w' hH hB
  refine wpList_nil ?_
  refine wp_seq (wp_region_lit ?_)
  have h3 := hH.out
  have h0 : w'.heap[w.heap.size]? = some (.cells Z 75) := by rw [hB.block _ (by omega)]; exact l1
  have hsp : (splice Z.toList 0 ((zs.take 4).map (Value.int .i64))).toArray = ((key4 zs).map (Value.int .i64)).toArray := by
    rw [hZ]; exact spliceKLGlassBars zs
  rw [hsp] at h3
  have hk4 : (key4 zs).length = 4 := by unfold key4; simp
  obtain ⟨K, hK⟩ : ∃ K : Array Value, K = ((key4 zs).map (Value.int .i64)).toArray := ⟨_, rfl⟩
  have hks : K.size = 4 := by rw [hK]; simp [hk4]
  have hko : K.all (·.oneCell') = true := by rw [hK]; simp [Value.oneCell']
  rw [← hK] at h3 ⊢
  refine wpList_load_row rfl 75 (.tmp 3) rfl w1.heap.size rfl 75 K (0, 0) (.array 4 2) h3 hua rfl (by rw [hia, hks]) ?_
  refine wpList_store_row rfl 75 (.tmp 2) (.tmp 8) rfl w.heap.size K (by simp [go_sem]) (by simp [go_sem]) 75 Z h0 (by rw [hia, hks]) (by rw [hsz, hks]) hko (wpList_nil ?_)
  refine wp_ret ?_
  refine bodyPost_ret (results_cell_row rfl _ _ w.heap.size 75 K (0, 0) (.array 4 2) (by simp [go_sem, Act.put]) (setRow_heap _ _ _ _ _ _ h0) hua rfl (by rw [hia, hks])) (by simp [go_sem, Act.put]) ⟨rfl, ?_⟩
  exact below_setRow ((b1.trans (hB.mono (by omega)))) (Nat.le_refl _) _
end
def idsLGlassBars : Ids := Ids.plain (idsOf idlLGlassBars)
theorem soundXLGlassBars : Sound Try.prog idsLGlassBars ext := sound_extT (L := idlLGlassBars) rfl [(48, 283), (62, 784), (63, 816)] rfl ⟨extOk_key (by kernel_rfl) (fun zs hz => contract_key (fun a zs cap w h1 h2 h3 => keyLGlassBars a zs cap w h1 h2 h3) zs hz), extOk_clone (u := 784) (sz := 1) (fun _ => rfl) (by kernel_rfl) (fun es h1 h2 => contract_clone (ety := 2) (fun ad n c news w hl hn hc h1 => (clone_any Try.lclone784 ((Try.prog.info? 2).get (by kernel_rfl)) (.int .i64 0) 1 8 (by kernel_rfl) (by kernel_rfl) (by kernel_rfl) (by kernel_rfl) rfl (by decide) Try.sizeOf2 ad n c news w hl (by simp only [maxLen]; omega) (by omega) hc h1)) (fun n c w => AnyE.slices_Clone_nil Try.lclone784 n c w) es h1 h2), extOk_growN (by kernel_rfl) (fun n h1 h2 => contract_growN (by decide) (fun n w h0 h1 => Calls.mono (Any8.slices_Grow_grow Try.lgrow ((Try.prog.info? 67).get (by kernel_rfl)) (.agg #[.int .i64 0, .int .i64 0, .int .i64 0, .int .i64 0]) (by kernel_rfl) (by kernel_rfl) (pos_four (by kernel_rfl)) none 0 0 n [] w (Nat.le_refl 0) (by omega) (grow_bigN h1 (by kernel_rfl)) (by omega) rfl (fun _ => rfl) (fun a ha j v hj => by simp at hj)) (fun e w' h => ⟨_, _, _, h.1, grownCap_le_maxLen _ _ _ _ (by simp only [maxLen]; omega), grow_sizeN rfl (grownCap_ge _ _ _ _), h.2⟩)) (fun w => by simpa using Any8.slices_Grow_room Try.lgrow none 0 0 0 w (by omega) (by omega) (by omega) (by omega)) n h1 h2), trivial⟩
theorem lawLGlassBars : ∀ trees, ShapedAll Try.prog 3 Try.f4.params.toList trees → ev Vs.G.T ext 13 (idsOf idlLGlassBars 4) trees = some (.bool true, []) := by
  intro trees h
  rw [Try.params4] at h
  obtain ⟨x0, _, rfl, k0, h⟩ := sh_cons (enc := (eSl false 1 (Tree.int .u8))) h (rd_slice (sz := 1) (enc := (Tree.int .u8)) Try.underlying22 (by kernel_rfl) (rd_int Try.underlying5) (fun _ => mkT_one (by simp [Try.underlying5]))) (fun _ => mkT_one (by simp [Try.underlying22]))
  obtain rfl := sh_nil h
  exact Vs.G.S353 0 _ (Vs.G.laws_FnGlassBars_true k0)
theorem liftedLGlassBars (os : Os) (started : os.Started) (H : Type) (enc : TypeId × Value → H) :
    ReturnsInHanded {} Try.checked os 4 .any (Rows.fnGlassBarsSpec.pre6 enc Try.prog Try.f4 Rows.fnGlassBarsRow.domain false) (Rows.fnGlassBarsSpec.post enc Try.prog Try.f4 false true false false) := by
  refine law_lifted (C := Try.checked) (L := idlLGlassBars) (T := Vs.G.T) (d := 13) (n := 3) (tb := 4) ownLGlassBars laidLGlassBars started (by kernel_rfl) Try.func4
    (ChangeSpec.witness6 (enc := enc) (C := Try.checked) false ⟨#[], #[.slice none 0 0], []⟩ 8 (by kernel_rfl) (by kernel_rfl) (by kernel_rfl) (by kernel_rfl))
    (by kernel_rfl) rfl allLGlassBars (by kernel_rfl) soundXLGlassBars (by kernel_rfl) (by kernel_rfl) rfl Try.underlying4 rfl ?_ lawLGlassBars
  intro ds hd
  match ds, hd with
  | [a0], _ => exact ⟨rfl, rfl, rfl⟩
theorem fnGlassBars_holds : Rows.FnGlassBarsSaid :=
  OpenClaim.holds_of_wide 4 Try.f4 rfl rfl rfl rfl rfl rfl rfl ⟨rfl, rfl, rfl, rfl, rfl⟩ rfl rfl rfl rfl rfl (by kernel_rfl) Try.func4 (by kernel_rfl)
    (of_decide_eq_true (by kernel_rfl)) (by unfold Func.isWrapper; first | (rw [if_pos (by decide +kernel)]; kernel_rfl) | (rw [if_neg (by decide +kernel)]; exact ⟨rfl, rfl⟩))
    (fun os started H enc _ => liftedLGlassBars os started H enc)
#print axioms fnGlassBars_holds
end Go.Proofs.Ytpjafacmfmhglaa
