/- Titles: the exact laws. No conditions. -/
import Derived.Test.YtolinhiimdajhaaHGen
import Derived.Test.YtolinhiimdajhaaDLDissolves
namespace Go.Vs.G
open Go Go.Vs

theorem laws_szTitleS_eq {a : List GTitle} (ha : okL GTitle.ok a) {left : Int} (h0 : 0 ≤ left) (h1 : left ≤ 1048576) : ∃ r, laws_szTitleS a left = some r ∧ r ≤ left ∧ (0 ≤ r → a.length ≤ left) := by
  refine szS a laws_szTitle h0 h1 ha.1 fun x hx l hl0 hl1 => ?_
  have hn : x.Name.length ≤ 9223372036854775807 := (ha.2 x hx).2.1
  unfold laws_szTitle
  rw [w64_id (by omega) (by omega)]
  split
  · exact ⟨_, rfl, by omega⟩
  · exact ⟨_, rfl, by omega⟩
theorem laws_toTitleS_eq {a : List GTitle} (ha : a.length ≤ 1048576) : laws_toTitleS a = some a := toS a _ laws_toTitle (fun _ _ => rfl) (by omega)
def sameTitle (x y : GTitle) : Bool := x.No == y.No && (x.Name == y.Name && (x.Glass == y.Glass && (x.Broken == y.Broken && true)))
theorem sameTitle_eq (x y : GTitle) : sameTitle x y = decide (x = y) := by
  cases x; cases y
  unfold sameTitle
  rw [Bool.eq_iff_iff]; simp
theorem laws_eqTitle_eq (x y : GTitle) : laws_eqTitle x y = some (decide (x = y)) := by
  rw [← sameTitle_eq]
  unfold laws_eqTitle sameTitle
  repeat' split
  all_goals simp_all
theorem laws_eqTitleS_eq {a b : List GTitle} (ha : a.length ≤ 1048576) : laws_eqTitleS a b = some (decide (a = b)) := by
  rw [← zip_eq (c := fun x y => decide (x = y)) (fun _ _ => rfl)]
  exact eqS (c := fun x y => decide (x = y)) a b (fun x _ y _ => laws_eqTitle_eq x y) (by omega)
theorem spec_SameTitles_eq {a b : List GTitle} (ha : a.length ≤ 1048576) : spec_SameTitles a b = some (decide (a = b)) := by
  rw [← zip_eq (c := sameTitle) sameTitle_eq]
  exact eqS (f := fun x y => some (sameTitle x y)) (c := sameTitle) a b (fun x _ y _ => rfl) (by omega)
theorem impl_SameTitles_eq {a b : List GTitle} (ha : a.length ≤ 1048576) : impl_SameTitles a b = some (decide (a = b)) := by
  unfold impl_SameTitles
  have : slices_Equal_impl_Title_impl_Title_814 a b = some (decide (a = b)) := by
    rw [← zip_eq (c := sameTitle) sameTitle_eq]
    exact eqS (f := fun x y => some (sameTitle x y)) (c := sameTitle) a b (fun x _ y _ => rfl) (by omega)
  rw [this]; rfl
theorem laws_FnExactSameTitles_true {a b : List GTitle} (ha : okL GTitle.ok a) (hb : okL GTitle.ok b) : laws_FnExactSameTitles a b = some true := by
  obtain ⟨r1, h1, h2, h3⟩ := laws_szTitleS_eq ha (left := 1048576) (by omega) (by omega)
  unfold laws_FnExactSameTitles
  rw [h1, Option.bind_some]
  split
  · rfl
  · obtain ⟨r2, h4, h5, h6⟩ := laws_szTitleS_eq hb (left := r1) (by omega) (by omega)
    rw [h4, Option.bind_some]
    split
    · rfl
    · have hla : a.length ≤ 1048576 := by omega
      have hlb : b.length ≤ 1048576 := by omega
      simp [laws_toTitleS_eq hla, laws_toTitleS_eq hlb, spec_SameTitles_eq hla, impl_SameTitles_eq hla, laws_eqTitleS_eq hla, laws_eqTitleS_eq hlb]
end Go.Vs.G
