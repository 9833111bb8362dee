/- Draws: what every source gives. No conditions. -/
import Derived.Test.YtcbacahinmncaaaHLight
import Derived.Test.YtcbacahinmncaaaHGenB
namespace Go.Vs
theorem wp_seq {α β : Type} {A : Option β} {k : β → Option α} {P : β → Prop} {Q : α → Prop} (h : wp A P) (hk : ∀ x, P x → wp (k x) Q) : wp (A.bind k) Q := by
  obtain ⟨x, rfl, hx⟩ := h; exact hk x hx
end Go.Vs
namespace Go.Vs.G
open Go Go.Vs

section
variable {α : Type} {Q : α → Prop} {B : Int} {s : GL00Src}
theorem wp_pick {n : Int} {k : Int × GL00Src → Option α} (h : SrcOk B s) (hB : B ≤ 4611686018427387000) (hk : ∀ v s', 0 ≤ v → (v = 0 ∨ v < n) → SrcOk (B + 2) s' → wp (k (v, s')) Q) : wp ((spec_l00Src_pick s n).bind k) Q := by
  obtain ⟨v, s', e, h0, h1, h2⟩ := pick_ok h hB n
  rw [e]; exact hk v s' h0 h1 h2
theorem wp_one {n : Int} {k : Bool × GL00Src → Option α} (h : SrcOk B s) (hB : B ≤ 4611686018427387000) (hk : ∀ v s', SrcOk (B + 2) s' → wp (k (v, s')) Q) : wp ((spec_l00Src_one s n).bind k) Q := by
  obtain ⟨v, s', e, h2⟩ := one_ok h hB n
  rw [e]; exact hk v s' h2
theorem wp_among {l : List Int} {k : Int × GL00Src → Option α} (h : SrcOk B s) (hB : B ≤ 4611686018427387000) (hl : 1 ≤ l.length) (hl2 : l.length ≤ 1000) (hk : ∀ v s', v ∈ l → SrcOk (B + 2) s' → wp (k (v, s')) Q) : wp ((spec_l00Src_among s l).bind k) Q := by
  obtain ⟨v, s', e, h1, h2⟩ := among_ok h hB hl hl2
  rw [e]; exact hk v s' h1 h2
theorem wp_bent {k : GFraction × GL00Src → Option α} (h : SrcOk B s) (hB : B ≤ 4611686018427370000) (hk : ∀ v s', SrcOk (B + 8) s' → wp (k (v, s')) Q) : wp ((spec_l02Bent s).bind k) Q := by
  obtain ⟨v, s', e, h2⟩ := l02Bent_ok h hB
  rw [e]; exact hk v s' h2
theorem wp_draw02 {k : GFraction × GL00Src → Option α} (h : SrcOk B s) (hB : B ≤ 4611686018427370000) (hk : ∀ v s', SrcOk (B + 4) s' → wp (k (v, s')) Q) : wp ((spec_l02Draw s).bind k) Q := by
  obtain ⟨v, s', e, h2⟩ := l02Draw_ok h (by omega)
  rw [e]; exact hk v s' h2
theorem wp_make {n d : Int} {k : GFraction → Option α} (hd : 0 < d) (hn1 : n.natAbs ≤ 9223372036854775807) (hd1 : d ≤ 9223372036854775807) (hk : ∀ f, Red n d f → wp (k f) Q) : wp ((spec_l02Make n d).bind k) Q := by
  obtain ⟨f, e, hf⟩ := l02Make_eq hd hn1 hd1
  rw [e]; exact hk f hf
theorem wp_from {code : List Int} {k : GL00Src → Option α} (h : okL (okI .u8) code) (hl : code.length ≤ 1000000) (hk : ∀ s, SrcOk 0 s → wp (k s) Q) : wp ((spec_l00From code).bind k) Q := hk _ (srcOk_from h hl)
theorem wp_app {β : Type} {l m : List β} {k : List β → Option α} (h : l.length + m.length ≤ 4294967296) (hk : wp (k (l ++ m)) Q) : wp ((app? l m).bind k) Q := by
  rw [app_ok h]; exact hk
theorem wp_sub {β : Type} {c N : Int} {f : GL00Src → Option (β × GL00Src)} {k : β × GL00Src → Option α} (hf : ∀ {B : Int} {s : GL00Src}, SrcOk B s → B ≤ N → wp (f s) (fun r => SrcOk (B + c) r.2))
    (h : SrcOk B s) (hB : B ≤ N) (hk : ∀ v s', SrcOk (B + c) s' → wp (k (v, s')) Q) : wp ((f s).bind k) Q := by
  obtain ⟨⟨v, s'⟩, e, h2⟩ := hf h hB
  rw [e]; exact hk v s' h2
theorem wp_bif {b : Bool} {A A' : Option α} (h1 : b = true → wp A Q) (h2 : b = false → wp A' Q) : wp (if b = true then A else A') Q := by
  cases b
  · exact h2 rfl
  · exact h1 rfl
end
end Go.Vs.G
