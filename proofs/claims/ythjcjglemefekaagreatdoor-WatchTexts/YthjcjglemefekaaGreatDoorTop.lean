/- WatchTexts, whole. -/
import Derived.Test.YthjcjglemefekaaGreatDoorText2
import Derived.Test.YthjcjglemefekaaGreatDoorWorks
namespace Go.Proofs
open Go Go.RowKit

set_option maxRecDepth 100000 in
set_option maxHeartbeats 4000000 in
theorem refText_out (k a t s g o e : Int) (u : Nat) (hk : k < 1 ∨ 3 < k) (w : World) (htab : Tab w) :
    Calls Tryz.prog 7 #[.agg #[.int .i64 k, .int .i64 a, .int .i64 t, .int .i64 s, .int .i64 g, .int .i64 o, .int .u32 u, .int .i64 e]] w fun e w' =>
      e = .returned (.string ⟨#[]⟩) ∧ Below w.heap.size w w' := by
  have hks := KS.start w (.int .i64 k) (.int .i64 a) (.int .i64 t) (.int .i64 s) (.int .i64 g) (.int .i64 o) (.int .u32 u) (.int .i64 e) 29 htab
  go_enter Tryz.func7, Tryz.ntmps7
  rcases hk with hk | hk
  · go_wp2
    go_ret
    exact ⟨rfl, hks.below⟩
  · have q1 : ¬ k < 1 := by omega
    go_wp2
    go_ret
    exact ⟨rfl, hks.below⟩

theorem front_eq (a t s g : Int) : frontT a t s g = refFront a t s g := by
  simp [frontT, refFront, Lib.join, List.intercalate, List.intersperse]
theorem where_eq (o : Int) (u : Nat) (f x : List UInt8) : Lib.join [f, whereT o u, x] [32] = refWhere o u f ++ 32 :: x := by
  simp [whereT, refWhere, Lib.join, List.intercalate, List.intersperse]
theorem text_eq (k a t s g o : Int) (u : Nat) : refT k a t s g o u = textT k a t s g o u := by
  unfold refT textT
  by_cases h : k < 1 ∨ 3 < k
  · rw [if_pos h, if_neg (by omega), if_neg (by omega), if_neg (by omega)]
  · rw [if_neg h]
    by_cases h1 : k = 1
    · rw [if_pos h1, if_pos h1, front_eq]; simp [Lib.join, List.intercalate, List.intersperse]
    · rw [if_neg h1, if_neg h1]
      by_cases h2 : k = 2
      · rw [if_pos h2, if_pos h2, where_eq, front_eq]
      · rw [if_neg h2, if_neg h2, if_pos (by omega), where_eq, front_eq]

theorem refText_any (k a t s g o e : Int) (u : Nat) (ha0 : -9223372036854775808 ≤ a) (ha1 : a ≤ 9223372036854775807) (ht0 : -9223372036854775808 ≤ t) (ht1 : t ≤ 9223372036854775807)
    (hs0 : -9223372036854775808 ≤ s) (hs1 : s ≤ 9223372036854775807) (hg0 : -9223372036854775808 ≤ g) (hg1 : g ≤ 9223372036854775807) (hu : u < 4294967296) (w : World) (htab : Tab w) :
    Calls Tryz.prog 7 #[.agg #[.int .i64 k, .int .i64 a, .int .i64 t, .int .i64 s, .int .i64 g, .int .i64 o, .int .u32 u, .int .i64 e]] w fun e w' =>
      e = .returned (.string ⟨(textT k a t s g o u).toArray⟩) ∧ Below w.heap.size w w' := by
  by_cases h : 1 ≤ k ∧ k ≤ 3
  · rw [← text_eq]
    exact refText_walk k a t s g o e u ha0 ha1 ht0 ht1 hs0 hs1 hg0 hg1 hu h.1 h.2 w htab
  · have : textT k a t s g o u = [] := by unfold textT; rw [if_neg (by omega), if_neg (by omega), if_neg (by omega)]
    rw [this]
    exact refText_out k a t s g o e u (by omega) w htab

/-- What stays. -/
structure KW (w0 : World) (b : Nat) (cs : Array Value) (w : World) : Prop where
  lies : w.heap[b]? = some (.cells cs 29 (0, 0))
  tab : Tab w
  below : Below w0.heap.size w0 w
  size : w0.heap.size ≤ w.heap.size
theorem KW.next {w0 w w' : World} {b : Nat} {cs : Array Value} (h : KW w0 b cs w) (hb : Below w.heap.size w w') : KW w0 b cs w' := by
  have hlt : b < w.heap.size := (Array.getElem?_eq_some_iff.1 h.lies).1
  exact ⟨by rw [hb.block b hlt]; exact h.lies, tabIs_below h.tab hb, h.below.trans (hb.mono h.size), Nat.le_trans h.size hb.size⟩

theorem KW.cell {w0 w : World} {b : Nat} {cs : Array Value} (h : KW w0 b cs w) {i : Nat} {v : Value} (hv : cs[i]? = some v) : w.cell? ⟨b, i, none⟩ = some v := by
  unfold World.cell?
  rw [h.lies]
  exact hv
theorem KW.all {w0 w : World} {b : Nat} {v0 v1 v2 v3 v4 v5 v6 v7 : Value} (h : KW w0 b #[v0, v1, v2, v3, v4, v5, v6, v7] w) :
    w.cell? ⟨b, 0, none⟩ = some v0 ∧ w.cell? ⟨b, 1, none⟩ = some v1 ∧ w.cell? ⟨b, 2, none⟩ = some v2 ∧ w.cell? ⟨b, 3, none⟩ = some v3 ∧ w.cell? ⟨b, 4, none⟩ = some v4 ∧ w.cell? ⟨b, 5, none⟩ = some v5 ∧ w.cell? ⟨b, 6, none⟩ = some v6 ∧ w.cell? ⟨b, 7, none⟩ = some v7 ∧
      KW w0 b #[v0, v1, v2, v3, v4, v5, v6, v7] w :=
  ⟨h.cell rfl, h.cell rfl, h.cell rfl, h.cell rfl, h.cell rfl, h.cell rfl, h.cell rfl, h.cell rfl, h⟩

set_option maxRecDepth 100000 in
set_option maxHeartbeats 4000000 in
theorem watchTexts_walk (k a t s g o e n : Int) (u : Nat) (ha0 : -9223372036854775808 ≤ a) (ha1 : a ≤ 9223372036854775807) (ht0 : -9223372036854775808 ≤ t) (ht1 : t ≤ 9223372036854775807)
    (hs0 : -9223372036854775808 ≤ s) (hs1 : s ≤ 9223372036854775807) (hg0 : -9223372036854775808 ≤ g) (hg1 : g ≤ 9223372036854775807) (hu : u < 4294967296) (w : World) (htab : Tab w) :
    Calls Tryz.prog 3 #[.agg #[.int .i64 k, .int .i64 a, .int .i64 t, .int .i64 s, .int .i64 g, .int .i64 o, .int .u32 u, .int .i64 e], .int .i64 n] w fun e w' =>
      e = .returned (.bool true) ∧ Below w.heap.size w w' := by
  have hb0 : Below w.heap.size w (w.alloc (.cells #[.int .i64 k, .int .i64 a, .int .i64 t, .int .i64 s, .int .i64 g, .int .i64 o, .int .u32 u, .int .i64 e] 29)) := (Below.refl _ _).alloc (Nat.le_refl _) _
  have hks : KW w w.heap.size #[.int .i64 k, .int .i64 a, .int .i64 t, .int .i64 s, .int .i64 g, .int .i64 o, .int .u32 u, .int .i64 e] (w.alloc (.cells #[.int .i64 k, .int .i64 a, .int .i64 t, .int .i64 s, .int .i64 g, .int .i64 o, .int .u32 u, .int .i64 e] 29)) :=
    ⟨heap_alloc_new _ _, tabIs_below htab hb0, hb0, hb0.size⟩
  clear hb0
  go_enter Tryz.func3, Tryz.ntmps3
  go_wp2
  generalize w.alloc (.cells #[.int .i64 k, .int .i64 a, .int .i64 t, .int .i64 s, .int .i64 g, .int .i64 o, .int .u32 u, .int .i64 e] 29) = w1 at *
  have hkd := hks.next ((Below.refl _ w1).drew)
  obtain ⟨x0, x1, x2, x3, x4, x5, x6, x7, _⟩ := hkd.all
  go_region_held3 (fun w' => w'.cell? ⟨w.heap.size, 0, none⟩ = some (.int .i64 k) ∧ w'.cell? ⟨w.heap.size, 1, none⟩ = some (.int .i64 a) ∧ w'.cell? ⟨w.heap.size, 2, none⟩ = some (.int .i64 t) ∧ w'.cell? ⟨w.heap.size, 3, none⟩ = some (.int .i64 s) ∧
      w'.cell? ⟨w.heap.size, 4, none⟩ = some (.int .i64 g) ∧ w'.cell? ⟨w.heap.size, 5, none⟩ = some (.int .i64 o) ∧ w'.cell? ⟨w.heap.size, 6, none⟩ = some (.int .u32 u) ∧ w'.cell? ⟨w.heap.size, 7, none⟩ = some (.int .i64 e) ∧
      KW w w.heap.size #[.int .i64 k, .int .i64 a, .int .i64 t, .int .i64 s, .int .i64 g, .int .i64 o, .int .u32 u, .int .i64 e] w') (exact KW.all (by assumption))
    (first
      | (go_at_call 6; refine (text_walk k a t s g o e u ha0 ha1 ht0 ht1 hs0 hs1 hg0 hg1 hu _ (KW.tab (by assumption))).mono ?_; rintro e w' ⟨rfl, hb⟩; have hk := KW.next (by assumption) hb; obtain ⟨y0, y1, y2, y3, y4, y5, y6, y7, _⟩ := hk.all)
      | (go_at_call 7; refine (refText_any k a t s g o e u ha0 ha1 ht0 ht1 hs0 hs1 hg0 hg1 hu _ (KW.tab (by assumption))).mono ?_; rintro e w' ⟨rfl, hb⟩; have hk := KW.next (by assumption) hb; obtain ⟨y0, y1, y2, y3, y4, y5, y6, y7, _⟩ := hk.all)
      | (go_at_call 8; refine (name_walk n _).mono ?_; rintro e w' ⟨rfl, hb⟩; have hk := KW.next (by assumption) hb; obtain ⟨y0, y1, y2, y3, y4, y5, y6, y7, _⟩ := hk.all)
      | (go_at_call 9; refine (refName_walk n _).mono ?_; rintro e w' ⟨rfl, hb⟩; have hk := KW.next (by assumption) hb; obtain ⟨y0, y1, y2, y3, y4, y5, y6, y7, _⟩ := hk.all)
      | (go_at_call 10; refine (works_calls _).mono ?_; rintro e w' ⟨rfl, hb⟩; have hk := KW.next (by assumption) hb; obtain ⟨y0, y1, y2, y3, y4, y5, y6, y7, _⟩ := hk.all))
  go_wp2
  go_ret
  exact ⟨rfl, KW.below (by assumption)⟩
#print axioms watchTexts_walk
end Go.Proofs
