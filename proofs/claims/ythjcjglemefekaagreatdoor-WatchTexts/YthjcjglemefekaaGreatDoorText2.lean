/- ref.Text. -/
import Derived.Test.YthjcjglemefekaaGreatDoorText1
namespace Go.Proofs
open Go Go.RowKit

/-- The document's text. -/
def refFront (a t s g : Int) : List UInt8 :=
  [97, 116, 32] ++ Lib.itoa a ++ [32, 116, 104, 114, 101, 97, 100, 32] ++ Lib.itoa t ++ [32, 104, 97, 110, 100, 108, 101, 32] ++ Lib.itoa s ++ [32] ++ Lib.itoa g
def refWhere (o : Int) (u : Nat) (f : List UInt8) : List UInt8 := f ++ [32] ++ nm o ++ [32, 119, 104, 101, 114, 101, 32] ++ Lib.itoa u
def refT (k a t s g o : Int) (u : Nat) : List UInt8 :=
  if k < 1 ∨ 3 < k then [] else if k = 1 then refFront a t s g ++ [32, 115, 116, 97, 108, 101] else if k = 2 then refWhere o u (refFront a t s g) ++ [32, 109, 105, 115, 117, 115, 101] else refWhere o u (refFront a t s g) ++ [32, 102, 97, 117, 108, 116]

theorem refFront_bytes (a t s g : Int) : (⟨#[97, 116, 32]⟩ ++ ⟨(Lib.itoa a).toArray⟩ ++ ⟨#[32, 116, 104, 114, 101, 97, 100, 32]⟩ ++ ⟨(Lib.itoa t).toArray⟩ ++ ⟨#[32, 104, 97, 110, 100, 108, 101, 32]⟩ ++ ⟨(Lib.itoa s).toArray⟩ ++ ⟨#[32]⟩ ++ ⟨(Lib.itoa g).toArray⟩ : ByteArray) =
    ⟨(refFront a t s g).toArray⟩ := by
  apply ByteArray.ext
  simp [refFront]
theorem refWhere_bytes (o : Int) (u : Nat) (f : List UInt8) : (⟨f.toArray⟩ ++ ⟨#[32]⟩ ++ ⟨(nm o).toArray⟩ ++ ⟨#[32, 119, 104, 101, 114, 101, 32]⟩ ++ ⟨(Lib.itoa u).toArray⟩ : ByteArray) = ⟨(refWhere o u f).toArray⟩ := by
  apply ByteArray.ext
  simp [refWhere]
theorem last_bytes (f x : List UInt8) : (⟨f.toArray⟩ ++ ⟨x.toArray⟩ : ByteArray) = ⟨(f ++ x).toArray⟩ := by
  apply ByteArray.ext
  simp

set_option maxRecDepth 100000 in
set_option maxHeartbeats 4000000 in
theorem refText_walk (k a t s g o e : Int) (u : Nat) (ha0 : -9223372036854775808 ≤ a) (ha1 : a ≤ 9223372036854775807) (ht0 : -9223372036854775808 ≤ t) (ht1 : t ≤ 9223372036854775807)
    (hs0 : -9223372036854775808 ≤ s) (hs1 : s ≤ 9223372036854775807) (hg0 : -9223372036854775808 ≤ g) (hg1 : g ≤ 9223372036854775807) (hu : u < 4294967296) (hk1 : 1 ≤ k) (hk3 : k ≤ 3) (w : World) (htab : Tab w) :
    Calls Tryz.prog 7 #[.agg #[.int .i64 k, .int .i64 a, .int .i64 t, .int .i64 s, .int .i64 g, .int .i64 o, .int .u32 u, .int .i64 e]] w fun e w' =>
      e = .returned (.string ⟨(refT k a t s g o u).toArray⟩) ∧ Below w.heap.size w w' := by
  have hks := KS.start w (.int .i64 k) (.int .i64 a) (.int .i64 t) (.int .i64 s) (.int .i64 g) (.int .i64 o) (.int .u32 u) (.int .i64 e) 29 htab
  have la := itoa_len a ha0 ha1
  have lt := itoa_len t ht0 ht1
  have ls := itoa_len s hs0 hs1
  have lg := itoa_len g hg0 hg1
  have lu := itoa_len (u : Int) (by omega) (by omega)
  have ln := nm_len o
  have hwr : IntKind.i64.wrap (u : Int) = (u : Int) := by rw [IntKind.wrap_i64]; omega
  have z1 : ¬9223372036854775807 < 3 + (Lib.itoa a).length := by omega
  have z2 : ¬9223372036854775807 < 3 + (Lib.itoa a).length + 8 := by omega
  have z3 : ¬9223372036854775807 < 3 + (Lib.itoa a).length + 8 + (Lib.itoa t).length := by omega
  have z4 : ¬9223372036854775807 < 3 + (Lib.itoa a).length + 8 + (Lib.itoa t).length + 8 := by omega
  have z5 : ¬9223372036854775807 < 3 + (Lib.itoa a).length + 8 + (Lib.itoa t).length + 8 + (Lib.itoa s).length := by omega
  have z6 : ¬9223372036854775807 < 3 + (Lib.itoa a).length + 8 + (Lib.itoa t).length + 8 + (Lib.itoa s).length + 1 := by omega
  have z7 : ¬9223372036854775807 < 3 + (Lib.itoa a).length + 8 + (Lib.itoa t).length + 8 + (Lib.itoa s).length + 1 + (Lib.itoa g).length := by omega
  have q1 : ¬ k < 1 := by omega
  have q2 : ¬ 3 < k := by omega
  go_enter Tryz.func7, Tryz.ntmps7
  go_wp2
  have d1 := hks.c1
  have d2 := hks.c2
  have d3 := hks.c3
  have d4 := hks.c4
  generalize w.alloc (.cells #[.int .i64 k, .int .i64 a, .int .i64 t, .int .i64 s, .int .i64 g, .int .i64 o, .int .u32 u, .int .i64 e] 29) = w1 at *
  have hkd := hks.drew
  go_region_held3 (fun w' => w'.cell? ⟨w.heap.size, 1, none⟩ = some (.int .i64 a) ∧ w'.cell? ⟨w.heap.size, 2, none⟩ = some (.int .i64 t) ∧ w'.cell? ⟨w.heap.size, 3, none⟩ = some (.int .i64 s) ∧ w'.cell? ⟨w.heap.size, 4, none⟩ = some (.int .i64 g) ∧
      KS w w.heap.size (.int .i64 k) (.int .i64 a) (.int .i64 t) (.int .i64 s) (.int .i64 g) (.int .i64 o) (.int .u32 u) w') (first | exact KS.s1 (by assumption) | exact KS.s1 (KS.alloc (by assumption) _))
    (first
      | (go_at_call 22; refine (refDigits_walk _ (by assumption) (by assumption) _).mono ?_; rintro e w' ⟨rfl, rfl⟩))
  clear z1 z2 z3 z4 z5 z6 z7
  rw [refFront_bytes]
  have lf : (refFront a t s g).length ≤ 200 := by simp [refFront]; omega
  have y0 : ¬9223372036854775807 < (refFront a t s g).length + 6 := by omega
  have y1 : ¬9223372036854775807 < (refFront a t s g).length + 1 := by omega
  have y2 : ¬9223372036854775807 < (refFront a t s g).length + 1 + (nm o).length := by omega
  have y3 : ¬9223372036854775807 < (refFront a t s g).length + 1 + (nm o).length + 7 := by omega
  have y4 : ¬9223372036854775807 < (refFront a t s g).length + 1 + (nm o).length + 7 + (Lib.itoa (u : Int)).length := by omega
  have d0 := hkd.c0
  have d5 := hkd.c5
  have d6 := hkd.c6
  clear d1 d2 d3 d4 hks
  generalize w1.drew = w2 at *
  have hkd2 := hkd.drew
  have hkc : k = 1 ∨ k = 2 ∨ k = 3 := by omega
  rcases hkc with hk | hk | hk
  · subst hk
    go_wp2
    rw [last_bytes]
    go_ret
    exact ⟨rfl, hkd.below⟩
  · subst hk
    go_wp2
    go_region_held3 (fun w' => w'.cell? ⟨w.heap.size, 5, none⟩ = some (.int .i64 o) ∧ w'.cell? ⟨w.heap.size, 6, none⟩ = some (.int .u32 u) ∧
        KS w w.heap.size (.int .i64 2) (.int .i64 a) (.int .i64 t) (.int .i64 s) (.int .i64 g) (.int .i64 o) (.int .u32 u) w') (first | exact KS.s2 (by assumption) | exact KS.s2 (KS.alloc (by assumption) _))
      (first
        | (go_at_call 9; refine (refName_walk o _).mono ?_; rintro e w'' ⟨rfl, hb⟩; have hk := KS.next (by assumption) hb; have e1 := hk.c5; have e2 := hk.c6)
        | (go_at_call 22; refine (refDigits_walk _ (by omega) (by omega) _).mono ?_; rintro e w'' ⟨rfl, rfl⟩))
    rw [refWhere_bytes]
    have lw : (refWhere o u (refFront a t s g)).length ≤ 300 := by simp [refWhere]; omega
    have y5 : ¬9223372036854775807 < (refWhere o u (refFront a t s g)).length + 7 := by omega
    go_wp2
    rw [last_bytes]
    go_ret
    exact ⟨rfl, KS.below (by assumption)⟩
  · subst hk
    go_wp2
    go_region_held3 (fun w' => w'.cell? ⟨w.heap.size, 5, none⟩ = some (.int .i64 o) ∧ w'.cell? ⟨w.heap.size, 6, none⟩ = some (.int .u32 u) ∧
        KS w w.heap.size (.int .i64 3) (.int .i64 a) (.int .i64 t) (.int .i64 s) (.int .i64 g) (.int .i64 o) (.int .u32 u) w') (first | exact KS.s2 (by assumption) | exact KS.s2 (KS.alloc (by assumption) _))
      (first
        | (go_at_call 9; refine (refName_walk o _).mono ?_; rintro e w'' ⟨rfl, hb⟩; have hk := KS.next (by assumption) hb; have e1 := hk.c5; have e2 := hk.c6)
        | (go_at_call 22; refine (refDigits_walk _ (by omega) (by omega) _).mono ?_; rintro e w'' ⟨rfl, rfl⟩))
    rw [refWhere_bytes]
    have lw : (refWhere o u (refFront a t s g)).length ≤ 300 := by simp [refWhere]; omega
    have y5 : ¬9223372036854775807 < (refWhere o u (refFront a t s g)).length + 6 := by omega
    go_wp2
    rw [last_bytes]
    go_ret
    exact ⟨rfl, KS.below (by assumption)⟩
end Go.Proofs
