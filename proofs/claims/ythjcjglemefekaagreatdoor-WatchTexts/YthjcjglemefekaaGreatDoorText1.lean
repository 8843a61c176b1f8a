/- watch.Text. -/
import Derived.Test.YthjcjglemefekaaGreatDoorText
namespace Go.Proofs
open Go Go.RowKit

/-- What stays while a text is made. -/
structure KS (w0 : World) (b : Nat) (v0 v1 v2 v3 v4 v5 v6 : Value) (w : World) : Prop where
  c0 : w.cell? ⟨b, 0, none⟩ = some v0
  c1 : w.cell? ⟨b, 1, none⟩ = some v1
  c2 : w.cell? ⟨b, 2, none⟩ = some v2
  c3 : w.cell? ⟨b, 3, none⟩ = some v3
  c4 : w.cell? ⟨b, 4, none⟩ = some v4
  c5 : w.cell? ⟨b, 5, none⟩ = some v5
  c6 : w.cell? ⟨b, 6, none⟩ = some v6
  tab : Tab w
  below : Below w0.heap.size w0 w
  size : w0.heap.size ≤ w.heap.size
theorem KS.next {w0 w w' : World} {b : Nat} {v0 v1 v2 v3 v4 v5 v6 : Value} (h : KS w0 b v0 v1 v2 v3 v4 v5 v6 w) (hb : Below w.heap.size w w') : KS w0 b v0 v1 v2 v3 v4 v5 v6 w' :=
  ⟨cell_below h.c0 hb, cell_below h.c1 hb, cell_below h.c2 hb, cell_below h.c3 hb, cell_below h.c4 hb, cell_below h.c5 hb, cell_below h.c6 hb, tabIs_below h.tab hb, h.below.trans (hb.mono h.size), Nat.le_trans h.size hb.size⟩
theorem KS.start (w : World) (v0 v1 v2 v3 v4 v5 v6 v7 : Value) (T : TypeId) (htab : Tab w) : KS w w.heap.size v0 v1 v2 v3 v4 v5 v6 (w.alloc (.cells #[v0, v1, v2, v3, v4, v5, v6, v7] T)) := by
  have h : ∀ i v, (#[v0, v1, v2, v3, v4, v5, v6, v7] : Array Value)[i]? = some v → (w.alloc (.cells #[v0, v1, v2, v3, v4, v5, v6, v7] T)).cell? ⟨w.heap.size, i, none⟩ = some v := by
    intro i v hi
    rw [World.cell?_alloc_new]; exact hi
  have hb : Below w.heap.size w (w.alloc (.cells #[v0, v1, v2, v3, v4, v5, v6, v7] T)) := (Below.refl _ _).alloc (Nat.le_refl _) _
  exact ⟨h 0 _ rfl, h 1 _ rfl, h 2 _ rfl, h 3 _ rfl, h 4 _ rfl, h 5 _ rfl, h 6 _ rfl, tabIs_below htab hb, hb, hb.size⟩

theorem KS.s1 {w0 w : World} {b : Nat} {v0 v1 v2 v3 v4 v5 v6 : Value} (h : KS w0 b v0 v1 v2 v3 v4 v5 v6 w) :
    w.cell? ⟨b, 1, none⟩ = some v1 ∧ w.cell? ⟨b, 2, none⟩ = some v2 ∧ w.cell? ⟨b, 3, none⟩ = some v3 ∧ w.cell? ⟨b, 4, none⟩ = some v4 ∧ KS w0 b v0 v1 v2 v3 v4 v5 v6 w := ⟨h.c1, h.c2, h.c3, h.c4, h⟩
theorem KS.s2 {w0 w : World} {b : Nat} {v0 v1 v2 v3 v4 v5 v6 : Value} (h : KS w0 b v0 v1 v2 v3 v4 v5 v6 w) :
    w.cell? ⟨b, 5, none⟩ = some v5 ∧ w.cell? ⟨b, 6, none⟩ = some v6 ∧ KS w0 b v0 v1 v2 v3 v4 v5 v6 w := ⟨h.c5, h.c6, h⟩
theorem KS.drew {w0 w : World} {b : Nat} {v0 v1 v2 v3 v4 v5 v6 : Value} (h : KS w0 b v0 v1 v2 v3 v4 v5 v6 w) : KS w0 b v0 v1 v2 v3 v4 v5 v6 w.drew := h.next (Below.refl _ w).drew
theorem KS.alloc {w0 w : World} {b : Nat} {v0 v1 v2 v3 v4 v5 v6 : Value} (h : KS w0 b v0 v1 v2 v3 v4 v5 v6 w) (o : Obj) : KS w0 b v0 v1 v2 v3 v4 v5 v6 (w.alloc o) := h.next ((Below.refl _ w).alloc (Nat.le_refl _) o)

/-- A row of strings that is laid just now, and joined. -/
theorem joined_new (xs : List ByteArray) (w : World) (hN : xs.length ≤ 100) (hlen : (Lib.join (xs.map (·.data.toList)) [32]).length ≤ 100000) :
    Calls Tryz.prog 19 #[.slice (some ⟨w.heap.size, 0, none⟩) xs.length xs.length] (w.alloc (.cells (xs.map Value.string).toArray 9)) fun e w' =>
      e = .returned (.string ⟨(Lib.join (xs.map (·.data.toList)) [32]).toArray⟩) ∧ Below w.heap.size w w' := by
  have hb : Below w.heap.size w (w.alloc (.cells (xs.map Value.string).toArray 9)) := (Below.refl _ _).alloc (Nat.le_refl _) _
  refine (joined_walk w.heap.size xs.length xs (w.alloc (.cells (xs.map Value.string).toArray 9)) ?_ ?_ (Nat.le_refl _) hN hlen).mono ?_
  · intro j x hx
    rw [World.cell?_alloc_new]
    simp [hx]
  · show _ < (w.heap.push _).size
    rw [Array.size_push]; omega
  · rintro e w' ⟨rfl, h⟩
    exact ⟨rfl, hb.trans (h.mono hb.size)⟩

theorem join7_len {a b c d : List UInt8} (ha : a.length ≤ 30) (hb : b.length ≤ 30) (hc : c.length ≤ 30) (hd : d.length ≤ 30) :
    (Lib.join [[97, 116], a, [116, 104, 114, 101, 97, 100], b, [104, 97, 110, 100, 108, 101], c, d] [32]).length ≤ 1000 := by
  simp [Lib.join, List.intercalate, List.intersperse]; omega
theorem itoa_len (n : Int) (h0 : -9223372036854775808 ≤ n) (h1 : n ≤ 9223372036854775807) : (Lib.itoa n).length ≤ 30 := by
  have : (Lib.decDigits n.natAbs).length ≤ 20 := decDigits_len 19 _ (by omega)
  have h2 : (Lib.decDigits n.toNat).length ≤ 20 := decDigits_len 19 _ (by omega)
  unfold Lib.itoa
  split
  · simp; omega
  · omega

/-- What stands in front. -/
def frontT (a t s g : Int) : List UInt8 := Lib.join [[97, 116], Lib.itoa a, [116, 104, 114, 101, 97, 100], Lib.itoa t, [104, 97, 110, 100, 108, 101], Lib.itoa s, Lib.itoa g] [32]
/-- Where. -/
def whereT (o : Int) (u : Nat) : List UInt8 := Lib.join [nm o, [119, 104, 101, 114, 101], Lib.itoa u] [32]

/-- The text. -/
def textT (k a t s g o : Int) (u : Nat) : List UInt8 :=
  if k = 1 then Lib.join [frontT a t s g, [115, 116, 97, 108, 101]] [32] else if k = 2 then Lib.join [frontT a t s g, whereT o u, [109, 105, 115, 117, 115, 101]] [32]
  else if k = 3 then Lib.join [frontT a t s g, whereT o u, [102, 97, 117, 108, 116]] [32] else []

theorem frontT_len {a t s g : Int} (ha0 : -9223372036854775808 ≤ a) (ha1 : a ≤ 9223372036854775807) (ht0 : -9223372036854775808 ≤ t) (ht1 : t ≤ 9223372036854775807)
    (hs0 : -9223372036854775808 ≤ s) (hs1 : s ≤ 9223372036854775807) (hg0 : -9223372036854775808 ≤ g) (hg1 : g ≤ 9223372036854775807) : (frontT a t s g).length ≤ 1000 :=
  join7_len (itoa_len a ha0 ha1) (itoa_len t ht0 ht1) (itoa_len s hs0 hs1) (itoa_len g hg0 hg1)
theorem whereT_len (o : Int) {u : Nat} (hu : u < 4294967296) : (whereT o u).length ≤ 1000 := by
  have h1 := nm_len o
  have h2 := itoa_len (u : Int) (by omega) (by omega)
  simp [whereT, Lib.join, List.intercalate, List.intersperse]; omega

set_option maxRecDepth 100000 in
set_option maxHeartbeats 4000000 in
theorem text_walk (k a t s g o e : Int) (u : Nat) (ha0 : -9223372036854775808 ≤ a) (ha1 : a ≤ 9223372036854775807) (ht0 : -9223372036854775808 ≤ t) (ht1 : t ≤ 9223372036854775807)
    (hs0 : -9223372036854775808 ≤ s) (hs1 : s ≤ 9223372036854775807) (hg0 : -9223372036854775808 ≤ g) (hg1 : g ≤ 9223372036854775807) (hu : u < 4294967296) (w : World) (htab : Tab w) :
    Calls Tryz.prog 6 #[.agg #[.int .i64 k, .int .i64 a, .int .i64 t, .int .i64 s, .int .i64 g, .int .i64 o, .int .u32 u, .int .i64 e]] w fun e w' =>
      e = .returned (.string ⟨(textT k a t s g o u).toArray⟩) ∧ Below w.heap.size w w' := by
  have hks := KS.start w (.int .i64 k) (.int .i64 a) (.int .i64 t) (.int .i64 s) (.int .i64 g) (.int .i64 o) (.int .u32 u) (.int .i64 e) 29 htab
  have hfl := frontT_len ha0 ha1 ht0 ht1 hs0 hs1 hg0 hg1
  have hwl := whereT_len o hu
  have hj1 : (Lib.join ([⟨#[97, 116]⟩, ⟨(Lib.itoa a).toArray⟩, ⟨#[116, 104, 114, 101, 97, 100]⟩, ⟨(Lib.itoa t).toArray⟩, ⟨#[104, 97, 110, 100, 108, 101]⟩, ⟨(Lib.itoa s).toArray⟩, ⟨(Lib.itoa g).toArray⟩].map fun x : ByteArray => x.data.toList) [32]).length ≤ 100000 :=
    Nat.le_trans hfl (by decide)
  have hj2 : (Lib.join ([⟨(nm o).toArray⟩, ⟨#[119, 104, 101, 114, 101]⟩, ⟨(Lib.itoa u).toArray⟩].map fun x : ByteArray => x.data.toList) [32]).length ≤ 100000 :=
    Nat.le_trans hwl (by decide)
  have hwr : IntKind.u64.wrap (u : Int) = (u : Int) := by rw [IntKind.wrap_u64]; omega
  go_enter Tryz.func6, Tryz.ntmps6
  go_wp2
  have d1 := hks.c1
  have d2 := hks.c2
  have d3 := hks.c3
  have d4 := hks.c4
  generalize w.alloc (.cells #[.int .i64 k, .int .i64 a, .int .i64 t, .int .i64 s, .int .i64 g, .int .i64 o, .int .u32 u, .int .i64 e] 29) = w1 at *
  have hkd := hks.drew
  go_region_held3 (fun w' => w'.cell? ⟨w.heap.size, 1, none⟩ = some (.int .i64 a) ∧ w'.cell? ⟨w.heap.size, 2, none⟩ = some (.int .i64 t) ∧ w'.cell? ⟨w.heap.size, 3, none⟩ = some (.int .i64 s) ∧ w'.cell? ⟨w.heap.size, 4, none⟩ = some (.int .i64 g) ∧
      KS w w.heap.size (.int .i64 k) (.int .i64 a) (.int .i64 t) (.int .i64 s) (.int .i64 g) (.int .i64 o) (.int .u32 u) w') (first | exact KS.s1 (by assumption) | exact KS.s1 (KS.alloc (by assumption) _))
    (first
      | (go_at_call 20; refine (itoa_walk _ (by assumption) (by assumption) _ (KS.tab (by assumption))).mono ?_; rintro e w' ⟨rfl, hb⟩; have hk := KS.next (by assumption) hb; have e1 := hk.c1; have e2 := hk.c2; have e3 := hk.c3; have e4 := hk.c4)
      | (go_at_call 19; refine (joined_new [_, _, _, _, _, _, _] _ (Nat.le_of_ble_eq_true rfl) hj1).mono ?_; rintro e w' ⟨rfl, hb⟩; have hk := KS.next (by assumption) hb; have e1 := hk.c1; have e2 := hk.c2; have e3 := hk.c3; have e4 := hk.c4))
  clear hks hkd d1 d2 d3 d4
  have hk2 : KS w w.heap.size (.int .i64 k) (.int .i64 a) (.int .i64 t) (.int .i64 s) (.int .i64 g) (.int .i64 o) (.int .u32 u) w' := by assumption
  have hfr : (Lib.join [[97, 116], Lib.itoa a, [116, 104, 114, 101, 97, 100], Lib.itoa t, [104, 97, 110, 100, 108, 101], Lib.itoa s, Lib.itoa g] [32]) = frontT a t s g := rfl
  rw [hfr]
  clear hj1 hfr
  have d5 := hk2.c5
  have d6 := hk2.c6
  have hkd2 := hk2.drew
  go_wp2
  go_region_held3 (fun w' => w'.cell? ⟨w.heap.size, 5, none⟩ = some (.int .i64 o) ∧ w'.cell? ⟨w.heap.size, 6, none⟩ = some (.int .u32 u) ∧
      KS w w.heap.size (.int .i64 k) (.int .i64 a) (.int .i64 t) (.int .i64 s) (.int .i64 g) (.int .i64 o) (.int .u32 u) w') (first | exact KS.s2 (by assumption) | exact KS.s2 (KS.alloc (by assumption) _))
    (first
      | (go_at_call 8; refine (name_walk o _).mono ?_; rintro e w'' ⟨rfl, hb⟩; have hk := KS.next (by assumption) hb; have e1 := hk.c5; have e2 := hk.c6)
      | (go_at_call 21; refine (formatUint_walk u hu _ (KS.tab (by assumption))).mono ?_; rintro e w'' ⟨rfl, hb⟩; have hk := KS.next (by assumption) hb; have e1 := hk.c5; have e2 := hk.c6)
      | (go_at_call 19; refine (joined_new [_, _, _] _ (Nat.le_of_ble_eq_true rfl) hj2).mono ?_; rintro e w'' ⟨rfl, hb⟩; have hk := KS.next (by assumption) hb; have e1 := hk.c5; have e2 := hk.c6))
  have hk3 : KS w w.heap.size (.int .i64 k) (.int .i64 a) (.int .i64 t) (.int .i64 s) (.int .i64 g) (.int .i64 o) (.int .u32 u) w'' := by assumption
  have hwh : (Lib.join [nm o, [119, 104, 101, 114, 101], Lib.itoa u] [32]) = whereT o u := rfl
  rw [hwh]
  clear hj2 hwh d5 d6 hkd2
  have d0 := hk3.c0
  have fin : ∀ (xs : List ByteArray) w3, Below w''.heap.size w'' w3 → Below w.heap.size w w3 := fun _ w3 h => hk3.below.trans (h.mono hk3.size)
  by_cases k1 : k = 1
  · subst k1
    have hj : (Lib.join ([⟨(frontT a t s g).toArray⟩, ⟨#[115, 116, 97, 108, 101]⟩].map fun x : ByteArray => x.data.toList) [32]).length ≤ 100000 := by
      simp [Lib.join, List.intercalate, List.intersperse]; omega
    go_wp2_with (go_at_call 19; refine (joined_new [_, _] _ (Nat.le_of_ble_eq_true rfl) hj).mono ?_; rintro e w3 ⟨rfl, hb⟩)
    go_ret
    exact ⟨rfl, fin [] _ hb⟩
  by_cases k2 : k = 2
  · subst k2
    have hj : (Lib.join ([⟨(frontT a t s g).toArray⟩, ⟨(whereT o u).toArray⟩, ⟨#[109, 105, 115, 117, 115, 101]⟩].map fun x : ByteArray => x.data.toList) [32]).length ≤ 100000 := by
      simp [Lib.join, List.intercalate, List.intersperse]; omega
    go_wp2_with (go_at_call 19; refine (joined_new [_, _, _] _ (Nat.le_of_ble_eq_true rfl) hj).mono ?_; rintro e w3 ⟨rfl, hb⟩)
    go_ret
    exact ⟨rfl, fin [] _ hb⟩
  by_cases k3 : k = 3
  · subst k3
    have hj : (Lib.join ([⟨(frontT a t s g).toArray⟩, ⟨(whereT o u).toArray⟩, ⟨#[102, 97, 117, 108, 116]⟩].map fun x : ByteArray => x.data.toList) [32]).length ≤ 100000 := by
      simp [Lib.join, List.intercalate, List.intersperse]; omega
    go_wp2_with (go_at_call 19; refine (joined_new [_, _, _] _ (Nat.le_of_ble_eq_true rfl) hj).mono ?_; rintro e w3 ⟨rfl, hb⟩)
    go_ret
    exact ⟨rfl, fin [] _ hb⟩
  have b1 : (k == 1) = false := by simpa using k1
  have b2 : (k == 2) = false := by simpa using k2
  have b3 : (k == 3) = false := by simpa using k3
  go_wp2
  go_ret
  have he : textT k a t s g o u = [] := by unfold textT; rw [if_neg k1, if_neg k2, if_neg k3]
  rw [he]
  exact ⟨rfl, hk3.below⟩
end Go.Proofs
