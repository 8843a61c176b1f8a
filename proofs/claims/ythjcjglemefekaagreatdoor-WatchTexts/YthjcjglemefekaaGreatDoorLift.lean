/- WatchTexts: the row. -/
import Derived.Test.YthjcjglemefekaaGreatDoorTop
import Derived.Test.YthjcjglemefekaaGreatDoorCards
import Derived.ProofKit
import Derived.OpenShut
import Derived.LaidMore
import Derived.Lay
import Derived.SevenTiedAt
import Derived.Stop.Joined
import Derived.Stop.LaidErr
namespace Go.Proofs.YthjcjglemefekaaGreatDoor
open Go Go.ChangeShapes Go.WideShapes Go.ChangeAt Go.RowKit

theorem own : ownKnob Tryz.prog.godebug = none := by kernel_rfl

theorem wf_i64 {n : Int} (h : (Lit.int .i64 n).wf = true) : -9223372036854775808 ≤ n ∧ n ≤ 9223372036854775807 := by
  simp [Lit.wf] at h
  exact h
theorem wf_u32 {n : Int} (h : (Lit.int .u32 n).wf = true) : 0 ≤ n ∧ n < 4294967296 := by
  simp [Lit.wf] at h
  have h0 : IntKind.u32.min = 0 := rfl
  have h1 : IntKind.u32.max = 4294967295 := rfl
  omega
section
variable {H : Type} {enc : TypeId × Value → H} {W : World} {base : Nat} {sp : Nat → Bool} {held : Bool}
theorem open_field {fuel : Nat} {xs : List (DataW H × List MemPlace)} {i : Nat} {t : TypeId} {k : IntKind} {cs : List Value} (ht : Tryz.prog.underlying t = some (.int k)) (hi : i < xs.length) (h : DataW.trod enc Tryz.prog W base sp held fuel t cs = xs[i]?) :
    ∃ n, cs = [.int k n] ∧ (Lit.int k n).wf = true := by
  rw [List.getElem?_eq_getElem hi] at h
  obtain ⟨n, h1, _, h2⟩ := DataW.trod_int ht h
  exact ⟨n, h1, h2⟩
set_option maxRecDepth 100000 in
theorem open_wrong {fuel : Nat} {cs : List Value} {x : DataW H × List MemPlace} (h : DataW.trod enc Tryz.prog W base sp held fuel 29 cs = some x) :
    ∃ k a t s g o u e, cs = [.int .i64 k, .int .i64 a, .int .i64 t, .int .i64 s, .int .i64 g, .int .i64 o, .int .u32 u, .int .i64 e] ∧ (Lit.int .i64 a).wf = true ∧ (Lit.int .i64 t).wf = true ∧ (Lit.int .i64 s).wf = true ∧ (Lit.int .i64 g).wf = true ∧ (Lit.int .u32 u).wf = true := by
  obtain ⟨xs, n, rfl, hx, hl, hxl, hf⟩ := DataW.trod_struct Tryz.underlying29 h
  have c29 : Tryz.prog.cellsOf 29 = 8 := by kernel_rfl
  have c24 : Tryz.prog.cellsOf 24 = 2 := by kernel_rfl
  have c22 : Tryz.prog.cellsOf 22 = 1 := by kernel_rfl
  have c3 : Tryz.prog.cellsOf 3 = 1 := by kernel_rfl
  have c25 : Tryz.prog.cellsOf 25 = 1 := by kernel_rfl
  have c26 : Tryz.prog.cellsOf 26 = 1 := by kernel_rfl
  have c27 : Tryz.prog.cellsOf 27 = 1 := by kernel_rfl
  rw [c29] at hl
  have hxl : xs.length = 7 := hxl
  match cs, hl with
  | [c0, c1, c2, c3', c4, c5, c6, c7], _ =>
    have f0 : DataW.trod enc Tryz.prog W base sp held n 22 (([c0, c1, c2, c3', c4, c5, c6, c7].drop 0).take (Tryz.prog.cellsOf 22)) = xs[0]? := hf 0 _ rfl
    have f1 : DataW.trod enc Tryz.prog W base sp held n 3 (([c0, c1, c2, c3', c4, c5, c6, c7].drop 1).take (Tryz.prog.cellsOf 3)) = xs[1]? := hf 1 _ rfl
    have f2 : DataW.trod enc Tryz.prog W base sp held n 3 (([c0, c1, c2, c3', c4, c5, c6, c7].drop 2).take (Tryz.prog.cellsOf 3)) = xs[2]? := hf 2 _ rfl
    have f3 : DataW.trod enc Tryz.prog W base sp held n 24 (([c0, c1, c2, c3', c4, c5, c6, c7].drop 3).take (Tryz.prog.cellsOf 24)) = xs[3]? := hf 3 _ rfl
    have f4 : DataW.trod enc Tryz.prog W base sp held n 25 (([c0, c1, c2, c3', c4, c5, c6, c7].drop 5).take (Tryz.prog.cellsOf 25)) = xs[4]? := hf 4 _ rfl
    have f5 : DataW.trod enc Tryz.prog W base sp held n 26 (([c0, c1, c2, c3', c4, c5, c6, c7].drop 6).take (Tryz.prog.cellsOf 26)) = xs[5]? := hf 5 _ rfl
    have f6 : DataW.trod enc Tryz.prog W base sp held n 27 (([c0, c1, c2, c3', c4, c5, c6, c7].drop 7).take (Tryz.prog.cellsOf 27)) = xs[6]? := hf 6 _ rfl
    simp only [c22, List.drop, List.take] at f0
    simp only [c3, List.drop, List.take] at f1
    simp only [c3, List.drop, List.take] at f2
    simp only [c24, List.drop, List.take] at f3
    simp only [c25, List.drop, List.take] at f4
    simp only [c26, List.drop, List.take] at f5
    simp only [c27, List.drop, List.take] at f6
    obtain ⟨k, e0, _⟩ := open_field Tryz.underlying22 (by omega) f0
    obtain ⟨a, e1, w1⟩ := open_field Tryz.underlying3 (by omega) f1
    obtain ⟨t, e2, w2⟩ := open_field Tryz.underlying3 (by omega) f2
    obtain ⟨o, e5, _⟩ := open_field Tryz.underlying25 (by omega) f4
    obtain ⟨u, e6, w6⟩ := open_field Tryz.underlying26 (by omega) f5
    obtain ⟨e, e7, _⟩ := open_field Tryz.underlying27 (by omega) f6
    rw [List.getElem?_eq_getElem (by omega)] at f3
    obtain ⟨ys, m, _, hy, hyl, hyn, hg⟩ := DataW.trod_struct Tryz.underlying24 f3
    have hyn : ys.length = 2 := hyn
    have g0 : DataW.trod enc Tryz.prog W base sp held m 3 (([c3', c4].drop 0).take (Tryz.prog.cellsOf 3)) = ys[0]? := hg 0 _ rfl
    have g1 : DataW.trod enc Tryz.prog W base sp held m 3 (([c3', c4].drop 1).take (Tryz.prog.cellsOf 3)) = ys[1]? := hg 1 _ rfl
    simp only [c3, List.drop, List.take] at g0 g1
    obtain ⟨s, e3, w3⟩ := open_field Tryz.underlying3 (by omega) g0
    obtain ⟨g, e4, w4⟩ := open_field Tryz.underlying3 (by omega) g1
    cases e0; cases e1; cases e2; cases e3; cases e4; cases e5; cases e6; cases e7
    exact ⟨k, a, t, s, g, o, u, e, rfl, w1, w2, w3, w4, w6⟩
end

section
variable {H : Type} {enc : TypeId × Value → H} {W W' : World} {base base' : Nat} {sp sp' : Nat → Bool} {held held' : Bool}
theorem mapM_same {α β : Type} {f g : α → Option β} : ∀ (l : List α) (ys : List β), (∀ a ∈ l, ∀ y, f a = some y → g a = some y) → l.mapM f = some ys → l.mapM g = some ys
  | [], ys, _, h => h
  | a :: l, ys, hfg, h => by
    simp only [List.mapM_cons, Option.bind_eq_bind, Option.bind_eq_some_iff, Option.pure_def] at h ⊢
    obtain ⟨b, hb, r, hr, e⟩ := h
    exact ⟨b, hfg a (by simp) b hb, r, mapM_same l r (fun c hc => hfg c (by simp [hc])) hr, e⟩
theorem trod_int_any {t : TypeId} {k : IntKind} (ht : Tryz.prog.underlying t = some (.int k)) {fuel : Nat} {cs : List Value} {x : DataW H × List MemPlace} (h : DataW.trod enc Tryz.prog W base sp held fuel t cs = some x) :
    DataW.trod enc Tryz.prog W' base' sp' held' fuel t cs = some x := by
  obtain ⟨n, rfl, rfl, hw⟩ := DataW.trod_int ht h
  cases fuel with
  | zero => simp [DataW.trod] at h
  | succ m => simp [DataW.trod, ht, hw]
theorem trod_24_any {fuel : Nat} {cs : List Value} {x : DataW H × List MemPlace} (h : DataW.trod enc Tryz.prog W base sp held fuel 24 cs = some x) : DataW.trod enc Tryz.prog W' base' sp' held' fuel 24 cs = some x := by
  cases fuel with
  | zero => simp [DataW.trod] at h
  | succ n =>
    simp only [DataW.trod, Tryz.underlying24] at h ⊢
    split at h
    · rename_i hl
      rw [if_pos hl]
      obtain ⟨ys, hy, hx⟩ := Option.map_eq_some_iff.1 h
      refine Option.map_eq_some_iff.2 ⟨ys, mapM_same _ _ ?_ hy, hx⟩
      intro f hf y
      simp only [List.mem_cons, List.mem_nil_iff, or_false] at hf
      rcases hf with rfl | rfl
      · exact trod_int_any Tryz.underlying3
      · exact trod_int_any Tryz.underlying3
    · cases h
theorem trod_29_any {fuel : Nat} {cs : List Value} {x : DataW H × List MemPlace} (h : DataW.trod enc Tryz.prog W base sp held fuel 29 cs = some x) : DataW.trod enc Tryz.prog W' base' sp' held' fuel 29 cs = some x := by
  cases fuel with
  | zero => simp [DataW.trod] at h
  | succ n =>
    simp only [DataW.trod, Tryz.underlying29] at h ⊢
    split at h
    · rename_i hl
      rw [if_pos hl]
      obtain ⟨ys, hy, hx⟩ := Option.map_eq_some_iff.1 h
      refine Option.map_eq_some_iff.2 ⟨ys, mapM_same _ _ ?_ hy, hx⟩
      intro f hf y
      simp only [List.mem_cons, List.mem_nil_iff, or_false] at hf
      rcases hf with rfl | rfl | rfl | rfl | rfl | rfl | rfl
      · exact trod_int_any Tryz.underlying22
      · exact trod_int_any Tryz.underlying3
      · exact trod_int_any Tryz.underlying3
      · exact trod_24_any
      · exact trod_int_any Tryz.underlying25
      · exact trod_int_any Tryz.underlying26
      · exact trod_int_any Tryz.underlying27
    · cases h
/-- A wrong has no places in memory. -/
theorem places_29 {fuel : Nat} {cs : List Value} {x : DataW H × List MemPlace} (h : DataW.trod enc Tryz.prog W base sp held fuel 29 cs = some x) : x.2 = [] := by
  obtain ⟨xs, n, rfl, rfl, hl, hxl, hf⟩ := DataW.trod_struct Tryz.underlying29 h
  have hxl : xs.length = 7 := hxl
  have int : ∀ {m : Nat} {t : TypeId} {k : IntKind} {cs : List Value} {y : DataW H × List MemPlace}, Tryz.prog.underlying t = some (.int k) → DataW.trod enc Tryz.prog W base sp held m t cs = some y → y.2 = [] := by
    intro m t k cs y ht hy
    obtain ⟨_, _, rfl, _⟩ := DataW.trod_int ht hy
    rfl
  have h24 : ∀ {m : Nat} {cs : List Value} {y : DataW H × List MemPlace}, DataW.trod enc Tryz.prog W base sp held m 24 cs = some y → y.2 = [] := by
    intro m cs y hy
    obtain ⟨ys, m, rfl, rfl, hl, hyl, hf⟩ := DataW.trod_struct Tryz.underlying24 hy
    have hyl : ys.length = 2 := hyl
    match ys, hyl, hf with
    | [y0, y1], _, hf =>
      have k0 : y0.2 = [] := int Tryz.underlying3 (hf 0 _ rfl)
      have k1 : y1.2 = [] := int Tryz.underlying3 (hf 1 _ rfl)
      simp only [List.flatMap_cons, List.flatMap_nil, k0, k1, List.append_nil]
  match xs, hxl, hf with
  | [x0, x1, x2, x3, x4, x5, x6], _, hf =>
    have k0 : x0.2 = [] := int Tryz.underlying22 (hf 0 _ rfl)
    have k1 : x1.2 = [] := int Tryz.underlying3 (hf 1 _ rfl)
    have k2 : x2.2 = [] := int Tryz.underlying3 (hf 2 _ rfl)
    have k3 : x3.2 = [] := h24 (hf 3 _ rfl)
    have k4 : x4.2 = [] := int Tryz.underlying25 (hf 4 _ rfl)
    have k5 : x5.2 = [] := int Tryz.underlying26 (hf 5 _ rfl)
    have k6 : x6.2 = [] := int Tryz.underlying27 (hf 6 _ rfl)
    simp only [List.flatMap_cons, List.flatMap_nil, k0, k1, k2, k3, k4, k5, k6, List.append_nil]
end

set_option maxRecDepth 100000 in
theorem lifted (os : Os) (started : os.Started) (H : Type) (enc : TypeId × Value → H) :
    ReturnsInHanded {} Tryz.checked os 3 .any (fun w args => (Rows.watchTextsSpec.pre enc Tryz.prog Tryz.f3 Rows.watchTextsRow.domain false w args ∧ laidMetH Tryz.prog Rows.watchTextsRow.laid w) ∧ sizedMet enc Tryz.prog Tryz.f3 (OpenSpec.ofChange Rows.watchTextsSpec) false w args)
      (Rows.watchTextsSpec.post enc Tryz.prog Tryz.f3 false true false false) := by
  refine returnsInHanded_of_change_and (C := Tryz.checked) (X := fun w _ => laidMetH Tryz.prog Rows.watchTextsRow.laid w) (fun _ _ _ hh h => h.of_heap hh) own started (by kernel_rfl) Tryz.func3
    (ChangeSpec.witness_shaped (enc := enc) (C := Tryz.checked) (os := os) (X := fun w _ => laidMetH Tryz.prog Rows.watchTextsRow.laid w) false (World.laidAll Tryz.prog os Rows.watchTextsRow.laid)
      #[.agg #[.int .i64 0, .int .i64 0, .int .i64 0, .int .i64 0, .int .i64 0, .int .i64 0, .int .u32 0, .int .i64 0], .int .i64 0] 8 (World.laidAll_os _ _ _)
      (World.shaped_of_ZipB (by kernel_rfl) (by kernel_rfl)) (by kernel_rfl) (by kernel_rfl) (by kernel_rfl)
      (by rw [MakeChecks.laidMetH_plain _ _ _ (by kernel_rfl)]; exact laidMet_laidAll _ (by kernel_rfl) (by kernel_rfl))) ?_
  intro W base args ds gs before hval0 hW hc _ hL _
  have hval : ∀ (j : Nat) t v, Tryz.f3.params[j]? = some t → args[j]? = some v → Value.okWide Tryz.prog W .any base t v := hval0
  have hW' := hW
  obtain ⟨p, q, hA0, hV, rfl, _, _⟩ := hW
  have hA : DataW.TrodAll enc Tryz.prog W 0 (fun _ => true) true Tryz.f3.params.toList args.toList ds p := hA0
  rw [Tryz.params3] at hA hval
  obtain ⟨v0, v1, d0, d1, p0, p1, rfl, rfl, rfl, h0, h1⟩ := trodAll_two hA
  obtain ⟨rfl, rfl⟩ := trodVars_none hV
  obtain ⟨x, rfl, rfl, rfl, wx⟩ := open_int Tryz.underlying3 (hval 1 3 v1 rfl rfl) h1
  obtain ⟨cs, rfl, _⟩ := okWide_struct Tryz.underlying29 (hval 0 29 v0 rfl rfl)
  obtain ⟨fuel, hf⟩ := h0
  have hf : DataW.trod enc Tryz.prog W 0 (fun _ => true) true fuel 29 cs.toList = some (d0, p0) := hf
  obtain ⟨k, a, t, s, g, o, u, e, hcs, wa, wt, ws, wg, wu⟩ := open_wrong hf
  have hp0 : p0 = [] := places_29 hf
  subst hp0
  have hu := wf_u32 wu
  obtain ⟨un, rfl⟩ : ∃ n : Nat, u = n := ⟨u.toNat, by omega⟩
  have hcs' : cs = #[.int .i64 k, .int .i64 a, .int .i64 t, .int .i64 s, .int .i64 g, .int .i64 o, .int .u32 un, .int .i64 e] := by
    apply Array.ext'; rw [hcs]
  subst hcs'
  have htab : Tab W := by
    have hl := hL
    rw [MakeChecks.laidMetH_plain _ _ _ (by kernel_rfl)] at hl
    exact Lib.tabIs_of_head (g := 0) (t := 152) (e := 59) (n := 20) (by kernel_rfl) (by kernel_rfl) (by kernel_rfl) Tryz.underlying59 (by kernel_rfl) (by kernel_rfl) hl.tail.tail
  clear hA0 hval0
  simp only [List.append_nil] at hW'
  refine (watchTexts_walk k a t s g o e x un (wf_i64 wa).1 (wf_i64 wa).2 (wf_i64 wt).1 (wf_i64 wt).2 (wf_i64 ws).1 (wf_i64 ws).2 (wf_i64 wg).1 (wf_i64 wg).2 (by omega) W htab).mono ?_
  rintro e' W' ⟨he, bel⟩
  subst he
  refine ⟨_, rfl, _, _, _, [], [], [], hW', ?_, ?_, ?_, bel.frame _, fun h => by cases h⟩
  · exact trodAll_mk1 (shut_bool Tryz.underlying4 _)
  · have ht : DataW.Trod enc Tryz.prog W' 0 (fun b => decide (b < W.heap.size)) true 29 (.agg #[.int .i64 k, .int .i64 a, .int .i64 t, .int .i64 s, .int .i64 g, .int .i64 o, .int .u32 un, .int .i64 e]) d0 [] := ⟨fuel, trod_29_any hf⟩
    exact trodAll_mk2 ht (shut_int Tryz.underlying3 wx)
  · rfl
end Go.Proofs.YthjcjglemefekaaGreatDoor
