/- The program's tables, as the machine reads them. -/
import Derived.Test.YthjcjglemefekaaGreatDoorM09
import Derived.KernelRfl
import Derived.Laws.StructEq
import Derived.WalkKit
import Derived.Test.YthjcjglemefekaaGreatDoorProg
namespace Go.Am
/-- Two rows of numbers. -/
theorem two_ints {ι : Ren} {x y : AV} {xs ys : List AV} {xs' ys' : List Value} {r : Bool} (h1 : VRels ι (x :: xs) xs') (h2 : VRels ι (y :: ys) ys') (h : samePlain (x :: xs) (y :: ys) = some r) :
    ∃ k a b us vs r', xs' = .int k a :: us ∧ ys' = .int k b :: vs ∧ VRels ι xs us ∧ VRels ι ys vs ∧ samePlain xs ys = some r' ∧ r = ((a == b) && r') := by
  obtain ⟨u, us, rfl, hu, hus⟩ := h1
  obtain ⟨v, vs, rfl, hv, hvs⟩ := h2
  cases x <;> cases y <;> first | (simp [samePlain] at h; done) | skip
  rename_i k a k' b
  simp only [samePlain] at h
  split at h
  · rename_i hk
    subst hk
    split at h
    · rename_i r' hr'
      cases h
      simp only [VRel] at hu hv; subst hu; subst hv
      exact ⟨k, a, b, us, vs, r', rfl, rfl, hus, hvs, hr', by rw [ieq_eq]⟩
    · cases h
  · cases h
end Go.Am
namespace Go.Proofs
open Go Go.Am
theorem flat24 (xs ys : List AV) (r : Bool) (xs' ys' : List Value) (ι : Ren) (w : World) (x y : Operand) (hx : VRels ι xs xs') (hy : VRels ι ys ys') (h : samePlain xs ys = some r) (lx : xs.length = 2) (ly : ys.length = 2) :
    (Op.equal 24 (.agg ⟨xs'⟩) (.agg ⟨ys'⟩)).run Tryz.prog w = .ok r w ∧ ∀ op, (eqGuard op 24 x y (.agg ⟨xs'⟩) (.agg ⟨ys'⟩)).run Tryz.prog w = .ok () w := by
  refine ⟨?_, fun op => run_eqGuard_agg w op 24 x y _ _ Tryz.eqGuardType24⟩
  match xs, ys, lx, ly with
  | [a0, a1], [b0, b1], _, _ =>
    obtain ⟨k0, m0, n0, u0, v0, r0, e0, f0, hx0, hy0, h0, g0⟩ := two_ints hx hy h
    obtain ⟨k1, m1, n1, u1, v1, r1, e1, f1, hx1, hy1, h1, g1⟩ := two_ints hx0 hy0 h0
    simp only [VRels] at hx1 hy1; subst hx1; subst hy1
    simp only [samePlain, Option.some.injEq] at h1; subst h1; subst g1; subst g0; subst e1; subst f1; subst e0; subst f0
    show (Op.equalIn (9999 + 1) 24 _ _).run Tryz.prog w = _
    rw [run_equalIn_agg w 9999 24 _ _ (by unfold Program.fieldsOf; rw [Tryz.underlying24]) Tryz.stoodInHeld24]
    have fs24 : (Tryz.prog.fieldsOf 24).toList = [{ name := "Slot", type := 3, offset := 0, embedded := false, tag := "", pkgPath := "", byteOffset := 0 }, { name := "Gen", type := 3, offset := 1, embedded := false, tag := "", pkgPath := "", byteOffset := 8 }] := by unfold Program.fieldsOf; rw [Tryz.underlying24]
    rw [fs24]
    simp [Op.eqFields, go_sem]
    by_cases c0 : m0 = n0
    case neg => simp [c0]
    by_cases c1 : m1 = n1
    case neg => simp [c0, c1]
    simp [c0, c1]
theorem flat29 (xs ys : List AV) (r : Bool) (xs' ys' : List Value) (ι : Ren) (w : World) (x y : Operand) (hx : VRels ι xs xs') (hy : VRels ι ys ys') (h : samePlain xs ys = some r) (lx : xs.length = 8) (ly : ys.length = 8) :
    (Op.equal 29 (.agg ⟨xs'⟩) (.agg ⟨ys'⟩)).run Tryz.prog w = .ok r w ∧ ∀ op, (eqGuard op 29 x y (.agg ⟨xs'⟩) (.agg ⟨ys'⟩)).run Tryz.prog w = .ok () w := by
  refine ⟨?_, fun op => run_eqGuard_agg w op 29 x y _ _ Tryz.eqGuardType29⟩
  match xs, ys, lx, ly with
  | [a0, a1, a2, a3, a4, a5, a6, a7], [b0, b1, b2, b3, b4, b5, b6, b7], _, _ =>
    obtain ⟨k0, m0, n0, u0, v0, r0, e0, f0, hx0, hy0, h0, g0⟩ := two_ints hx hy h
    obtain ⟨k1, m1, n1, u1, v1, r1, e1, f1, hx1, hy1, h1, g1⟩ := two_ints hx0 hy0 h0
    obtain ⟨k2, m2, n2, u2, v2, r2, e2, f2, hx2, hy2, h2, g2⟩ := two_ints hx1 hy1 h1
    obtain ⟨k3, m3, n3, u3, v3, r3, e3, f3, hx3, hy3, h3, g3⟩ := two_ints hx2 hy2 h2
    obtain ⟨k4, m4, n4, u4, v4, r4, e4, f4, hx4, hy4, h4, g4⟩ := two_ints hx3 hy3 h3
    obtain ⟨k5, m5, n5, u5, v5, r5, e5, f5, hx5, hy5, h5, g5⟩ := two_ints hx4 hy4 h4
    obtain ⟨k6, m6, n6, u6, v6, r6, e6, f6, hx6, hy6, h6, g6⟩ := two_ints hx5 hy5 h5
    obtain ⟨k7, m7, n7, u7, v7, r7, e7, f7, hx7, hy7, h7, g7⟩ := two_ints hx6 hy6 h6
    simp only [VRels] at hx7 hy7; subst hx7; subst hy7
    simp only [samePlain, Option.some.injEq] at h7; subst h7; subst g7; subst g6; subst g5; subst g4; subst g3; subst g2; subst g1; subst g0; subst e7; subst f7; subst e6; subst f6; subst e5; subst f5; subst e4; subst f4; subst e3; subst f3; subst e2; subst f2; subst e1; subst f1; subst e0; subst f0
    show (Op.equalIn (9999 + 1) 29 _ _).run Tryz.prog w = _
    rw [run_equalIn_agg w 9999 29 _ _ (by unfold Program.fieldsOf; rw [Tryz.underlying29]) Tryz.stoodInHeld29]
    have fs29 : (Tryz.prog.fieldsOf 29).toList = [{ name := "Kind", type := 22, offset := 0, embedded := false, tag := "", pkgPath := "", byteOffset := 0 }, { name := "At", type := 3, offset := 1, embedded := false, tag := "", pkgPath := "", byteOffset := 8 }, { name := "Thread", type := 3, offset := 2, embedded := false, tag := "", pkgPath := "", byteOffset := 16 }, { name := "Handle", type := 24, offset := 3, embedded := false, tag := "", pkgPath := "", byteOffset := 24 }, { name := "Op", type := 25, offset := 5, embedded := false, tag := "", pkgPath := "", byteOffset := 40 }, { name := "Where", type := 26, offset := 6, embedded := false, tag := "", pkgPath := "", byteOffset := 48 }, { name := "Errno", type := 27, offset := 7, embedded := false, tag := "", pkgPath := "", byteOffset := 56 }] := by unfold Program.fieldsOf; rw [Tryz.underlying29]
    rw [fs29]
    simp [Op.eqFields, go_sem]
    by_cases c0 : m0 = n0
    case neg => simp [c0]
    by_cases c1 : m1 = n1
    case neg => simp [c0, c1]
    by_cases c2 : m2 = n2
    case neg => simp [c0, c1, c2]
    by_cases c3 : m3 = n3
    case neg => simp [c0, c1, c2, c3]
    by_cases c4 : m4 = n4
    case neg => simp [c0, c1, c2, c3, c4]
    by_cases c5 : m5 = n5
    case neg => simp [c0, c1, c2, c3, c4, c5]
    by_cases c6 : m6 = n6
    case neg => simp [c0, c1, c2, c3, c4, c5, c6]
    by_cases c7 : m7 = n7
    case neg => simp [c0, c1, c2, c3, c4, c5, c6, c7]
    simp [c0, c1, c2, c3, c4, c5, c6, c7]

noncomputable def ft : List Func := Tryz.funcs.toList
noncomputable def tt : List TypeInfo := Tryz.types.toList
def fl (t : Nat) : Bool := Nat.beq t 24 || Nat.beq t 29
noncomputable def EE : Env := envOf tt ft 0 fl

theorem size24 : ∃ i, EE.T 24 = some i ∧ i.size = 2 := ⟨(EE.T 24).getD ⟨0, 0, none, .bool⟩, by kernel_rfl, by kernel_rfl⟩
theorem size29 : ∃ i, EE.T 29 = some i ∧ i.size = 8 := ⟨(EE.T 29).getD ⟨0, 0, none, .bool⟩, by kernel_rfl, by kernel_rfl⟩
theorem EE_ok : EE.OK Tryz.prog := by
  refine envOf_ok (fun t i h => info_of (P := Tryz.prog) h) (fun f fn h => func_of (P := Tryz.prog) h) (by kernel_rfl) ?_
  intro t ht xs ys r xs' ys' ι w x y hx hy h i hi lx ly
  have hi : EE.T t = some i := hi
  simp only [fl, Bool.or_eq_true, Nat.beq_eq] at ht
  rcases ht with rfl | rfl
  · obtain ⟨j, hj, hs⟩ := size24
    rw [hj] at hi; cases hi
    exact flat24 xs ys r xs' ys' ι w x y hx hy h (lx.trans hs) (ly.trans hs)
  · obtain ⟨j, hj, hs⟩ := size29
    rw [hj] at hi; cases hi
    exact flat29 xs ys r xs' ys' ι w x y hx hy h (lx.trans hs) (ly.trans hs)

theorem shape360 : SomeShape EE 360 320 :=
  ⟨0, 1, 2, 3, 4, 5, 6, opAt EE 360 0 0, opAt EE 360 1 0, opAt EE 360 1 1, opAt EE 360 2 0, opAt EE 360 2 1, opAt EE 360 3 0, opAt EE 360 3 1, opAt EE 360 3 2, opAt EE 360 3 3,
    opAt EE 360 4 0, opAt EE 360 4 1, opAt EE 360 4 2, opAt EE 360 5 0, opAt EE 360 6 0, callAt EE 360 4 2, 182, 3, 320, ⟨1, 8, some (.map none), .map 3 320⟩, 16,
    ⟨⟨by kernel_rfl, by kernel_rfl, by kernel_rfl⟩, ⟨by kernel_rfl, by kernel_rfl, by kernel_rfl⟩, ⟨by kernel_rfl, by kernel_rfl, by kernel_rfl⟩⟩,
    ⟨⟨by kernel_rfl, by kernel_rfl, by kernel_rfl⟩, ⟨by kernel_rfl, by kernel_rfl, by kernel_rfl⟩, ⟨by kernel_rfl, by kernel_rfl, by kernel_rfl⟩, ⟨by kernel_rfl, by kernel_rfl, by kernel_rfl⟩, ⟨by kernel_rfl, by kernel_rfl, by kernel_rfl⟩, ⟨by kernel_rfl, by kernel_rfl, by kernel_rfl⟩,
      ⟨by kernel_rfl, by kernel_rfl, by kernel_rfl⟩, ⟨by kernel_rfl, by kernel_rfl, by kernel_rfl⟩, ⟨by kernel_rfl, by kernel_rfl, by kernel_rfl⟩, by kernel_rfl, by kernel_rfl⟩,
    ⟨by kernel_rfl, by kernel_rfl, by kernel_rfl⟩, ⟨by kernel_rfl, by kernel_rfl, by kernel_rfl⟩, by kernel_rfl, rfl, by decide, by kernel_rfl⟩
theorem shape218 : CountShape EE 218 381 :=
  ⟨0, 1, 2, 3, 4, 5, 6, opAt EE 218 0 0, opAt EE 218 1 0, opAt EE 218 1 1, opAt EE 218 2 0, opAt EE 218 2 1, opAt EE 218 3 0, opAt EE 218 3 1, opAt EE 218 3 2, opAt EE 218 3 3,
    opAt EE 218 4 0, opAt EE 218 4 1, opAt EE 218 4 2, opAt EE 218 5 0, opAt EE 218 5 1, opAt EE 218 5 2, opAt EE 218 6 0, opAt EE 218 6 1, callAt EE 218 4 2, (binAt EE 218 5 1).1, (binAt EE 218 5 1).2, 176, 3, 381, ⟨1, 8, some (.map none), .map 3 381⟩, 19,
    ⟨⟨by kernel_rfl, by kernel_rfl, by kernel_rfl⟩, ⟨by kernel_rfl, by kernel_rfl, by kernel_rfl⟩, ⟨by kernel_rfl, by kernel_rfl, by kernel_rfl⟩⟩,
    ⟨⟨by kernel_rfl, by kernel_rfl, by kernel_rfl⟩, ⟨by kernel_rfl, by kernel_rfl, by kernel_rfl⟩, ⟨by kernel_rfl, by kernel_rfl, by kernel_rfl⟩, ⟨by kernel_rfl, by kernel_rfl, by kernel_rfl⟩, ⟨by kernel_rfl, by kernel_rfl, by kernel_rfl⟩, ⟨by kernel_rfl, by kernel_rfl, by kernel_rfl⟩,
      ⟨by kernel_rfl, by kernel_rfl, by kernel_rfl⟩, ⟨by kernel_rfl, by kernel_rfl, by kernel_rfl⟩, ⟨by kernel_rfl, by kernel_rfl, by kernel_rfl⟩, by kernel_rfl, by kernel_rfl⟩,
    ⟨by kernel_rfl, by kernel_rfl, by kernel_rfl⟩, ⟨by kernel_rfl, by kernel_rfl, by kernel_rfl⟩, ⟨by kernel_rfl, by kernel_rfl, by kernel_rfl⟩, ⟨by kernel_rfl, by kernel_rfl, by kernel_rfl⟩, ⟨by kernel_rfl, by kernel_rfl, by kernel_rfl⟩, by kernel_rfl, rfl, by decide, by kernel_rfl⟩
end Go.Proofs
