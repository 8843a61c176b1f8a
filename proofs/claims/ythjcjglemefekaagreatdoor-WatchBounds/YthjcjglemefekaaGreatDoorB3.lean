/- The tables of what turns do. -/
import Derived.Test.YthjcjglemefekaaGreatDoorB1
import Derived.Test.YthjcjglemefekaaGreatDoorM10
namespace Go.Proofs
open Go Go.Am
theorem F29 : EE.F 29 = afOf Tryz.f29 := by kernel_rfl
def es29 : List AEntry := [⟨.int .i64 2, .func (.func 41) [] [], 0⟩, ⟨.int .i64 3, .func (.func 44) [] [], 1⟩, ⟨.int .i64 4, .func (.func 45) [] [], 2⟩, ⟨.int .i64 5, .func (.func 46) [] [], 3⟩]
theorem call29 (H : AHeap) : CallOK EE Tryz.prog 29 [] H fun q => ∃ H', q = .ret (.map (some H.next)) H' ∧ Kept H H' ∧ H'.next = H.next + 1 ∧ H'.get H.next = some (.map es29 4) := by
  refine call_of EE_ok (a := ⟨3, [.tmp 0], _⟩) F29 rfl ?_
  refine seq_of EE_ok ?_
  -- region 0
  refine region_of EE_ok rfl ?_
  refine o_val (d := 0) rfl rfl rfl rfl ?_
  refine seq_of EE_ok ?_
  -- region 1
  refine region_of EE_ok rfl ?_
  refine o_eff (d := 1) rfl rfl rfl rfl e_makeMap ?_
  refine o_eff0 rfl rfl rfl (e_insert (kt := 63) (et := 86) rfl rfl rfl (by kernel_rfl) (by kernel_rfl) (gp_eq rfl) rfl).1 ?_
  refine o_eff0 rfl rfl rfl (e_insert (kt := 63) (et := 86) rfl rfl rfl (by kernel_rfl) (by kernel_rfl) gu_eq rfl).1 ?_
  refine o_eff0 rfl rfl rfl (e_insert (kt := 63) (et := 86) rfl rfl rfl (by kernel_rfl) (by kernel_rfl) gu_eq rfl).1 ?_
  refine o_eff0 rfl rfl rfl (e_insert (kt := 63) (et := 86) rfl rfl rfl (by kernel_rfl) (by kernel_rfl) gu_eq rfl).1 ?_
  refine o_val (d := 2) rfl rfl rfl rfl ?_
  refine o_val (d := 0) rfl rfl rfl rfl ?_
  refine ret_run EE_ok ?_
  refine ⟨rfl, _, res_tmp rfl res_nil, _, rfl, ⟨fun b hb => ?_, ?_, ?_⟩, ?_, gu_eq⟩
  · have hne : b ≠ H.next := by omega
    exact ((gu_ne hne).trans ((gu_ne hne).trans ((gu_ne hne).trans ((gu_ne hne).trans ((gp_ne hne).trans rfl)))))
  · simp only [AHeap.next_push, AHeap.next_upd]; omega
  · simp only [AHeap.low_push, AHeap.low_upd]; omega
  · simp only [AHeap.next_push, AHeap.next_upd]
theorem F62 : EE.F 62 = afOf Tryz.f62 := by kernel_rfl
def es62 : List AEntry := [⟨.int .i64 2, .func (.func 81) [] [], 0⟩, ⟨.int .i64 3, .func (.func 82) [] [], 1⟩, ⟨.int .i64 4, .func (.func 83) [] [], 2⟩]
theorem call62 (H : AHeap) : CallOK EE Tryz.prog 62 [] H fun q => ∃ H', q = .ret (.map (some H.next)) H' ∧ Kept H H' ∧ H'.next = H.next + 1 ∧ H'.get H.next = some (.map es62 3) := by
  refine call_of EE_ok (a := ⟨3, [.tmp 0], _⟩) F62 rfl ?_
  refine seq_of EE_ok ?_
  -- region 0
  refine region_of EE_ok rfl ?_
  refine o_val (d := 0) rfl rfl rfl rfl ?_
  refine seq_of EE_ok ?_
  -- region 1
  refine region_of EE_ok rfl ?_
  refine o_eff (d := 1) rfl rfl rfl rfl e_makeMap ?_
  refine o_eff0 rfl rfl rfl (e_insert (kt := 63) (et := 147) rfl rfl rfl (by kernel_rfl) (by kernel_rfl) (gp_eq rfl) rfl).1 ?_
  refine o_eff0 rfl rfl rfl (e_insert (kt := 63) (et := 147) rfl rfl rfl (by kernel_rfl) (by kernel_rfl) gu_eq rfl).1 ?_
  refine o_eff0 rfl rfl rfl (e_insert (kt := 63) (et := 147) rfl rfl rfl (by kernel_rfl) (by kernel_rfl) gu_eq rfl).1 ?_
  refine o_val (d := 2) rfl rfl rfl rfl ?_
  refine o_val (d := 0) rfl rfl rfl rfl ?_
  refine ret_run EE_ok ?_
  refine ⟨rfl, _, res_tmp rfl res_nil, _, rfl, ⟨fun b hb => ?_, ?_, ?_⟩, ?_, gu_eq⟩
  · have hne : b ≠ H.next := by omega
    exact ((gu_ne hne).trans ((gu_ne hne).trans ((gu_ne hne).trans ((gp_ne hne).trans rfl))))
  · simp only [AHeap.next_push, AHeap.next_upd]; omega
  · simp only [AHeap.low_push, AHeap.low_upd]; omega
  · simp only [AHeap.next_push, AHeap.next_upd]
end Go.Proofs
