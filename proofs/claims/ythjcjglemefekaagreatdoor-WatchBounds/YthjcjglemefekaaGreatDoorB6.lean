/- watch.All, of a history of nothing: nothing went wrong, and memory is as it was. -/
import Derived.Test.YthjcjglemefekaaGreatDoorB5
namespace Go.Proofs
open Go Go.Am
theorem F11 : EE.F 11 = afOf Tryz.f11 := by kernel_rfl
theorem all_ok {H : AHeap} {bl br n : Nat} {cl cr : List AV} (h : Hist H bl br n cl cr) (hn : 1 ≤ n) (hm : n ≤ 4096) : CallOK EE Tryz.prog 11 [.slice (some (bl, 0)) n n 0, .slice (some (br, 0)) n n 0] H (· = .ret (.tuple [.slice none 0 0 0, .int .i64 0]) H) := by
  refine CallOK.still rfl fun H0 hget hnext hlow => ?_
  have gl := h.gl
  have gr := h.gr
  have hll := h.ll
  have hlr := h.lr
  rw [← hget] at gl gr
  refine call_of EE_ok (a := ⟨82, [.tmp 4, .tmp 5], _⟩) F11 rfl ?_
  refine seq_of EE_ok ?_
  -- region 0
  refine region_of EE_ok rfl ?_
  refine o_val (d := 4) rfl rfl rfl rfl ?_
  refine o_val (d := 5) rfl rfl rfl rfl ?_
  refine scope_of EE_ok ?_
  refine seq_of EE_ok ?_
  -- region 1
  refine region_of EE_ok rfl ?_
  refine o_val (d := 15) rfl rfl rfl rfl ?_
  refine o_val (d := 16) rfl rfl rfl rfl ?_
  refine o_val (d := 17) rfl rfl rfl (v_build (l := [_, _]) (pl := [(0, 1), (1, 1)]) (z := [.slice none 0 0 0, .slice none 0 0 0]) rfl (by kernel_rfl) rfl) ?_
  refine o_eff (d := 18) rfl rfl rfl rfl e_makeMap ?_
  refine o_eff (d := 19) rfl rfl rfl rfl e_makeMap ?_
  refine o_val (d := 20) rfl rfl rfl (v_build (l := [_, _, _, _]) (pl := [(0, 2), (2, 1), (3, 1)]) (z := [.slice none 0 0 0, .slice none 0 0 0, .map none, .map none]) rfl (by kernel_rfl) rfl) ?_
  refine o_eff (d := 21) rfl rfl rfl rfl (e_box rfl rfl) ?_
  refine o_val (d := 6) rfl rfl rfl rfl ?_
  refine seq_of EE_ok ?_
  refine seq_of EE_ok ?_
  -- region 2
  refine region_of EE_ok rfl ?_
  refine o_val (d := 23) rfl rfl rfl rfl ?_
  refine o_val (d := 24) rfl rfl rfl rfl ?_
  refine o_callq (d := 25) rfl rfl rfl rfl rfl rfl rfl (without_ok ⟨((gp_ne (by first | omega | (simp only [AHeap.next_push, AHeap.next_upd]; omega))).trans ((gp_ne (by first | omega | (simp only [AHeap.next_push, AHeap.next_upd]; omega))).trans ((gp_ne (by first | omega | (simp only [AHeap.next_push, AHeap.next_upd]; omega))).trans gl))), ((gp_ne (by first | omega | (simp only [AHeap.next_push, AHeap.next_upd]; omega))).trans ((gp_ne (by first | omega | (simp only [AHeap.next_push, AHeap.next_upd]; omega))).trans ((gp_ne (by first | omega | (simp only [AHeap.next_push, AHeap.next_upd]; omega))).trans gr))), (by first | omega | (simp only [AHeap.next_push, AHeap.next_upd]; omega)), (by first | omega | (simp only [AHeap.next_push, AHeap.next_upd]; omega)), h.hl, h.hr⟩ hn hm) ?_
  rintro r ⟨s, H1, rfl, k1⟩
  refine ⟨_, H1, rfl, ?_⟩
  have kl1 := k1.low
  have kn1 := k1.next
  simp only [AHeap.low_push, AHeap.low_upd, AHeap.next_push, AHeap.next_upd] at kl1 kn1
  refine o_val (d := 22) rfl rfl rfl rfl ?_
  refine o_val (d := 26) rfl rfl rfl rfl ?_
  refine o_val (d := 27) rfl rfl rfl rfl ?_
  refine o_val (d := 5) rfl rfl rfl rfl ?_
  refine seq_of EE_ok ?_
  -- region 3
  refine region_of EE_ok rfl ?_
  refine o_val (d := 28) rfl rfl rfl rfl ?_
  refine o_val (d := 29) rfl rfl rfl (v_neq (r := false) rfl rfl rfl) ?_
  refine cond_f EE_ok rfl ?_
  refine skip_run EE_ok ?_
  refine seq_of EE_ok ?_
  refine seq_of EE_ok ?_
  -- region 4
  refine region_of EE_ok rfl ?_
  refine o_val (d := 30) rfl rfl rfl rfl ?_
  refine o_val (d := 31) rfl rfl rfl (v_len rfl rfl rfl rfl (n := 13) (by kernel_rfl)) ?_
  refine o_val (d := 32) rfl rfl rfl rfl ?_
  refine block_of EE_ok ?_
  refine loop_in EE_ok ?_
  refine loop_ind (fun k T H' => ∃ i, k + i = n ∧ Has T [(30, .slice (some (bl, 0)) n n 0), (31, .int .i64 (.ofNat n)), (32, .int .i64 (.ofNat i)), (4, .slice none 0 0 0), (6, .ptr (some (H0.next + 2, 0)))] ∧
      Look H' (H0.next + 2) bl br n H0.next (H0.next + 1) cl cr ∧ H.next ≤ H'.low) ?_ (k := n) ?_
  rotate_left
  · exact ⟨0, by omega, ⟨rfl, rfl, rfl, rfl, rfl, trivial⟩, ⟨((k1.get _ (by first | omega | (simp only [AHeap.next_push, AHeap.next_upd]; omega))).trans ((gp_ne (by first | omega | (simp only [AHeap.next_push, AHeap.next_upd]; omega))).trans ((gp_ne (by first | omega | (simp only [AHeap.next_push, AHeap.next_upd]; omega))).trans ((gp_ne (by first | omega | (simp only [AHeap.next_push, AHeap.next_upd]; omega))).trans gl)))), ((k1.get _ (by first | omega | (simp only [AHeap.next_push, AHeap.next_upd]; omega))).trans ((gp_ne (by first | omega | (simp only [AHeap.next_push, AHeap.next_upd]; omega))).trans ((gp_ne (by first | omega | (simp only [AHeap.next_push, AHeap.next_upd]; omega))).trans ((gp_ne (by first | omega | (simp only [AHeap.next_push, AHeap.next_upd]; omega))).trans gr)))), ((k1.get _ (by first | omega | (simp only [AHeap.next_push, AHeap.next_upd]; omega))).trans (gp_eq rfl)), ((k1.get _ (by first | omega | (simp only [AHeap.next_push, AHeap.next_upd]; omega))).trans ((gp_ne (by first | omega | (simp only [AHeap.next_push, AHeap.next_upd]; omega))).trans ((gp_ne (by first | omega | (simp only [AHeap.next_push, AHeap.next_upd]; omega))).trans (gp_eq rfl)))), ((k1.get _ (by first | omega | (simp only [AHeap.next_push, AHeap.next_upd]; omega))).trans ((gp_ne (by first | omega | (simp only [AHeap.next_push, AHeap.next_upd]; omega))).trans (gp_eq rfl))), (by first | omega | (simp only [AHeap.next_push, AHeap.next_upd]; omega)), (by first | omega | (simp only [AHeap.next_push, AHeap.next_upd]; omega)), (by first | omega | (simp only [AHeap.next_push, AHeap.next_upd]; omega)), (by first | omega | (simp only [AHeap.next_push, AHeap.next_upd]; omega)), (by first | omega | (simp only [AHeap.next_push, AHeap.next_upd]; omega))⟩, (by first | omega | (simp only [AHeap.low_push, AHeap.low_upd, AHeap.next_push, AHeap.next_upd]; omega))⟩
  rintro k T H2 ⟨i, hk, hT, hL, hlow2⟩
  refine RunOK.less hT.less ?_
  obtain ⟨gl2, gr2, gk2, gb2, ge2, ll2, lr2, lk2, lb2, le2⟩ := hL
  by_cases hi : i < n
  · -- a round
    refine seq_of EE_ok ?_
    -- region 5
    refine region_of EE_ok rfl ?_
    refine o_val (d := 33) rfl rfl rfl (v_lss (r := true) rfl rfl (ilt_nat hi)) ?_
    refine seq_of EE_ok ?_
    refine cond_t EE_ok rfl ?_
    refine skip_run EE_ok ?_
    refine seq_of EE_ok ?_
    refine block_of EE_ok ?_
    refine seq_of EE_ok ?_
    -- region 6
    refine region_of EE_ok rfl ?_
    refine o_val (d := 34) rfl rfl rfl rfl ?_
    refine o_val (d := 35) rfl rfl rfl (v_index0 rfl rfl (n := 13) (by kernel_rfl) hi) ?_
    refine o_val (d := 36) rfl rfl rfl (v_loadA rfl (n := 13) (by kernel_rfl) gl2 (h.hl i hi).len (h.hl i hi).eq) ?_
    refine o_eff (d := 8) rfl rfl rfl rfl (e_alloc (z := [.int .i64 0, .int .i64 0, .int .i64 0, .int .i64 0, .int .i64 0, .int .i64 0, .int .i64 0, .int .u32 0, .int .u64 0, .int .u64 0, .int .u64 0, .slice none 0 0 0, .slice none 0 0 0]) (by kernel_rfl)) ?_
    refine o_val (d := 7) rfl rfl rfl rfl ?_
    refine o_eff0 rfl rfl rfl (e_store (n := 13) (c' := [_, _, _, _, _, _, _, _, _, _, _, _, _]) rfl rfl (by kernel_rfl) (gp_eq rfl) rfl (Nat.le_of_ble_eq_true rfl) rfl rfl) ?_
    refine seq_of EE_ok ?_
    refine seq_of EE_ok ?_
    -- region 7
    refine region_of EE_ok rfl ?_
    refine o_val (d := 37) rfl rfl rfl rfl ?_
    refine o_val (d := 38) rfl rfl rfl rfl ?_
    refine o_val (d := 39) rfl rfl rfl rfl ?_
    refine o_val (d := 40) rfl rfl rfl rfl ?_
    refine o_eff (d := 41) rfl rfl rfl rfl (e_buildSlice (l := [_, _]) (sz := 1) (z := [.nilFunc]) rfl (by kernel_rfl) rfl rfl) ?_
    refine o_val (d := 42) rfl rfl rfl (v_len rfl rfl rfl rfl (n := 1) (by kernel_rfl)) ?_
    refine o_val (d := 43) rfl rfl rfl rfl ?_
    refine block_of EE_ok ?_
    refine loop_in EE_ok ?_
    refine loop_of ?_
    refine seq_of EE_ok ?_
    -- region 8
    refine region_of EE_ok rfl ?_
    refine o_val (d := 44) rfl rfl rfl (v_lss (r := true) rfl rfl rfl) ?_
    refine seq_of EE_ok ?_
    refine cond_t EE_ok rfl ?_
    refine skip_run EE_ok ?_
    refine seq_of EE_ok ?_
    refine block_of EE_ok ?_
    refine seq_of EE_ok ?_
    -- region 9
    refine region_of EE_ok rfl ?_
    refine o_val (d := 45) rfl rfl rfl (v_index0 (m := 0) rfl rfl (n := 1) (by kernel_rfl) (Nat.le_of_ble_eq_true rfl)) ?_
    refine o_val (d := 46) rfl rfl rfl (v_load1 rfl (by kernel_rfl) (gp_eq rfl) rfl) ?_
    refine o_val (d := 10) rfl rfl rfl rfl ?_
    refine seq_of EE_ok ?_
    -- region 10
    refine region_of EE_ok rfl ?_
    refine o_val (d := 48) rfl rfl rfl rfl ?_
    refine o_val (d := 49) rfl rfl rfl rfl ?_
    refine o_call1 (d := 50) rfl rfl rfl rfl rfl rfl rfl (call27 ⟨((gp_ne (by first | omega | (simp only [AHeap.next_push, AHeap.next_upd]; omega))).trans ((gu_ne (by first | omega | (simp only [AHeap.next_push, AHeap.next_upd]; omega))).trans ((gp_ne (by first | omega | (simp only [AHeap.next_push, AHeap.next_upd]; omega))).trans gl2))), ((gp_ne (by first | omega | (simp only [AHeap.next_push, AHeap.next_upd]; omega))).trans ((gu_ne (by first | omega | (simp only [AHeap.next_push, AHeap.next_upd]; omega))).trans ((gp_ne (by first | omega | (simp only [AHeap.next_push, AHeap.next_upd]; omega))).trans gr2))), ((gp_ne (by first | omega | (simp only [AHeap.next_push, AHeap.next_upd]; omega))).trans ((gu_ne (by first | omega | (simp only [AHeap.next_push, AHeap.next_upd]; omega))).trans ((gp_ne (by first | omega | (simp only [AHeap.next_push, AHeap.next_upd]; omega))).trans gk2))), ((gp_ne (by first | omega | (simp only [AHeap.next_push, AHeap.next_upd]; omega))).trans ((gu_ne (by first | omega | (simp only [AHeap.next_push, AHeap.next_upd]; omega))).trans ((gp_ne (by first | omega | (simp only [AHeap.next_push, AHeap.next_upd]; omega))).trans gb2))), ((gp_ne (by first | omega | (simp only [AHeap.next_push, AHeap.next_upd]; omega))).trans ((gu_ne (by first | omega | (simp only [AHeap.next_push, AHeap.next_upd]; omega))).trans ((gp_ne (by first | omega | (simp only [AHeap.next_push, AHeap.next_upd]; omega))).trans ge2))), (by first | omega | (simp only [AHeap.next_push, AHeap.next_upd]; omega)), (by first | omega | (simp only [AHeap.next_push, AHeap.next_upd]; omega)), (by first | omega | (simp only [AHeap.next_push, AHeap.next_upd]; omega)), (by first | omega | (simp only [AHeap.next_push, AHeap.next_upd]; omega)), (by first | omega | (simp only [AHeap.next_push, AHeap.next_upd]; omega))⟩ hi (h.hl i hi) (h.hr i hi)) ?_
    refine o_val (d := 47) rfl rfl rfl rfl ?_
    refine o_val (d := 51) rfl rfl rfl rfl ?_
    refine o_val (d := 52) rfl rfl rfl rfl ?_
    refine o_eff (d := 11) rfl rfl rfl rfl (e_alloc (z := [.int .i64 0, .int .i64 0, .int .i64 0, .int .i64 0, .int .i64 0, .int .i64 0, .int .u32 0, .int .i64 0]) (by kernel_rfl)) ?_
    refine o_eff0 rfl rfl rfl (e_store (n := 8) (c' := [_, _, _, _, _, _, _, _]) rfl rfl (by kernel_rfl) (gp_eq rfl) rfl (Nat.le_of_ble_eq_true rfl) rfl rfl) ?_
    refine o_val (d := 12) rfl rfl rfl rfl ?_
    refine seq_of EE_ok ?_
    -- region 11
    refine region_of EE_ok rfl ?_
    refine o_val (d := 53) rfl rfl rfl rfl ?_
    refine cond_f EE_ok rfl ?_
    refine skip_run EE_ok ?_
    -- region 13
    refine region_of EE_ok rfl ?_
    refine o_val (d := 58) rfl rfl rfl (v_add (c := 1) rfl rfl rfl) ?_
    refine o_val (d := 43) rfl rfl rfl rfl ?_
    refine loop_of ?_
    refine seq_of EE_ok ?_
    -- region 8
    refine region_of EE_ok rfl ?_
    refine o_val (d := 44) rfl rfl rfl (v_lss (r := true) rfl rfl rfl) ?_
    refine seq_of EE_ok ?_
    refine cond_t EE_ok rfl ?_
    refine skip_run EE_ok ?_
    refine seq_of EE_ok ?_
    refine block_of EE_ok ?_
    refine seq_of EE_ok ?_
    -- region 9
    refine region_of EE_ok rfl ?_
    refine o_val (d := 45) rfl rfl rfl (v_index0 (m := 1) rfl rfl (n := 1) (by kernel_rfl) (Nat.le_of_ble_eq_true rfl)) ?_
    refine o_val (d := 46) rfl rfl rfl (v_load1 rfl (by kernel_rfl) ((gu_ne (by first | omega | (simp only [AHeap.next_push, AHeap.next_upd]; omega))).trans ((gp_ne (by first | omega | (simp only [AHeap.next_push, AHeap.next_upd]; omega))).trans (gp_eq rfl))) rfl) ?_
    refine o_val (d := 10) rfl rfl rfl rfl ?_
    refine seq_of EE_ok ?_
    -- region 10
    refine region_of EE_ok rfl ?_
    refine o_val (d := 48) rfl rfl rfl rfl ?_
    refine o_val (d := 49) rfl rfl rfl rfl ?_
    refine o_call1 (d := 50) rfl rfl rfl rfl rfl rfl rfl (call28 ⟨((gu_ne (by first | omega | (simp only [AHeap.next_push, AHeap.next_upd]; omega))).trans ((gp_ne (by first | omega | (simp only [AHeap.next_push, AHeap.next_upd]; omega))).trans ((gp_ne (by first | omega | (simp only [AHeap.next_push, AHeap.next_upd]; omega))).trans ((gu_ne (by first | omega | (simp only [AHeap.next_push, AHeap.next_upd]; omega))).trans ((gp_ne (by first | omega | (simp only [AHeap.next_push, AHeap.next_upd]; omega))).trans gl2))))), ((gu_ne (by first | omega | (simp only [AHeap.next_push, AHeap.next_upd]; omega))).trans ((gp_ne (by first | omega | (simp only [AHeap.next_push, AHeap.next_upd]; omega))).trans ((gp_ne (by first | omega | (simp only [AHeap.next_push, AHeap.next_upd]; omega))).trans ((gu_ne (by first | omega | (simp only [AHeap.next_push, AHeap.next_upd]; omega))).trans ((gp_ne (by first | omega | (simp only [AHeap.next_push, AHeap.next_upd]; omega))).trans gr2))))), ((gu_ne (by first | omega | (simp only [AHeap.next_push, AHeap.next_upd]; omega))).trans ((gp_ne (by first | omega | (simp only [AHeap.next_push, AHeap.next_upd]; omega))).trans ((gp_ne (by first | omega | (simp only [AHeap.next_push, AHeap.next_upd]; omega))).trans ((gu_ne (by first | omega | (simp only [AHeap.next_push, AHeap.next_upd]; omega))).trans ((gp_ne (by first | omega | (simp only [AHeap.next_push, AHeap.next_upd]; omega))).trans gk2))))), ((gu_ne (by first | omega | (simp only [AHeap.next_push, AHeap.next_upd]; omega))).trans ((gp_ne (by first | omega | (simp only [AHeap.next_push, AHeap.next_upd]; omega))).trans ((gp_ne (by first | omega | (simp only [AHeap.next_push, AHeap.next_upd]; omega))).trans ((gu_ne (by first | omega | (simp only [AHeap.next_push, AHeap.next_upd]; omega))).trans ((gp_ne (by first | omega | (simp only [AHeap.next_push, AHeap.next_upd]; omega))).trans gb2))))), ((gu_ne (by first | omega | (simp only [AHeap.next_push, AHeap.next_upd]; omega))).trans ((gp_ne (by first | omega | (simp only [AHeap.next_push, AHeap.next_upd]; omega))).trans ((gp_ne (by first | omega | (simp only [AHeap.next_push, AHeap.next_upd]; omega))).trans ((gu_ne (by first | omega | (simp only [AHeap.next_push, AHeap.next_upd]; omega))).trans ((gp_ne (by first | omega | (simp only [AHeap.next_push, AHeap.next_upd]; omega))).trans ge2))))), (by first | omega | (simp only [AHeap.next_push, AHeap.next_upd]; omega)), (by first | omega | (simp only [AHeap.next_push, AHeap.next_upd]; omega)), (by first | omega | (simp only [AHeap.next_push, AHeap.next_upd]; omega)), (by first | omega | (simp only [AHeap.next_push, AHeap.next_upd]; omega)), (by first | omega | (simp only [AHeap.next_push, AHeap.next_upd]; omega))⟩ hi (h.hl i hi) (h.hr i hi)) ?_
    refine o_val (d := 47) rfl rfl rfl rfl ?_
    refine o_val (d := 51) rfl rfl rfl rfl ?_
    refine o_val (d := 52) rfl rfl rfl rfl ?_
    refine o_eff (d := 11) rfl rfl rfl rfl (e_alloc (z := [.int .i64 0, .int .i64 0, .int .i64 0, .int .i64 0, .int .i64 0, .int .i64 0, .int .u32 0, .int .i64 0]) (by kernel_rfl)) ?_
    refine o_eff0 rfl rfl rfl (e_store (n := 8) (c' := [_, _, _, _, _, _, _, _]) rfl rfl (by kernel_rfl) (gp_eq rfl) rfl (Nat.le_of_ble_eq_true rfl) rfl rfl) ?_
    refine o_val (d := 12) rfl rfl rfl rfl ?_
    refine seq_of EE_ok ?_
    -- region 11
    refine region_of EE_ok rfl ?_
    refine o_val (d := 53) rfl rfl rfl rfl ?_
    refine cond_f EE_ok rfl ?_
    refine skip_run EE_ok ?_
    -- region 13
    refine region_of EE_ok rfl ?_
    refine o_val (d := 58) rfl rfl rfl (v_add (c := 2) rfl rfl rfl) ?_
    refine o_val (d := 43) rfl rfl rfl rfl ?_
    refine loop_of ?_
    refine seq_of EE_ok ?_
    -- region 8
    refine region_of EE_ok rfl ?_
    refine o_val (d := 44) rfl rfl rfl (v_lss (r := false) rfl rfl rfl) ?_
    refine seq_of EE_ok ?_
    refine cond_f EE_ok rfl ?_
    refine exit_run EE_ok ?_
    refine seq_of EE_ok ?_
    -- region 14
    refine draw_of EE_ok rfl (first := [1, 2]) (steps := [⟨0, [2], [3, 4, 5, 6]⟩, ⟨7, [], []⟩, ⟨8, [], []⟩]) (by kernel_rfl) ?_
    refine g_val (d := 61) rfl rfl rfl rfl (v_field rfl (k := 0) (by kernel_rfl)) ?_
    refine g_val (d := 62) rfl rfl rfl rfl (v_load1 rfl (by kernel_rfl) ((gu_ne (by first | omega | (simp only [AHeap.next_push, AHeap.next_upd]; omega))).trans ((gp_ne (by first | omega | (simp only [AHeap.next_push, AHeap.next_upd]; omega))).trans ((gu_ne (by first | omega | (simp only [AHeap.next_push, AHeap.next_upd]; omega))).trans ((gp_ne (by first | omega | (simp only [AHeap.next_push, AHeap.next_upd]; omega))).trans ((gp_ne (by first | omega | (simp only [AHeap.next_push, AHeap.next_upd]; omega))).trans gu_eq))))) rfl) ?_
    show runSteps _ _ _ _ _ _ _ _ _ _
    refine s_callq (d := 60) rfl rfl rfl rfl rfl rfl rfl rfl (call29 _) ?_
    rintro r ⟨H9, rfl, k9, x9, g9⟩
    have x9 : H9.next = H2.next + 5 := x9
    have kl9 := k9.low
    simp only [AHeap.low_push, AHeap.low_upd, AHeap.next_push, AHeap.next_upd] at kl9
    refine ⟨_, H9, rfl, ?_, ?_⟩
    · refine still_cons (d := 62) rfl rfl rfl (v_load1 rfl (by kernel_rfl) ((k9.get _ (by first | omega | (simp only [AHeap.next_push, AHeap.next_upd]; omega))).trans ((gu_ne (by first | omega | (simp only [AHeap.next_push, AHeap.next_upd]; omega))).trans ((gp_ne (by first | omega | (simp only [AHeap.next_push, AHeap.next_upd]; omega))).trans ((gu_ne (by first | omega | (simp only [AHeap.next_push, AHeap.next_upd]; omega))).trans ((gp_ne (by first | omega | (simp only [AHeap.next_push, AHeap.next_upd]; omega))).trans ((gp_ne (by first | omega | (simp only [AHeap.next_push, AHeap.next_upd]; omega))).trans gu_eq)))))) rfl) rfl rfl ?_
      rfl
    refine g_val (d := 63) rfl rfl rfl rfl (v_lookup (kt := 63) (et := 86) (r := .tuple [.nilFunc, .bool false]) rfl rfl (by kernel_rfl) (by kernel_rfl) (by kernel_rfl) g9 (by kernel_rfl)) ?_
    refine g_val (d := 59) rfl rfl rfl rfl rfl ?_
    refine g_val (d := 64) rfl rfl rfl rfl rfl ?_
    refine g_val (d := 65) rfl rfl rfl rfl rfl ?_
    show runSteps _ _ _ _ _ _ _ _ _ _
    refine s_val (d := 13) rfl rfl rfl rfl rfl rfl ?_
    show runSteps _ _ _ _ _ _ _ _ _ _
    refine s_val (d := 14) rfl rfl rfl rfl rfl rfl ?_
    refine seq_of EE_ok ?_
    -- region 15
    refine region_of EE_ok rfl ?_
    refine o_val (d := 66) rfl rfl rfl rfl ?_
    refine o_val (d := 67) rfl rfl rfl rfl ?_
    refine o_not (d := 68) rfl rfl rfl ?_
    refine o_not (d := 69) rfl rfl rfl ?_
    refine o_not (d := 70) rfl rfl rfl ?_
    refine o_not (d := 71) rfl rfl rfl ?_
    refine o_not (d := 72) rfl rfl rfl ?_
    refine o_not (d := 73) rfl rfl rfl ?_
    refine o_val (d := 74) rfl rfl rfl rfl ?_
    refine cond_f EE_ok rfl ?_
    refine skip_run EE_ok ?_
    -- region 17
    refine region_of EE_ok rfl ?_
    refine o_val (d := 79) rfl rfl rfl (v_add rfl rfl (fwrap_succ (by omega))) ?_
    refine o_val (d := 32) rfl rfl rfl rfl ?_
    exact ⟨rfl, rfl, k - 1, by omega, i + 1, by omega, ⟨rfl, rfl, rfl, rfl, rfl, trivial⟩, ⟨((k9.get _ (by first | omega | (simp only [AHeap.next_push, AHeap.next_upd]; omega))).trans ((gu_ne (by first | omega | (simp only [AHeap.next_push, AHeap.next_upd]; omega))).trans ((gp_ne (by first | omega | (simp only [AHeap.next_push, AHeap.next_upd]; omega))).trans ((gu_ne (by first | omega | (simp only [AHeap.next_push, AHeap.next_upd]; omega))).trans ((gp_ne (by first | omega | (simp only [AHeap.next_push, AHeap.next_upd]; omega))).trans ((gp_ne (by first | omega | (simp only [AHeap.next_push, AHeap.next_upd]; omega))).trans ((gu_ne (by first | omega | (simp only [AHeap.next_push, AHeap.next_upd]; omega))).trans ((gp_ne (by first | omega | (simp only [AHeap.next_push, AHeap.next_upd]; omega))).trans gl2)))))))), ((k9.get _ (by first | omega | (simp only [AHeap.next_push, AHeap.next_upd]; omega))).trans ((gu_ne (by first | omega | (simp only [AHeap.next_push, AHeap.next_upd]; omega))).trans ((gp_ne (by first | omega | (simp only [AHeap.next_push, AHeap.next_upd]; omega))).trans ((gu_ne (by first | omega | (simp only [AHeap.next_push, AHeap.next_upd]; omega))).trans ((gp_ne (by first | omega | (simp only [AHeap.next_push, AHeap.next_upd]; omega))).trans ((gp_ne (by first | omega | (simp only [AHeap.next_push, AHeap.next_upd]; omega))).trans ((gu_ne (by first | omega | (simp only [AHeap.next_push, AHeap.next_upd]; omega))).trans ((gp_ne (by first | omega | (simp only [AHeap.next_push, AHeap.next_upd]; omega))).trans gr2)))))))), ((k9.get _ (by first | omega | (simp only [AHeap.next_push, AHeap.next_upd]; omega))).trans ((gu_ne (by first | omega | (simp only [AHeap.next_push, AHeap.next_upd]; omega))).trans ((gp_ne (by first | omega | (simp only [AHeap.next_push, AHeap.next_upd]; omega))).trans ((gu_ne (by first | omega | (simp only [AHeap.next_push, AHeap.next_upd]; omega))).trans ((gp_ne (by first | omega | (simp only [AHeap.next_push, AHeap.next_upd]; omega))).trans ((gp_ne (by first | omega | (simp only [AHeap.next_push, AHeap.next_upd]; omega))).trans ((gu_ne (by first | omega | (simp only [AHeap.next_push, AHeap.next_upd]; omega))).trans ((gp_ne (by first | omega | (simp only [AHeap.next_push, AHeap.next_upd]; omega))).trans gk2)))))))), ((k9.get _ (by first | omega | (simp only [AHeap.next_push, AHeap.next_upd]; omega))).trans ((gu_ne (by first | omega | (simp only [AHeap.next_push, AHeap.next_upd]; omega))).trans ((gp_ne (by first | omega | (simp only [AHeap.next_push, AHeap.next_upd]; omega))).trans ((gu_ne (by first | omega | (simp only [AHeap.next_push, AHeap.next_upd]; omega))).trans ((gp_ne (by first | omega | (simp only [AHeap.next_push, AHeap.next_upd]; omega))).trans ((gp_ne (by first | omega | (simp only [AHeap.next_push, AHeap.next_upd]; omega))).trans ((gu_ne (by first | omega | (simp only [AHeap.next_push, AHeap.next_upd]; omega))).trans ((gp_ne (by first | omega | (simp only [AHeap.next_push, AHeap.next_upd]; omega))).trans gb2)))))))), ((k9.get _ (by first | omega | (simp only [AHeap.next_push, AHeap.next_upd]; omega))).trans ((gu_ne (by first | omega | (simp only [AHeap.next_push, AHeap.next_upd]; omega))).trans ((gp_ne (by first | omega | (simp only [AHeap.next_push, AHeap.next_upd]; omega))).trans ((gu_ne (by first | omega | (simp only [AHeap.next_push, AHeap.next_upd]; omega))).trans ((gp_ne (by first | omega | (simp only [AHeap.next_push, AHeap.next_upd]; omega))).trans ((gp_ne (by first | omega | (simp only [AHeap.next_push, AHeap.next_upd]; omega))).trans ((gu_ne (by first | omega | (simp only [AHeap.next_push, AHeap.next_upd]; omega))).trans ((gp_ne (by first | omega | (simp only [AHeap.next_push, AHeap.next_upd]; omega))).trans ge2)))))))), (by first | omega | (simp only [AHeap.next_push, AHeap.next_upd]; omega)), (by first | omega | (simp only [AHeap.next_push, AHeap.next_upd]; omega)), (by first | omega | (simp only [AHeap.next_push, AHeap.next_upd]; omega)), (by first | omega | (simp only [AHeap.next_push, AHeap.next_upd]; omega)), (by first | omega | (simp only [AHeap.next_push, AHeap.next_upd]; omega))⟩, (by first | omega | (simp only [AHeap.low_push, AHeap.low_upd, AHeap.next_push, AHeap.next_upd]; omega))⟩
  · -- behind the loop
    refine seq_of EE_ok ?_
    -- region 5
    refine region_of EE_ok rfl ?_
    refine o_val (d := 33) rfl rfl rfl (v_lss (r := false) rfl rfl (ilt_nat_f hi)) ?_
    refine seq_of EE_ok ?_
    refine cond_f EE_ok rfl ?_
    refine exit_run EE_ok ?_
    refine seq_of EE_ok ?_
    refine seq_of EE_ok ?_
    -- region 18
    refine region_of EE_ok rfl ?_
    refine o_val (d := 80) rfl rfl rfl rfl ?_
    refine o_val (d := 4) rfl rfl rfl rfl ?_
    refine o_val (d := 5) rfl rfl rfl rfl ?_
    refine ret_run EE_ok ?_
    exact ⟨rfl, _, (res_tmp rfl (res_tmp rfl res_nil)), _, rfl, (by first | omega | (simp only [AHeap.low_push, AHeap.low_upd, AHeap.next_push, AHeap.next_upd]; omega))⟩
end Go.Proofs
