/- watch: a row of a history in which nothing went wrong. -/
import Derived.Test.YthjcjglemefekaaGreatDoorB1
import Derived.Test.YthjcjglemefekaaGreatDoorM10
namespace Go.Proofs
open Go Go.Am
def zt : List AV := [.int .i64 0, .int .i64 0, .int .i64 0, .int .i64 0, .int .i64 0, .int .i64 0, .int .i64 0, .int .u32 0, .int .u64 0, .int .u64 0, .int .u64 0, .slice none 0 0 0, .slice none 0 0 0]
def zr : List AV := [.int .i64 0, .int .i64 0, .int .i64 0, .int .i64 0, .int .i64 0, .int .i64 0, .bool false, .int .i64 0, .int .u32 0, .int .i64 0, .slice none 0 0 0]
/-- What a look holds. -/
structure Look (H : AHeap) (lk bl br n bo be : Nat) (cl cr : List AV) : Prop where
  gl : H.get bl = some (.cells cl)
  gr : H.get br = some (.cells cr)
  gk : H.get lk = some (.cells [.slice (some (bl, 0)) n n 0, .slice (some (br, 0)) n n 0, .map (some bo), .map (some be)])
  gb : H.get bo = some (.map [] 0)
  ge : H.get be = some (.map [] 0)
  ll : bl < H.next
  lr : br < H.next
  lk : lk < H.next
  lb : bo < H.next
  le : be < H.next
theorem F27 : EE.F 27 = afOf Tryz.f27 := by kernel_rfl
theorem call27 {H : AHeap} {lk bl br n bo be i : Nat} {cl cr : List AV} (h : Look H lk bl br n bo be cl cr) (hi : i < n) (hl : Win cl (i * 13) 13 zt) (hr : Win cr (i * 11) 11 zr) :
    CallOK EE Tryz.prog 27 [.ptr (some (lk, 0)), .int .i64 (.ofNat i)] H (· = .ret (.tuple [.agg [.int .i64 0, .int .i64 0, .int .i64 0, .int .i64 0, .int .i64 0, .int .i64 0, .int .u32 0, .int .i64 0], .bool false]) H) := by
  refine CallOK.still rfl fun H0 hget hnext hlow => ?_
  obtain ⟨gl, gr, gk, gb, ge, ll, lr, lk, lb, le⟩ := h
  rw [← hget] at gl gr gk gb ge
  refine call_of EE_ok (a := ⟨52, [.cell 4 29, .tmp 5], _⟩) F27 rfl ?_
  refine seq_of EE_ok ?_
  -- region 0
  refine region_of EE_ok rfl ?_
  refine o_eff (d := 4) rfl rfl rfl rfl (e_alloc (z := [.int .i64 0, .int .i64 0, .int .i64 0, .int .i64 0, .int .i64 0, .int .i64 0, .int .u32 0, .int .i64 0]) (by kernel_rfl)) ?_
  refine o_val (d := 5) rfl rfl rfl rfl ?_
  refine seq_of EE_ok ?_
  -- region 1
  refine region_of EE_ok rfl ?_
  refine o_val (d := 7) rfl rfl rfl rfl ?_
  refine o_val (d := 8) rfl rfl rfl rfl ?_
  refine o_val (d := 9) rfl rfl rfl (v_field rfl (k := 0) (by kernel_rfl)) ?_
  refine o_val (d := 10) rfl rfl rfl (v_field rfl (k := 0) (by kernel_rfl)) ?_
  refine o_val (d := 11) rfl rfl rfl (v_load1 rfl (by kernel_rfl) ((gp_ne (by first | omega | (simp only [AHeap.next_push, AHeap.next_upd]; omega))).trans gk) rfl) ?_
  refine o_val (d := 12) rfl rfl rfl rfl ?_
  refine o_val (d := 13) rfl rfl rfl (v_index0 rfl rfl (n := 13) (by kernel_rfl) hi) ?_
  refine o_val (d := 14) rfl rfl rfl (v_loadA rfl (n := 13) (by kernel_rfl) ((gp_ne (by first | omega | (simp only [AHeap.next_push, AHeap.next_upd]; omega))).trans gl) hl.len hl.eq) ?_
  refine o_eff (d := 6) rfl rfl rfl rfl (e_alloc (z := [.int .i64 0, .int .i64 0, .int .i64 0, .int .i64 0, .int .i64 0, .int .i64 0, .int .i64 0, .int .u32 0, .int .u64 0, .int .u64 0, .int .u64 0, .slice none 0 0 0, .slice none 0 0 0]) (by kernel_rfl)) ?_
  refine o_eff0 rfl rfl rfl (e_store (n := 13) (c' := [_, _, _, _, _, _, _, _, _, _, _, _, _]) rfl rfl (by kernel_rfl) (gp_eq rfl) rfl (Nat.le_of_ble_eq_true rfl) rfl rfl) ?_
  refine seq_of EE_ok ?_
  refine seq_of EE_ok ?_
  -- region 2
  refine region_of EE_ok rfl ?_
  refine o_val (d := 15) rfl rfl rfl rfl ?_
  refine o_val (d := 16) rfl rfl rfl rfl ?_
  refine o_val (d := 17) rfl rfl rfl (v_field rfl (k := 0) (by kernel_rfl)) ?_
  refine o_val (d := 18) rfl rfl rfl (v_field rfl (k := 1) (by kernel_rfl)) ?_
  refine o_val (d := 19) rfl rfl rfl (v_load1 rfl (by kernel_rfl) ((gu_ne (by first | omega | (simp only [AHeap.next_push, AHeap.next_upd]; omega))).trans ((gp_ne (by first | omega | (simp only [AHeap.next_push, AHeap.next_upd]; omega))).trans ((gp_ne (by first | omega | (simp only [AHeap.next_push, AHeap.next_upd]; omega))).trans gk))) rfl) ?_
  refine o_val (d := 20) rfl rfl rfl rfl ?_
  refine o_val (d := 21) rfl rfl rfl (v_index0 rfl rfl (n := 11) (by kernel_rfl) hi) ?_
  refine o_val (d := 22) rfl rfl rfl (v_field rfl (k := 0) (by kernel_rfl)) ?_
  refine o_val (d := 23) rfl rfl rfl (v_load1 rfl (by kernel_rfl) ((gu_ne (by first | omega | (simp only [AHeap.next_push, AHeap.next_upd]; omega))).trans ((gp_ne (by first | omega | (simp only [AHeap.next_push, AHeap.next_upd]; omega))).trans ((gp_ne (by first | omega | (simp only [AHeap.next_push, AHeap.next_upd]; omega))).trans gr))) (Win.at (j := 0) hr rfl)) ?_
  refine o_val (d := 24) rfl rfl rfl (v_neq (r := true) rfl rfl rfl) ?_
  refine o_val (d := 25) rfl rfl rfl rfl ?_
  refine o_not (d := 26) rfl rfl rfl ?_
  refine o_not (d := 27) rfl rfl rfl ?_
  refine o_not (d := 28) rfl rfl rfl ?_
  refine o_not (d := 29) rfl rfl rfl ?_
  refine o_not (d := 30) rfl rfl rfl ?_
  refine o_not (d := 31) rfl rfl rfl ?_
  refine o_not (d := 32) rfl rfl rfl ?_
  refine o_not (d := 33) rfl rfl rfl ?_
  refine o_not (d := 34) rfl rfl rfl ?_
  refine o_not (d := 35) rfl rfl rfl ?_
  refine o_not (d := 36) rfl rfl rfl ?_
  refine o_not (d := 37) rfl rfl rfl ?_
  refine o_not (d := 38) rfl rfl rfl ?_
  refine o_val (d := 39) rfl rfl rfl rfl ?_
  refine cond_t EE_ok rfl ?_
  refine seq_of EE_ok ?_
  -- region 3
  refine region_of EE_ok rfl ?_
  refine o_val (d := 40) rfl rfl rfl (v_loadA (l := [_, _, _, _, _, _, _, _]) rfl (n := 8) (by kernel_rfl) ((gu_ne (by first | omega | (simp only [AHeap.next_push, AHeap.next_upd]; omega))).trans ((gp_ne (by first | omega | (simp only [AHeap.next_push, AHeap.next_upd]; omega))).trans (gp_eq rfl))) (Nat.le_of_ble_eq_true rfl) rfl) ?_
  refine o_eff0 rfl rfl rfl (e_store (n := 8) (c' := [_, _, _, _, _, _, _, _]) rfl rfl (by kernel_rfl) ((gu_ne (by first | omega | (simp only [AHeap.next_push, AHeap.next_upd]; omega))).trans ((gp_ne (by first | omega | (simp only [AHeap.next_push, AHeap.next_upd]; omega))).trans (gp_eq rfl))) rfl (Nat.le_of_ble_eq_true rfl) rfl rfl) ?_
  refine o_val (d := 5) rfl rfl rfl rfl ?_
  refine ret_run EE_ok ?_
  exact ⟨rfl, _, (res_cell (v_loadA (l := [_, _, _, _, _, _, _, _]) rfl (n := 8) (by kernel_rfl) gu_eq (Nat.le_of_ble_eq_true rfl) rfl) (res_tmp rfl res_nil)), _, rfl, (by first | omega | (simp only [AHeap.low_push, AHeap.low_upd, AHeap.next_push, AHeap.next_upd]; omega))⟩
theorem F28 : EE.F 28 = afOf Tryz.f28 := by kernel_rfl
theorem call28 {H : AHeap} {lk bl br n bo be i : Nat} {cl cr : List AV} (h : Look H lk bl br n bo be cl cr) (hi : i < n) (hl : Win cl (i * 13) 13 zt) (hr : Win cr (i * 11) 11 zr) :
    CallOK EE Tryz.prog 28 [.ptr (some (lk, 0)), .int .i64 (.ofNat i)] H (· = .ret (.tuple [.agg [.int .i64 0, .int .i64 0, .int .i64 0, .int .i64 0, .int .i64 0, .int .i64 0, .int .u32 0, .int .i64 0], .bool false]) H) := by
  refine CallOK.still rfl fun H0 hget hnext hlow => ?_
  obtain ⟨gl, gr, gk, gb, ge, ll, lr, lk, lb, le⟩ := h
  rw [← hget] at gl gr gk gb ge
  refine call_of EE_ok (a := ⟨105, [.cell 4 29, .tmp 5], _⟩) F28 rfl ?_
  refine seq_of EE_ok ?_
  -- region 0
  refine region_of EE_ok rfl ?_
  refine o_eff (d := 4) rfl rfl rfl rfl (e_alloc (z := [.int .i64 0, .int .i64 0, .int .i64 0, .int .i64 0, .int .i64 0, .int .i64 0, .int .u32 0, .int .i64 0]) (by kernel_rfl)) ?_
  refine o_val (d := 5) rfl rfl rfl rfl ?_
  refine seq_of EE_ok ?_
  -- region 1
  refine draw_of EE_ok rfl (first := [0, 1, 2, 3, 4, 5, 6, 7, 8, 9, 10, 11, 12, 13, 14, 15, 16, 17, 18]) (steps := [⟨19, [12, 16], []⟩, ⟨20, [], []⟩]) (by kernel_rfl) ?_
  refine g_val (d := 11) rfl rfl rfl rfl rfl ?_
  refine g_val (d := 12) rfl rfl rfl rfl rfl ?_
  refine g_val (d := 13) rfl rfl rfl rfl (v_field rfl (k := 0) (by kernel_rfl)) ?_
  refine g_val (d := 14) rfl rfl rfl rfl (v_field rfl (k := 0) (by kernel_rfl)) ?_
  refine g_val (d := 15) rfl rfl rfl rfl (v_load1 rfl (by kernel_rfl) ((gp_ne (by first | omega | (simp only [AHeap.next_push, AHeap.next_upd]; omega))).trans gk) rfl) ?_
  refine g_val (d := 16) rfl rfl rfl rfl rfl ?_
  refine g_val (d := 17) rfl rfl rfl rfl (v_index0 rfl rfl (n := 13) (by kernel_rfl) hi) ?_
  refine g_val (d := 18) rfl rfl rfl rfl (v_loadA rfl (n := 13) (by kernel_rfl) ((gp_ne (by first | omega | (simp only [AHeap.next_push, AHeap.next_upd]; omega))).trans gl) hl.len hl.eq) ?_
  refine g_val (d := 19) rfl rfl rfl rfl rfl ?_
  refine g_val (d := 20) rfl rfl rfl rfl rfl ?_
  refine g_val (d := 21) rfl rfl rfl rfl (v_field rfl (k := 0) (by kernel_rfl)) ?_
  refine g_val (d := 22) rfl rfl rfl rfl (v_field rfl (k := 1) (by kernel_rfl)) ?_
  refine g_val (d := 23) rfl rfl rfl rfl (v_load1 rfl (by kernel_rfl) ((gp_ne (by first | omega | (simp only [AHeap.next_push, AHeap.next_upd]; omega))).trans gk) rfl) ?_
  refine g_val (d := 24) rfl rfl rfl rfl rfl ?_
  refine g_val (d := 25) rfl rfl rfl rfl (v_index0 rfl rfl (n := 11) (by kernel_rfl) hi) ?_
  refine g_val (d := 26) rfl rfl rfl rfl (v_field rfl (k := 4) (by kernel_rfl)) ?_
  refine g_val (d := 27) rfl rfl rfl rfl (v_loadA rfl (n := 7) (by kernel_rfl) ((gp_ne (by first | omega | (simp only [AHeap.next_push, AHeap.next_upd]; omega))).trans gr) (Win.sub (j := 4) (l' := [.int .i64 0, .int .i64 0, .bool false, .int .i64 0, .int .u32 0, .int .i64 0, .slice none 0 0 0]) hr rfl rfl).len (Win.sub (j := 4) (l' := [.int .i64 0, .int .i64 0, .bool false, .int .i64 0, .int .u32 0, .int .i64 0, .slice none 0 0 0]) hr rfl rfl).eq) ?_
  refine g_new (d := 6) rfl rfl rfl rfl rfl (n_alloc (z := [.int .i64 0, .int .i64 0, .int .i64 0, .int .i64 0, .int .i64 0, .int .i64 0, .int .i64 0, .int .u32 0, .int .u64 0, .int .u64 0, .int .u64 0, .slice none 0 0 0, .slice none 0 0 0]) (by kernel_rfl)) rfl ?_
  refine g_new (d := 7) rfl rfl rfl rfl rfl (n_alloc (z := [.int .i64 0, .int .i64 0, .bool false, .int .i64 0, .int .u32 0, .int .i64 0, .slice none 0 0 0]) (by kernel_rfl)) rfl ?_
  show runSteps _ _ _ _ _ _ _ _ _ _
  refine s_eff0 rfl rfl rfl rfl (e_store (n := 13) (c' := [_, _, _, _, _, _, _, _, _, _, _, _, _]) rfl rfl (by kernel_rfl) ((gp_ne (by first | omega | (simp only [AHeap.next_push, AHeap.next_upd]; omega))).trans (gp_eq rfl)) rfl (Nat.le_of_ble_eq_true rfl) rfl rfl) ?_ ?_
  · refine still_cons (d := 23) rfl rfl rfl (v_load1 rfl (by kernel_rfl) ((gu_ne (by first | omega | (simp only [AHeap.next_push, AHeap.next_upd]; omega))).trans ((gp_ne (by first | omega | (simp only [AHeap.next_push, AHeap.next_upd]; omega))).trans ((gp_ne (by first | omega | (simp only [AHeap.next_push, AHeap.next_upd]; omega))).trans ((gp_ne (by first | omega | (simp only [AHeap.next_push, AHeap.next_upd]; omega))).trans gk)))) rfl) rfl rfl ?_
    refine still_cons (d := 27) rfl rfl rfl (v_loadA rfl (n := 7) (by kernel_rfl) ((gu_ne (by first | omega | (simp only [AHeap.next_push, AHeap.next_upd]; omega))).trans ((gp_ne (by first | omega | (simp only [AHeap.next_push, AHeap.next_upd]; omega))).trans ((gp_ne (by first | omega | (simp only [AHeap.next_push, AHeap.next_upd]; omega))).trans ((gp_ne (by first | omega | (simp only [AHeap.next_push, AHeap.next_upd]; omega))).trans gr)))) (Win.sub (j := 4) (l' := [.int .i64 0, .int .i64 0, .bool false, .int .i64 0, .int .u32 0, .int .i64 0, .slice none 0 0 0]) hr rfl rfl).len (Win.sub (j := 4) (l' := [.int .i64 0, .int .i64 0, .bool false, .int .i64 0, .int .u32 0, .int .i64 0, .slice none 0 0 0]) hr rfl rfl).eq) rfl rfl ?_
    rfl
  show runSteps _ _ _ _ _ _ _ _ _ _
  refine s_eff0 rfl rfl rfl rfl (e_store (n := 7) (c' := [_, _, _, _, _, _, _]) rfl rfl (by kernel_rfl) ((gu_ne (by first | omega | (simp only [AHeap.next_push, AHeap.next_upd]; omega))).trans (gp_eq rfl)) rfl (Nat.le_of_ble_eq_true rfl) rfl rfl) rfl ?_
  refine seq_of EE_ok ?_
  -- region 2
  refine draw_of EE_ok rfl (first := [0, 1, 2, 3, 4, 5, 6, 7, 8, 9, 10]) (steps := [⟨11, [], []⟩, ⟨12, [], []⟩]) (by kernel_rfl) ?_
  refine g_val (d := 29) rfl rfl rfl rfl rfl ?_
  refine g_val (d := 30) rfl rfl rfl rfl rfl ?_
  refine g_val (d := 31) rfl rfl rfl rfl (v_field rfl (k := 2) (by kernel_rfl)) ?_
  refine g_val (d := 32) rfl rfl rfl rfl (v_load1 rfl (by kernel_rfl) ((gu_ne (by first | omega | (simp only [AHeap.next_push, AHeap.next_upd]; omega))).trans ((gu_ne (by first | omega | (simp only [AHeap.next_push, AHeap.next_upd]; omega))).trans ((gp_ne (by first | omega | (simp only [AHeap.next_push, AHeap.next_upd]; omega))).trans ((gp_ne (by first | omega | (simp only [AHeap.next_push, AHeap.next_upd]; omega))).trans ((gp_ne (by first | omega | (simp only [AHeap.next_push, AHeap.next_upd]; omega))).trans gk))))) rfl) ?_
  refine g_val (d := 33) rfl rfl rfl rfl (v_field rfl (k := 3) (by kernel_rfl)) ?_
  refine g_val (d := 34) rfl rfl rfl rfl (v_load1 rfl (by kernel_rfl) ((gu_ne (by first | omega | (simp only [AHeap.next_push, AHeap.next_upd]; omega))).trans gu_eq) rfl) ?_
  refine g_val (d := 35) rfl rfl rfl rfl (v_lookup (kt := 3) (et := 24) (r := .tuple [.agg [.int .i64 0, .int .i64 0], .bool false]) rfl rfl (by kernel_rfl) (by kernel_rfl) (by kernel_rfl) ((gu_ne (by first | omega | (simp only [AHeap.next_push, AHeap.next_upd]; omega))).trans ((gu_ne (by first | omega | (simp only [AHeap.next_push, AHeap.next_upd]; omega))).trans ((gp_ne (by first | omega | (simp only [AHeap.next_push, AHeap.next_upd]; omega))).trans ((gp_ne (by first | omega | (simp only [AHeap.next_push, AHeap.next_upd]; omega))).trans ((gp_ne (by first | omega | (simp only [AHeap.next_push, AHeap.next_upd]; omega))).trans gb))))) (by kernel_rfl)) ?_
  refine g_val (d := 28) rfl rfl rfl rfl rfl ?_
  refine g_val (d := 36) rfl rfl rfl rfl rfl ?_
  refine g_val (d := 37) rfl rfl rfl rfl rfl ?_
  refine g_new (d := 8) rfl rfl rfl rfl rfl (n_alloc (z := [.int .i64 0, .int .i64 0]) (by kernel_rfl)) rfl ?_
  show runSteps _ _ _ _ _ _ _ _ _ _
  refine s_eff0 rfl rfl rfl rfl (e_store (n := 2) (c' := [_, _]) rfl rfl (by kernel_rfl) (gp_eq rfl) rfl (Nat.le_of_ble_eq_true rfl) rfl rfl) rfl ?_
  show runSteps _ _ _ _ _ _ _ _ _ _
  refine s_val (d := 9) rfl rfl rfl rfl rfl rfl ?_
  refine seq_of EE_ok ?_
  refine seq_of EE_ok ?_
  -- region 3
  refine region_of EE_ok rfl ?_
  refine o_val (d := 38) rfl rfl rfl (v_field rfl (k := 0) (by kernel_rfl)) ?_
  refine o_val (d := 39) rfl rfl rfl (v_load1 rfl (by kernel_rfl) ((gu_ne (by first | omega | (simp only [AHeap.next_push, AHeap.next_upd]; omega))).trans ((gp_ne (by first | omega | (simp only [AHeap.next_push, AHeap.next_upd]; omega))).trans ((gu_ne (by first | omega | (simp only [AHeap.next_push, AHeap.next_upd]; omega))).trans gu_eq))) rfl) ?_
  refine o_val (d := 40) rfl rfl rfl (v_neq (r := true) rfl rfl rfl) ?_
  refine o_val (d := 41) rfl rfl rfl rfl ?_
  refine o_not (d := 42) rfl rfl rfl ?_
  refine o_not (d := 43) rfl rfl rfl ?_
  refine o_not (d := 44) rfl rfl rfl ?_
  refine o_not (d := 45) rfl rfl rfl ?_
  refine o_not (d := 46) rfl rfl rfl ?_
  refine o_not (d := 47) rfl rfl rfl ?_
  refine o_not (d := 48) rfl rfl rfl ?_
  refine o_val (d := 49) rfl rfl rfl rfl ?_
  refine o_val (d := 50) rfl rfl rfl rfl ?_
  refine o_not (d := 51) rfl rfl rfl ?_
  refine o_not (d := 52) rfl rfl rfl ?_
  refine o_not (d := 53) rfl rfl rfl ?_
  refine o_val (d := 54) rfl rfl rfl rfl ?_
  refine o_val (d := 55) rfl rfl rfl rfl ?_
  refine o_not (d := 56) rfl rfl rfl ?_
  refine o_not (d := 57) rfl rfl rfl ?_
  refine o_val (d := 58) rfl rfl rfl rfl ?_
  refine o_val (d := 59) rfl rfl rfl rfl ?_
  refine o_not (d := 60) rfl rfl rfl ?_
  refine o_not (d := 61) rfl rfl rfl ?_
  refine o_not (d := 62) rfl rfl rfl ?_
  refine o_val (d := 63) rfl rfl rfl rfl ?_
  refine o_val (d := 64) rfl rfl rfl rfl ?_
  refine o_not (d := 65) rfl rfl rfl ?_
  refine o_not (d := 66) rfl rfl rfl ?_
  refine o_not (d := 67) rfl rfl rfl ?_
  refine o_val (d := 68) rfl rfl rfl rfl ?_
  refine o_val (d := 69) rfl rfl rfl rfl ?_
  refine o_not (d := 70) rfl rfl rfl ?_
  refine o_not (d := 71) rfl rfl rfl ?_
  refine o_not (d := 72) rfl rfl rfl ?_
  refine o_val (d := 73) rfl rfl rfl rfl ?_
  refine cond_t EE_ok rfl ?_
  refine seq_of EE_ok ?_
  -- region 4
  refine region_of EE_ok rfl ?_
  refine o_val (d := 74) rfl rfl rfl (v_loadA (l := [_, _, _, _, _, _, _, _]) rfl (n := 8) (by kernel_rfl) ((gu_ne (by first | omega | (simp only [AHeap.next_push, AHeap.next_upd]; omega))).trans ((gp_ne (by first | omega | (simp only [AHeap.next_push, AHeap.next_upd]; omega))).trans ((gu_ne (by first | omega | (simp only [AHeap.next_push, AHeap.next_upd]; omega))).trans ((gu_ne (by first | omega | (simp only [AHeap.next_push, AHeap.next_upd]; omega))).trans ((gp_ne (by first | omega | (simp only [AHeap.next_push, AHeap.next_upd]; omega))).trans ((gp_ne (by first | omega | (simp only [AHeap.next_push, AHeap.next_upd]; omega))).trans (gp_eq rfl))))))) (Nat.le_of_ble_eq_true rfl) rfl) ?_
  refine o_eff0 rfl rfl rfl (e_store (n := 8) (c' := [_, _, _, _, _, _, _, _]) rfl rfl (by kernel_rfl) ((gu_ne (by first | omega | (simp only [AHeap.next_push, AHeap.next_upd]; omega))).trans ((gp_ne (by first | omega | (simp only [AHeap.next_push, AHeap.next_upd]; omega))).trans ((gu_ne (by first | omega | (simp only [AHeap.next_push, AHeap.next_upd]; omega))).trans ((gu_ne (by first | omega | (simp only [AHeap.next_push, AHeap.next_upd]; omega))).trans ((gp_ne (by first | omega | (simp only [AHeap.next_push, AHeap.next_upd]; omega))).trans ((gp_ne (by first | omega | (simp only [AHeap.next_push, AHeap.next_upd]; omega))).trans (gp_eq rfl))))))) rfl (Nat.le_of_ble_eq_true rfl) rfl rfl) ?_
  refine o_val (d := 5) rfl rfl rfl rfl ?_
  refine ret_run EE_ok ?_
  exact ⟨rfl, _, (res_cell (v_loadA (l := [_, _, _, _, _, _, _, _]) rfl (n := 8) (by kernel_rfl) gu_eq (Nat.le_of_ble_eq_true rfl) rfl) (res_tmp rfl res_nil)), _, rfl, (by first | omega | (simp only [AHeap.low_push, AHeap.low_upd, AHeap.next_push, AHeap.next_upd]; omega))⟩
end Go.Proofs
